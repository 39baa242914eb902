import PyProof.Rows.All
import Wide.All
import OpenK.AllK
import Wide.FinOn
import HandS.ForMost
import HandS.ForExc
import HandS.Wide
import HandS.IsInst
import HandS.Zip
import HandS.CallSlots
import HandS.CallLocal
import HandS.TupLe
import HandS.TupMul
import HandS.Conv
import HandS.TupAny
import HandS.Rev
import HandS.Exc
import HandS.ExcOwn
import HandS.ExcIs
import KE.GoesZip
import KE.GoesMore
import KE.GoesEnum
import HandS.Deep
import KE.KExcIs
import KE.DataFind
import HandS.Style
import PyProof.ReprRoads
import HandS.More
import HandS.SortInts
import HandS.TryOnly
import HandS.Dict
import KE.DataMinMax
import KE.SortData
import HandS.SetKeys
import KE.DataMinKey
import KE.KDictWalk
import HandS.SortKw
import HandS.SetFor
import HandS.Strs
import HandS.TupLen
import KE.KDictDisplayH
import KE.KDictSum
import HandS.Text
import KE.KDictZip
import HandS.MapObj
import HandS.ExcValue
import HandS.TupSets
import HandS.ExcInit
import HandS.ExcField
import HandS.Iter
import HandS.StrMore
import KE.KDictPairs
import HandS.SortOrd
import PySem.Challenge.RW_partbook_k64_asks_looked_at
set_option Elab.async false
set_option linter.all false
set_option maxRecDepth 100000
set_option maxHeartbeats 4000000
set_option autoImplicit false
namespace L2
open PySem PySem.Spec PyProof.Rows
def ExK (oe : Obj) (a : Addr) : HO := .frz oe (.ext fun h => h.get? a = some oe)
section
variable {X : Cx} {x n y : Str} {c : Value} {i j : Nat} {body : List Stmt} {np pos pos' yp ep ap : Pos} {tb : WX → TS} {Wout : WX}
end
end L2

namespace DM
open PySem PySem.Spec L2

inductive D where
  | non | bl (b : Bool) | int (i : Int) | str (x : Str) | tup (xs : List D) | loc (n : Nat) | ty (n : String) | cls (n : Nat) | fn (n : Nat) | exn (c : Nat) (p : List D) | scr (xs : List Int)
inductive O where
  | lst (xs : List D) | dic (t : Bool) (kvs : List (List Key × D)) | ins (t : Bool) (kvs : List (List Key × D)) | obj (c : Nat) (fs : List (Str × D))
abbrev Store := List O
inductive RV where
  | d (x : D) | l (fresh : Bool) (xs : List D)
inductive Res (T : Type) where
  | ok (a : T) (S : Store) | ex (c : Nat) (p : List D) (S : Store) | bad
inductive Slot where
  | no | v (x : D) | own (xs : List D) | bor (xs : List D)
abbrev Env := List Slot

structure GT where
  K : PySem.W.Frag
  cls : List Addr
  fns : List Addr
  exf : Nat → List D → Addr → Hp → Prop

def KT (H : Hp) (a : Addr) (vs : List V) : Prop := ∃ o : Obj, H a = some (.frz o (.tup vs)) ∧ o.dict = none
def ScrAt (K : PySem.W.Frag) (H : Hp) (a : Addr) (ns : List Int) : Prop := (∃ o, H a = some (.frz o (.lst (ns.map V.int)))) ∨ ∀ H', SqL K H' a (ns.map V.int)
mutual
inductive Rep (G : GT) (ρ : List Addr) (H : Hp) : D → V → Prop
  | non : Rep G ρ H .non .non
  | bl (b : Bool) : Rep G ρ H (.bl b) (.bl b)
  | int (i : Int) : Rep G ρ H (.int i) (.int i)
  | str (x : Str) : Rep G ρ H (.str x) (.str x)
  | tup {a : Addr} {vs : List V} {ds : List D} (h : KT H a vs) (r : Reps G ρ H ds vs) : Rep G ρ H (.tup ds) (.ref a)
  | loc {n : Nat} {a : Addr} (h : ρ[n]? = some a) : Rep G ρ H (.loc n) (.ref a)
  | ty (n : String) : Rep G ρ H (.ty n) (.ty n)
  | cls {n : Nat} {a : Addr} (h : G.cls[n]? = some a) : Rep G ρ H (.cls n) (.ref a)
  | fn {n : Nat} {a : Addr} (h : G.fns[n]? = some a) : Rep G ρ H (.fn n) (.ref a)
  | scr {ns : List Int} {a : Addr} (h : ScrAt G.K H a ns) : Rep G ρ H (.scr ns) (.ref a)
  | exn {c : Nat} {C a : Addr} {oe : Obj} (hC : G.cls[c]? = some C) (h : H a = some (ExK oe a)) (z : Zc (.ref C) none oe) (f : ∃ vs, oe.data = .fields vs) : Rep G ρ H (.exn c []) (.ref a)
  | exo {c : Nat} {C a dx : Addr} {oe : Obj} {d : D} {v : V} (hC : G.cls[c]? = some C) (h : H a = some (ExK oe a)) (z : Zc (.ref C) (some dx) oe) (f : ∃ vs, oe.data = .fields vs) (hd : H dx = some (.xd [(("at" : Str), v)])) (r : Rep G ρ H d v) : Rep G ρ H (.exn c [d]) (.ref a)
inductive Reps (G : GT) (ρ : List Addr) (H : Hp) : List D → List V → Prop
  | nil : Reps G ρ H [] []
  | cons {d : D} {ds : List D} {v : V} {vs : List V} (h : Rep G ρ H d v) (t : Reps G ρ H ds vs) : Reps G ρ H (d :: ds) (v :: vs)
end

structure TK (ρ : List Addr) (H : Hp) (ρ' : List Addr) (H' : Hp) : Prop where
  pre : ∃ t, ρ' = ρ ++ t
  tup : ∀ a xs, H a = some (.tup xs) → H' a = some (.tup xs)
  frz : ∀ a o u, H a = some (.frz o u) → H' a = some (.frz o u)
  xd : ∀ a fs, H a = some (.xd fs) → H' a = some (.xd fs)
theorem TK.refl (ρ : List Addr) (H : Hp) : TK ρ H ρ H := ⟨⟨[], by simp⟩, fun _ _ h => h, fun _ _ _ h => h, fun _ _ h => h⟩
theorem TK.trans {ρ ρ1 ρ2 : List Addr} {H H1 H2 : Hp} (a : TK ρ H ρ1 H1) (b : TK ρ1 H1 ρ2 H2) : TK ρ H ρ2 H2 := by
  obtain ⟨t, rfl⟩ := a.pre
  obtain ⟨u, rfl⟩ := b.pre
  exact ⟨⟨t ++ u, by simp⟩, fun x xs h => b.tup x xs (a.tup x xs h), fun x o u h => b.frz x o u (a.frz x o u h), fun x fs h => b.xd x fs (a.xd x fs h)⟩
theorem TK.same {ρ : List Addr} {H H' : Hp} (h : ∀ a o, H a = some o → H' a = some o) : TK ρ H ρ H' := ⟨⟨[], by simp⟩, fun a _ e => h a _ e, fun a _ _ e => h a _ e, fun a _ e => h a _ e⟩
theorem TK.new {ρ : List Addr} {H : Hp} {a : Addr} {y : HO} (n : H a = none) : TK ρ H (ρ ++ [a]) (upd H a y) := by
  have k : ∀ b o, H b = some o → upd H a y b = some o := fun b o e => by rw [upd_ne (fun z => by rw [z, n] at e; cases e)]; exact e
  exact ⟨⟨[a], rfl⟩, fun b xs e => k b _ e, fun b o u e => k b _ e, fun b fs e => k b _ e⟩
theorem KT.mono {ρ ρ' : List Addr} {H H' : Hp} {a : Addr} {xs : List V} (h : KT H a xs) (k : TK ρ H ρ' H') : KT H' a xs := let ⟨o, e, n⟩ := h; ⟨o, k.frz _ _ _ e, n⟩
theorem KT.sq {K : PySem.W.Frag} {H : Hp} {a : Addr} {xs : List V} (h : KT H a xs) : SqT K H a xs := let ⟨o, e, _⟩ := h; .inl (.inr ⟨o, e⟩)
theorem KT.new {H : Hp} {a : Addr} {xs : List V} {o : Obj} (n : o.dict = none) : KT (upd H a (.frz o (.tup xs))) a xs := ⟨o, upd_same, n⟩
theorem TK.at_ {ρ ρ' : List Addr} {H H' : Hp} {n : Nat} {a : Addr} (k : TK ρ H ρ' H') (h : ρ[n]? = some a) : ρ'[n]? = some a := by
  obtain ⟨t, rfl⟩ := k.pre
  rw [List.getElem?_append_left (List.getElem?_eq_some_iff.mp h).1]
  exact h

section
variable {G : GT} {ρ ρ' : List Addr} {H H' : Hp}
mutual
theorem Rep.mono (k : TK ρ H ρ' H') : ∀ {d : D} {v : V}, Rep G ρ H d v → Rep G ρ' H' d v
  | _, _, .non => .non
  | _, _, .bl b => .bl b
  | _, _, .int i => .int i
  | _, _, .str x => .str x
  | _, _, .tup h r => .tup (h.mono k) (Reps.mono k r)
  | _, _, .loc h => .loc (k.at_ h)
  | _, _, .ty n => .ty n
  | _, _, .cls h => .cls h
  | _, _, .fn h => .fn h
  | _, _, .scr h => .scr (h.elim (fun ⟨o, e⟩ => .inl ⟨o, k.frz _ _ _ e⟩) .inr)
  | _, _, .exn hC h z f => .exn hC (k.frz _ _ _ h) z f
  | _, _, .exo hC h z f hd r => .exo hC (k.frz _ _ _ h) z f (k.xd _ _ hd) (Rep.mono k r)
theorem Reps.mono (k : TK ρ H ρ' H') : ∀ {ds : List D} {vs : List V}, Reps G ρ H ds vs → Reps G ρ' H' ds vs
  | _, _, .nil => .nil
  | _, _, .cons h t => .cons (Rep.mono k h) (Reps.mono k t)
end
theorem Reps.len {ds : List D} {vs : List V} (r : Reps G ρ H ds vs) : ds.length = vs.length := by
  induction ds generalizing vs with
  | nil => cases r; rfl
  | cons d ds ih => cases r with | cons h t => simp [ih t]
theorem Reps.get {ds : List D} {vs : List V} (r : Reps G ρ H ds vs) : ∀ {i : Nat} {d : D}, ds[i]? = some d → ∃ v, vs[i]? = some v ∧ Rep G ρ H d v := by
  induction ds generalizing vs with
  | nil => intro i d h; simp at h
  | cons e ds ih =>
    cases r with
    | cons h t =>
      intro i d hd
      cases i with
      | zero => simp at hd; subst hd; exact ⟨_, rfl, h⟩
      | succ i => simpa using ih t (i := i) (d := d) (by simpa using hd)
theorem Reps.append {ds es : List D} {vs ws : List V} (r : Reps G ρ H ds vs) (q : Reps G ρ H es ws) : Reps G ρ H (ds ++ es) (vs ++ ws) := by
  induction ds generalizing vs with
  | nil => cases r; exact q
  | cons d ds ih => cases r with | cons h t => exact .cons h (ih t)
theorem Reps.one {d : D} {v : V} (h : Rep G ρ H d v) : Reps G ρ H [d] [v] := .cons h .nil
theorem Reps.set {ds : List D} {vs : List V} (r : Reps G ρ H ds vs) {d : D} {v : V} (h : Rep G ρ H d v) : ∀ i, Reps G ρ H (ds.set i d) (vs.set i v) := by
  induction ds generalizing vs with
  | nil => intro i; cases r; exact .nil
  | cons e ds ih =>
    cases r with
    | cons q t =>
      intro i
      cases i with
      | zero => exact .cons h t
      | succ i => exact .cons q (ih t i)
theorem Reps.take {ds : List D} {vs : List V} (r : Reps G ρ H ds vs) : ∀ n, Reps G ρ H (ds.take n) (vs.take n) := by
  induction ds generalizing vs with
  | nil => intro n; cases r; simp; exact .nil
  | cons e ds ih =>
    cases r with
    | cons q t =>
      intro n
      cases n with
      | zero => exact .nil
      | succ n => exact .cons q (ih t n)
theorem Reps.drop {ds : List D} {vs : List V} (r : Reps G ρ H ds vs) : ∀ n, Reps G ρ H (ds.drop n) (vs.drop n) := by
  induction ds generalizing vs with
  | nil => intro n; cases r; simp; exact .nil
  | cons e ds ih =>
    cases r with
    | cons q t =>
      intro n
      cases n with
      | zero => exact .cons q t
      | succ n => exact ih t n
theorem Reps.reverse {ds : List D} {vs : List V} (r : Reps G ρ H ds vs) : Reps G ρ H ds.reverse vs.reverse := by
  induction ds generalizing vs with
  | nil => cases r; exact .nil
  | cons e ds ih =>
    cases r with
    | cons q t =>
      rw [List.reverse_cons, List.reverse_cons]
      exact (ih t).append (.one q)
end

def OR (G : GT) (ρ : List Addr) (H : Hp) : O → Addr → Prop
  | .lst ds, a => ∃ vs, H a = some (.lst vs) ∧ Reps G ρ H ds vs
  | .dic true kvs, a => ∃ us : List (List Key × V), H a = some (.dT us) ∧ kvs.map (·.1) = us.map (·.1) ∧ Reps G ρ H (kvs.map (·.2)) (us.map (·.2))
  | .dic false kvs, a => ∃ us : List (Key × V), H a = some (.dK us) ∧ kvs.map (·.1) = us.map (fun q => [q.1]) ∧ Reps G ρ H (kvs.map (·.2)) (us.map (·.2))
  | .ins true kvs, a => ∃ (o : Obj) (us : List (List Key × V)), H a = some (.frz o (.dT us)) ∧ kvs.map (·.1) = us.map (·.1) ∧ Reps G ρ H (kvs.map (·.2)) (us.map (·.2))
  | .ins false kvs, a => ∃ (o : Obj) (us : List (Key × V)), H a = some (.frz o (.dK us)) ∧ kvs.map (·.1) = us.map (fun q => [q.1]) ∧ Reps G ρ H (kvs.map (·.2)) (us.map (·.2))
  | .obj c fs, a => ∃ (C dx : Addr) (us : List (Str × V)), G.cls[c]? = some C ∧ H a = some (.ins C dx us) ∧ fs.map (·.1) = us.map (·.1) ∧ Reps G ρ H (fs.map (·.2)) (us.map (·.2))
structure VS (G : GT) (P : Hp) (ρ : List Addr) (H : Hp) (S : Store) : Prop where
  len : ρ.length = S.length
  nd : ρ.Nodup
  st : ∀ (n : Nat) (a : Addr) (o : O), ρ[n]? = some a → S[n]? = some o → OR G ρ H o a
  pr : ∀ a o, P a = some o → H a = some o ∧ a ∉ ρ
theorem OR.mem {G : GT} {ρ : List Addr} {H : Hp} {o : O} {a : Addr} (h : OR G ρ H o a) : ∃ x, H a = some x ∧ True := by
  cases o with
  | lst ds => obtain ⟨vs, e, _⟩ := h; exact ⟨_, e, trivial⟩
  | dic t kvs => cases t with
    | true => obtain ⟨us, e, _⟩ := h; exact ⟨_, e, trivial⟩
    | false => obtain ⟨us, e, _⟩ := h; exact ⟨_, e, trivial⟩
  | ins t kvs => cases t with
    | true => obtain ⟨o, us, e, _⟩ := h; exact ⟨_, e, trivial⟩
    | false => obtain ⟨o, us, e, _⟩ := h; exact ⟨_, e, trivial⟩
  | obj c fs => obtain ⟨C, dx, us, _, e, _⟩ := h; exact ⟨_, e, trivial⟩
theorem OR.next {G : GT} {ρ ρ' : List Addr} {H H' : Hp} {o : O} {a : Addr} (h : OR G ρ H o a) (k : TK ρ H ρ' H') (e : H' a = H a) : OR G ρ' H' o a := by
  cases o with
  | lst ds => obtain ⟨vs, x, r⟩ := h; exact ⟨vs, by rw [e]; exact x, r.mono k⟩
  | dic t kvs => cases t with
    | true => obtain ⟨us, x, y, r⟩ := h; exact ⟨us, by rw [e]; exact x, y, r.mono k⟩
    | false => obtain ⟨us, x, y, r⟩ := h; exact ⟨us, by rw [e]; exact x, y, r.mono k⟩
  | ins t kvs => cases t with
    | true => obtain ⟨o, us, x, y, r⟩ := h; exact ⟨o, us, by rw [e]; exact x, y, r.mono k⟩
    | false => obtain ⟨o, us, x, y, r⟩ := h; exact ⟨o, us, by rw [e]; exact x, y, r.mono k⟩
  | obj c fs => obtain ⟨C, dx, us, z, x, y, r⟩ := h; exact ⟨C, dx, us, z, by rw [e]; exact x, y, r.mono k⟩
section
variable {G : GT} {P P' : Hp} {ρ ρ' : List Addr} {H H' : Hp} {S S' : Store}
theorem VS.tracked (s : VS G P ρ H S) {a : Addr} (h : a ∈ ρ) : ∃ x, H a = some x ∧ True := by
  obtain ⟨n, hn⟩ := List.getElem?_of_mem h
  have hl : n < S.length := by rw [← s.len]; exact (List.getElem?_eq_some_iff.mp hn).1
  exact (s.st n a S[n] hn (List.getElem?_eq_getElem hl)).mem
theorem VS.free (s : VS G P ρ H S) {a : Addr} (h : H a = none) : a ∉ ρ ∧ P a = none := by
  refine ⟨fun m => ?_, ?_⟩
  · obtain ⟨vs, e, _⟩ := s.tracked m
    rw [h] at e; cases e
  · cases q : P a with
    | none => rfl
    | some o => have z := (s.pr a o q).1; rw [h] at z; cases z
theorem VS.less (s : VS G P' ρ H S) (h : ∀ a o, P a = some o → P' a = some o) : VS G P ρ H S := ⟨s.len, s.nd, s.st, fun a o e => s.pr a o (h a o e)⟩
theorem VS.grow (s : VS G P ρ H S) (h : ∀ a o, H a = some o → H' a = some o) : VS G P ρ H' S := by
  refine ⟨s.len, s.nd, fun n a o e1 e2 => ?_, fun a o e => ⟨h a o (s.pr a o e).1, (s.pr a o e).2⟩⟩
  have q := s.st n a o e1 e2
  obtain ⟨x, ex, _⟩ := q.mem
  exact q.next (TK.same h) (by rw [ex]; exact h _ _ ex)
theorem tk_updl {a : Addr} {vs ws : List V} (h : H a = some (.lst vs)) : TK ρ H ρ (upd H a (.lst ws)) := by
  refine ⟨⟨[], by simp⟩, fun b xs e => ?_, fun b o u e => ?_, fun b fs e => ?_⟩
  · rw [upd_ne (ne_of e h (by intro z; cases z))]; exact e
  · rw [upd_ne (ne_of e h (by intro z; cases z))]; exact e
  · rw [upd_ne (ne_of e h (by intro z; cases z))]; exact e
theorem VS.updO {a : Addr} {vs ws : List V} (s : VS G P ρ H S) (h : H a = some (.lst vs)) (hr : a ∉ ρ) (hp : P a = none) : VS G P ρ (upd H a (.lst ws)) S := by
  refine ⟨s.len, s.nd, fun n b o e1 e2 => ?_, fun b o e => ?_⟩
  · have q := s.st n b o e1 e2
    have hb : b ≠ a := fun z => hr (z ▸ List.mem_of_getElem? e1)
    exact q.next (tk_updl h) (upd_ne hb)
  · have hb : b ≠ a := fun z => by rw [z, hp] at e; cases e
    rw [upd_ne hb]
    exact s.pr b o e
theorem VS.updS {a : Addr} {n : Nat} {vs ws : List V} {ds : List D} (s : VS G P ρ H S) (hn : ρ[n]? = some a) (h : H a = some (.lst vs)) (r : Reps G ρ (upd H a (.lst ws)) ds ws) : VS G P ρ (upd H a (.lst ws)) (S.set n (.lst ds)) := by
  refine ⟨by rw [List.length_set]; exact s.len, s.nd, fun m b o e1 e2 => ?_, fun b o e => ?_⟩
  · by_cases hm : m = n
    · subst hm
      rw [hn] at e1
      have eb : a = b := Option.some.inj e1
      subst eb
      have hl : m < S.length := by rw [← s.len]; exact (List.getElem?_eq_some_iff.mp hn).1
      rw [List.getElem?_set_self hl] at e2
      cases e2
      exact ⟨ws, upd_same, r⟩
    · rw [List.getElem?_set_ne (Ne.symm hm)] at e2
      have q := s.st m b o e1 e2
      have hb : b ≠ a := fun z => hm (by
        subst z
        have h1 := (List.getElem?_eq_some_iff.mp e1)
        have h2 := (List.getElem?_eq_some_iff.mp hn)
        exact (List.getElem_inj s.nd).mp (h1.2.trans h2.2.symm))
      exact q.next (tk_updl h) (upd_ne hb)
  · obtain ⟨q1, q2⟩ := s.pr b o e
    have hb : b ≠ a := fun z => q2 (z ▸ List.mem_of_getElem? hn)
    rw [upd_ne hb]
    exact ⟨q1, q2⟩
theorem VS.share {a : Addr} {vs : List V} {ds : List D} (s : VS G P ρ H S) (h : H a = some (.lst vs)) (r : Reps G ρ H ds vs) (hr : a ∉ ρ) (hp : P a = none) : VS G P (ρ ++ [a]) H (S ++ [.lst ds]) := by
  have tk : TK ρ H (ρ ++ [a]) H := ⟨⟨[a], rfl⟩, fun _ _ e => e, fun _ _ _ e => e, fun _ _ e => e⟩
  refine ⟨by simp [s.len], ?_, fun n b o e1 e2 => ?_, fun b o e => ⟨(s.pr b o e).1, ?_⟩⟩
  · rw [List.nodup_append]
    refine ⟨s.nd, by simp, fun x hx y hy => ?_⟩
    have : y = a := by simpa using hy
    subst this
    exact fun z => hr (z ▸ hx)
  · by_cases hn : n < ρ.length
    · rw [List.getElem?_append_left hn] at e1
      rw [List.getElem?_append_left (by rw [← s.len]; exact hn)] at e2
      have q := s.st n b o e1 e2
      exact q.next tk rfl
    · have hn' : n = ρ.length := by
        have := (List.getElem?_eq_some_iff.mp e1).1
        simp at this
        omega
      subst hn'
      rw [List.getElem?_append_right (Nat.le_refl _)] at e1
      rw [s.len, List.getElem?_append_right (Nat.le_refl _)] at e2
      simp at e1 e2
      subst e1 e2
      exact ⟨vs, h, r.mono tk⟩
  · intro m
    rcases List.mem_append.mp m with m | m
    · exact (s.pr b o e).2 m
    · have : b = a := by simpa using m
      subst this
      rw [hp] at e; cases e
end

def RR (G : GT) (P : Hp) (ρ : List Addr) (H : Hp) : RV → V → Prop
  | .d x, v => Rep G ρ H x v
  | .l true ds, v => ∃ a vs, v = .ref a ∧ H a = some (.lst vs) ∧ Reps G ρ H ds vs ∧ a ∉ ρ ∧ P a = none
  | .l false ds, v => ∃ a vs, v = .ref a ∧ P a = some (.lst vs) ∧ Reps G ρ H ds vs
inductive RRs (G : GT) (P : Hp) (ρ : List Addr) (H : Hp) : List RV → List V → Prop
  | nil : RRs G P ρ H [] []
  | cons {r : RV} {rs : List RV} {v : V} {vs : List V} (h : RR G P ρ H r v) (t : RRs G P ρ H rs vs) : RRs G P ρ H (r :: rs) (v :: vs)
def RX (G : GT) (ρ : List Addr) (H : Hp) (c : Nat) (p : List D) (cls : Value) (d : Option Addr) : Prop :=
  ∃ C, c ≤ 6 ∧ G.cls[c]? = some C ∧ cls = .ref C ∧ ((p = [] ∧ d = none) ∨ ∃ x dx v, p = [x] ∧ d = some dx ∧ H dx = some (.xd [("at", v)]) ∧ Rep G ρ H x v)
def Aft (G : GT) (E : XK) (P : Hp) (ρ : List Addr) (H : Hp) (r : Res RV) (Q : VK) : Prop :=
  match r with
  | .ok r S' => ∀ v ρ' H', VS G P ρ' H' S' → TK ρ H ρ' H' → RR G P ρ' H' r v → Q v H'
  | .ex c p S' => ∀ cls d ρ' H', VS G P ρ' H' S' → TK ρ H ρ' H' → RX G ρ' H' c p cls d → E cls d H'
  | .bad => False
def AftB (G : GT) (E : XK) (P : Hp) (ρ : List Addr) (H : Hp) (r : Res Bool) (Q : Bool → Hp → Prop) : Prop :=
  match r with
  | .ok b S' => ∀ ρ' H', VS G P ρ' H' S' → TK ρ H ρ' H' → Q b H'
  | .ex c p S' => ∀ cls d ρ' H', VS G P ρ' H' S' → TK ρ H ρ' H' → RX G ρ' H' c p cls d → E cls d H'
  | .bad => False
structure ES (G : GT) (P : Hp) (ρ : List Addr) (H : Hp) (σ : St) (es : Env) : Prop where
  len : σ.length = es.length
  val : ∀ (i : Nat) d, es[i]? = some (.v d) → ∃ x, σ[i]? = some (some x) ∧ Rep G ρ H d x
  lst : ∀ (i : Nat) ds, (es[i]? = some (.own ds) ∨ es[i]? = some (.bor ds)) → ∃ a vs, σ[i]? = some (some (.ref a)) ∧ P a = some (.lst vs) ∧ Reps G ρ H ds vs
abbrev ME := Env → Store → Res RV
abbrev MB := Env → Store → Res Bool
def rdE (G : GT) (W : WX) (m : ME) : TE := fun σ H Q => ∃ P ρ es S, VS G P ρ H S ∧ ES G P ρ H σ es ∧ Aft G (fun cls d H' => W cls d σ H') P ρ H (m es S) Q
def rdB (G : GT) (W : WX) (m : MB) : TT := fun σ H Q => ∃ P ρ es S, VS G P ρ H S ∧ ES G P ρ H σ es ∧ AftB G (fun cls d H' => W cls d σ H') P ρ H (m es S) Q
structure SE (G : GT) (W : WX) (X : Cx) (e : Expr) (m : ME) : Prop where
  k : X.K = G.K
  pe : PE X e (rdE G W m)
structure SB (G : GT) (W : WX) (X : Cx) (e : Expr) (m : MB) : Prop where
  k : X.K = G.K
  pt : PT X e (rdB G W m)
structure SBW (G : GT) (W : WX) (X : Cx) (e : Expr) (m : MB) : Prop where
  k : X.K = G.K
  pw : PW X e (rdB G W m)

section
variable {X : Cx} {e : Expr} {t t' : TE} {b b' : TT}
theorem PE.of (h : PE X e t) (k : ∀ σ H Q, t' σ H Q → t σ H Q) : PE X e t' := ⟨fun pins s σ H Q I q => h.run pins s σ H Q I (k σ H Q q)⟩
theorem PT.of (h : PT X e b) (k : ∀ σ H Q, b' σ H Q → b σ H Q) : PT X e b' := ⟨fun pins s σ H Q I q => h.run pins s σ H Q I (k σ H Q q)⟩
theorem PW.of (h : PW X e b) (k : ∀ σ H Q, b' σ H Q → b σ H Q) : PW X e b' := ⟨fun wh pins s σ H Q I q => h.run wh pins s σ H Q I (k σ H Q q)⟩
end

section
variable {G : GT} {P P' : Hp} {ρ ρ' : List Addr} {H H' : Hp} {S S' : Store} {σ : St} {es : Env} {E : XK}
theorem ES.next (q : ES G P ρ H σ es) (k : TK ρ H ρ' H') : ES G P ρ' H' σ es :=
  ⟨q.len, fun i d e => let ⟨x, h1, h2⟩ := q.val i d e; ⟨x, h1, h2.mono k⟩, fun i ds e => let ⟨a, vs, h1, h2, h3⟩ := q.lst i ds e; ⟨a, vs, h1, h2, h3.mono k⟩⟩
theorem ES.more (q : ES G P ρ H σ es) (s : ∀ a o, P a = some o → P' a = some o) : ES G P' ρ H σ es :=
  ⟨q.len, q.val, fun i ds e => let ⟨a, vs, h1, h2, h3⟩ := q.lst i ds e; ⟨a, vs, h1, s _ _ h2, h3⟩⟩
theorem Aft.next {r : Res RV} {Q : VK} (k : TK ρ H ρ' H') (h : Aft G E P ρ H r Q) : Aft G E P ρ' H' r Q := by
  cases r with
  | ok r S' => exact fun v ρ2 H2 s2 k2 rr => h v ρ2 H2 s2 (k.trans k2) rr
  | ex c p S' => exact fun cls d ρ2 H2 s2 k2 rx => h cls d ρ2 H2 s2 (k.trans k2) rx
  | bad => exact h
theorem AftB.next {r : Res Bool} {Q : Bool → Hp → Prop} (k : TK ρ H ρ' H') (h : AftB G E P ρ H r Q) : AftB G E P ρ' H' r Q := by
  cases r with
  | ok r S' => exact fun ρ2 H2 s2 k2 => h ρ2 H2 s2 (k.trans k2)
  | ex c p S' => exact fun cls d ρ2 H2 s2 k2 rx => h cls d ρ2 H2 s2 (k.trans k2) rx
  | bad => exact h
theorem RR.mono {r : RV} {v : V} (k : TK ρ H ρ' H') (h : RR G P ρ H r v) (hf : ∀ ds, r ≠ .l true ds) : RR G P ρ' H' r v := by
  cases r with
  | d x => exact Rep.mono k h
  | l f ds =>
    cases f with
    | true => exact absurd rfl (hf ds)
    | false => obtain ⟨a, vs, e, h1, h2⟩ := h; exact ⟨a, vs, e, h1, h2.mono k⟩
end
end DM

namespace DM
open PySem PySem.Spec L2

inductive OV where
  | d (x : D) | l (xs : List D)
def OV.rv : OV → RV
  | .d x => .d x
  | .l xs => .l true xs
def RV.weak : RV → RV
  | .d x => .d x
  | .l _ xs => .l false xs
def OP (G : GT) (ρ : List Addr) (H : Hp) : OV → V → Hp → Prop
  | .d x, v, H' => (∀ a o, H a = some o → H' a = some o) ∧ Rep G ρ H' x v
  | .l ds, v, H' => (∀ a o, H a = some o → H' a = some o) ∧ ∃ a vs, v = .ref a ∧ H a = none ∧ H' a = some (.lst vs) ∧ Reps G ρ H' ds vs
def SO2 (G : GT) (r : R2) (f : Store → RV → RV → Option OV) : Prop := ∀ P ρ H S r1 r2 x y (Q : VK) ov, VS G P ρ H S → RR G P ρ H r1 x → RR G P ρ H r2 y → f S r1 r2 = some ov → (∀ v H', OP G ρ H ov v H' → Q v H') → r x y H Q
def SO1 (G : GT) (r : V → Hp → VK → Prop) (f : Store → RV → Option OV) : Prop := ∀ P ρ H S r1 x (Q : VK) ov, VS G P ρ H S → RR G P ρ H r1 x → f S r1 = some ov → (∀ v H', OP G ρ H ov v H' → Q v H') → r x H Q
def SON (G : GT) (r : List V → Hp → VK → Prop) (f : Store → List RV → Option OV) : Prop := ∀ P ρ H S rs vs (Q : VK) ov, VS G P ρ H S → RRs G P ρ H rs vs → f S rs = some ov → (∀ v H', OP G ρ H ov v H' → Q v H') → r vs H Q

section
variable {G : GT} {P P' : Hp} {ρ ρ' : List Addr} {H H' : Hp} {S S' : Store} {σ : St} {es : Env} {E : XK} {Q : VK}
theorem protect {r : RV} {v : V} (s : VS G P ρ H S) (h : RR G P ρ H r v) : ∃ P', (∀ a o, P a = some o → P' a = some o) ∧ VS G P' ρ H S ∧ RR G P' ρ H r.weak v := by
  cases r with
  | d x => exact ⟨P, fun _ _ e => e, s, h⟩
  | l f ds =>
    cases f with
    | false => exact ⟨P, fun _ _ e => e, s, h⟩
    | true =>
      obtain ⟨a, vs, rfl, h1, h2, h3, h4⟩ := h
      refine ⟨upd P a (.lst vs), fun b o e => ?_, ⟨s.len, s.nd, s.st, fun b o e => ?_⟩, a, vs, rfl, upd_same, h2⟩
      · rw [upd_ne (fun z => by rw [z, h4] at e; cases e)]; exact e
      · by_cases hb : b = a
        · subst hb; rw [upd_same] at e; cases e; exact ⟨h1, h3⟩
        · rw [upd_ne hb] at e; exact s.pr b o e
theorem RR.weak_mono {r : RV} {v : V} (k : TK ρ H ρ' H') (h : RR G P ρ H r.weak v) : RR G P ρ' H' r.weak v := by
  refine RR.mono k h fun ds z => ?_
  cases r <;> cases z
theorem RR.more {r : RV} {v : V} (h : RR G P ρ H r.weak v) (s : ∀ a o, P a = some o → P' a = some o) : RR G P' ρ H r.weak v := by
  cases r with
  | d x => exact h
  | l f ds => obtain ⟨a, vs, e, h1, h2⟩ := h; exact ⟨a, vs, e, s _ _ h1, h2⟩
theorem op_end {ov : OV} (s : VS G P' ρ H S) (hp : ∀ a o, P a = some o → P' a = some o) (h : Aft G E P ρ H (.ok ov.rv S) Q) : ∀ v H', OP G ρ H ov v H' → Q v H' := by
  intro v H' op
  cases ov with
  | d x =>
    obtain ⟨g, r⟩ := op
    exact h v ρ H' ((s.less hp).grow g) (TK.same g) r
  | l ds =>
    obtain ⟨g, a, vs, rfl, n, e, r⟩ := op
    have f := s.free n
    refine h (.ref a) ρ H' ((s.less hp).grow g) (TK.same g) ⟨a, vs, rfl, e, r, f.1, ?_⟩
    cases q : P a with
    | none => rfl
    | some o => rw [hp a o q] at f; exact absurd f.2 (by simp)
end

def eC (x : D) : ME := fun _ S => .ok (.d x) S
def eVar (i : Nat) : ME := fun es S => match es[i]? with
  | some (.v x) => .ok (.d x) S
  | some (.own ds) => .ok (.l false ds) S
  | some (.bor ds) => .ok (.l false ds) S
  | _ => .bad
def Res.bind {T U : Type} (r : Res T) (f : T → Store → Res U) : Res U := match r with
  | .ok a S => f a S
  | .ex c p S => .ex c p S
  | .bad => .bad
def ofO (o : Option OV) (S : Store) : Res RV := match o with
  | some ov => .ok ov.rv S
  | none => .bad
def eOp2 (f : Store → RV → RV → Option OV) (a b : ME) : ME := fun es S => (a es S).bind fun x S1 => (b es S1).bind fun y S2 => ofO (f S2 x.weak y.weak) S2
def eOp1 (f : Store → RV → Option OV) (a : ME) : ME := fun es S => (a es S).bind fun x S1 => ofO (f S1 x.weak) S1
def eArgs : List ME → Env → Store → Res (List RV)
  | [], _, S => .ok [] S
  | m :: ms, es, S => (m es S).bind fun r S1 => (eArgs ms es S1).bind fun rs S2 => .ok (r.weak :: rs) S2
def eOpN (f : Store → List RV → Option OV) (ms : List ME) : ME := fun es S => (eArgs ms es S).bind fun rs S1 => ofO (f S1 rs) S1
def item (r : RV) (S : Store) : Res D := match r with
  | .d x => .ok x S
  | .l true ds => .ok (.loc S.length) (S ++ [.lst ds])
  | .l false _ => .bad
def eItems : List ME → Env → Store → Res (List D)
  | [], _, S => .ok [] S
  | m :: ms, es, S => ((m es S).bind item).bind fun d S1 => (eItems ms es S1).bind fun ds S2 => .ok (d :: ds) S2
open Classical in
noncomputable def eTup (ms : List ME) : ME := fun es S => (eItems ms es S).bind fun ds S1 => if ds.length ≤ sizeLine then .ok (.d (.tup ds)) S1 else .bad
open Classical in
noncomputable def eLst (ms : List ME) : ME := fun es S => (eItems ms es S).bind fun ds S1 => if ds.length ≤ sizeLine then .ok (.l true ds) S1 else .bad
def bOf (m : ME) : MB := fun es S => (m es S).bind fun r S1 => match r with
  | .d (.bl b) => .ok b S1
  | _ => .bad
def bAnd (a b : MB) : MB := fun es S => (a es S).bind fun x S1 => if x = true then b es S1 else .ok false S1
def bOr (a b : MB) : MB := fun es S => (a es S).bind fun x S1 => if x = true then .ok true S1 else b es S1
def bNot (a : MB) : MB := fun es S => (a es S).bind fun x S1 => .ok (!x) S1
def eAnd (a b : ME) : ME := fun es S => (a es S).bind fun r S1 => match r with
  | .d (.bl true) => b es S1
  | .d (.bl false) => .ok (.d (.bl false)) S1
  | _ => .bad
def eOr (a b : ME) : ME := fun es S => (a es S).bind fun r S1 => match r with
  | .d (.bl false) => b es S1
  | .d (.bl true) => .ok (.d (.bl true)) S1
  | _ => .bad
def eNot (a : ME) : ME := fun es S => (a es S).bind fun r S1 => match r with
  | .d (.bl b) => .ok (.d (.bl (!b))) S1
  | _ => .bad
def eIf (t : MB) (a b : ME) : ME := fun es S => (t es S).bind fun x S1 => if x = true then a es S1 else b es S1

section
variable {G : GT} {W : WX} {X : Cx} {a b c : Expr} {ma mb mc : ME} {pos : Pos}
theorem se_var {i : Nat} {x : Str} {pos : Pos} (k : X.K = G.K) (hN : X.N[i]? = some x) (hv : Vis X.env.scope x) (hd : (x == ("__debug__" : Str)) = false := by decide) (hcd : (x == ("__classdict__" : Str)) = false := by decide) : SE G W X (.Name x pos) (eVar i) := by
  refine ⟨k, PE.of (pe_var hN hv hd hcd) fun σ H Q h => ?_⟩
  obtain ⟨P, ρ, es, S, s, q, h⟩ := h
  unfold eVar at h
  split at h
  · rename_i x e
    obtain ⟨v, h1, h2⟩ := q.val i x e
    exact ⟨v, h1, h v ρ H s (TK.refl _ _) h2⟩
  · rename_i ds e
    obtain ⟨a, vs, h1, h2, h3⟩ := q.lst i ds (.inl e)
    exact ⟨.ref a, h1, h (.ref a) ρ H s (TK.refl _ _) ⟨a, vs, rfl, h2, h3⟩⟩
  · rename_i ds e
    obtain ⟨a, vs, h1, h2, h3⟩ := q.lst i ds (.inr e)
    exact ⟨.ref a, h1, h (.ref a) ρ H s (TK.refl _ _) ⟨a, vs, rfl, h2, h3⟩⟩
  · exact h.elim
theorem se_of {x : D} {v : V} (k : X.K = G.K) (h : PE X a (tC v)) (r : ∀ ρ H, Rep G ρ H x v) : SE G W X a (eC x) := by
  refine ⟨k, PE.of h fun σ H Q h => ?_⟩
  obtain ⟨P, ρ, es, S, s, q, h⟩ := h
  exact h v ρ H s (TK.refl _ _) (r ρ H)
theorem se_int {i j pos} (k : X.K = G.K) : SE G W X (.Constant (.int i) j pos) (eC (.int i)) := se_of k pe_int fun _ _ => .int i
theorem se_bl {i j pos} (k : X.K = G.K) : SE G W X (.Constant (.bool i) j pos) (eC (.bl i)) := se_of k pe_bl fun _ _ => .bl i
theorem se_non {j pos} (k : X.K = G.K) : SE G W X (.Constant .none j pos) (eC .non) := se_of k pe_non fun _ _ => .non
theorem se_str {i j pos} (k : X.K = G.K) : SE G W X (.Constant (.str i) j pos) (eC (.str i)) := se_of k pe_str fun _ _ => .str i
theorem se_ty {x : Str} {n : String} {pos} (k : X.K = G.K) (hg : Gl X x) (hm : X.mg x = none) (hv : bootBuiltins x = some (.type n)) (hn : x ≠ "__name__" := by decide) (hd : (x == ("__debug__" : Str)) = false := by decide) : SE G W X (.Name x pos) (eC (.ty n)) :=
  se_of k (pe_bltn (v := .ty n) hg hm hv rfl hn hd) fun _ _ => .ty n
theorem rdE_then {σ : St} {H : Hp} {Q : VK} {P : Hp} {ρ : List Addr} {es : Env} {S : Store} {f : RV → Store → Res RV} {R : VK} (s : VS G P ρ H S) (q : ES G P ρ H σ es) (h : Aft G (fun cls d H' => W cls d σ H') P ρ H ((ma es S).bind f) Q)
    (k : ∀ r S1 v ρ1 H1, ma es S = .ok r S1 → VS G P ρ1 H1 S1 → TK ρ H ρ1 H1 → RR G P ρ1 H1 r v → Aft G (fun cls d H' => W cls d σ H') P ρ1 H1 (f r S1) Q → R v H1) : rdE G W ma σ H R := by
  refine ⟨P, ρ, es, S, s, q, ?_⟩
  cases e : ma es S with
  | ok r S1 =>
    rw [e] at h
    exact fun v ρ1 H1 s1 k1 r1 => k r S1 v ρ1 H1 e s1 k1 r1 (Aft.next k1 h)
  | ex c p S1 =>
    rw [e] at h
    exact h
  | bad =>
    rw [e] at h
    exact h
theorem rdE_thenB {σ : St} {H : Hp} {Q : Bool → Hp → Prop} {P : Hp} {ρ : List Addr} {es : Env} {S : Store} {f : RV → Store → Res Bool} {R : VK} (s : VS G P ρ H S) (q : ES G P ρ H σ es) (h : AftB G (fun cls d H' => W cls d σ H') P ρ H ((ma es S).bind f) Q)
    (k : ∀ r S1 v ρ1 H1, ma es S = .ok r S1 → VS G P ρ1 H1 S1 → TK ρ H ρ1 H1 → RR G P ρ1 H1 r v → AftB G (fun cls d H' => W cls d σ H') P ρ1 H1 (f r S1) Q → R v H1) : rdE G W ma σ H R := by
  refine ⟨P, ρ, es, S, s, q, ?_⟩
  cases e : ma es S with
  | ok r S1 =>
    rw [e] at h
    exact fun v ρ1 H1 s1 k1 r1 => k r S1 v ρ1 H1 e s1 k1 r1 (AftB.next k1 h)
  | ex c p S1 =>
    rw [e] at h
    exact h
  | bad =>
    rw [e] at h
    exact h
theorem rdB_then {σ : St} {H : Hp} {Q : VK} {P : Hp} {ρ : List Addr} {es : Env} {S : Store} {m : MB} {f : Bool → Store → Res RV} {R : Bool → Hp → Prop} (s : VS G P ρ H S) (q : ES G P ρ H σ es) (h : Aft G (fun cls d H' => W cls d σ H') P ρ H ((m es S).bind f) Q)
    (k : ∀ r S1 ρ1 H1, m es S = .ok r S1 → VS G P ρ1 H1 S1 → TK ρ H ρ1 H1 → Aft G (fun cls d H' => W cls d σ H') P ρ1 H1 (f r S1) Q → R r H1) : rdB G W m σ H R := by
  refine ⟨P, ρ, es, S, s, q, ?_⟩
  cases e : m es S with
  | ok r S1 =>
    rw [e] at h
    exact fun ρ1 H1 s1 k1 => k r S1 ρ1 H1 e s1 k1 (Aft.next k1 h)
  | ex c p S1 =>
    rw [e] at h
    exact h
  | bad =>
    rw [e] at h
    exact h
theorem rdB_thenB {σ : St} {H : Hp} {Q : Bool → Hp → Prop} {P : Hp} {ρ : List Addr} {es : Env} {S : Store} {m : MB} {f : Bool → Store → Res Bool} {R : Bool → Hp → Prop} (s : VS G P ρ H S) (q : ES G P ρ H σ es) (h : AftB G (fun cls d H' => W cls d σ H') P ρ H ((m es S).bind f) Q)
    (k : ∀ r S1 ρ1 H1, m es S = .ok r S1 → VS G P ρ1 H1 S1 → TK ρ H ρ1 H1 → AftB G (fun cls d H' => W cls d σ H') P ρ1 H1 (f r S1) Q → R r H1) : rdB G W m σ H R := by
  refine ⟨P, ρ, es, S, s, q, ?_⟩
  cases e : m es S with
  | ok r S1 =>
    rw [e] at h
    exact fun ρ1 H1 s1 k1 => k r S1 ρ1 H1 e s1 k1 (AftB.next k1 h)
  | ex c p S1 =>
    rw [e] at h
    exact h
  | bad =>
    rw [e] at h
    exact h
theorem Aft.more {P P' : Hp} {ρ : List Addr} {H : Hp} {E : XK} {r : Res RV} {Q : VK} (hp : ∀ a o, P a = some o → P' a = some o) (hr : ∀ rv S', r = .ok rv S' → ∀ ds, rv ≠ .l false ds) (h : Aft G E P ρ H r Q) : Aft G E P' ρ H r Q := by
  have sub0 : ∀ a, P' a = none → P a = none := fun a e => by
    cases q : P a with
    | none => rfl
    | some o => rw [hp a o q] at e; cases e
  cases r with
  | ok rv S' =>
    intro v ρ' H' s k rr
    refine h v ρ' H' (s.less hp) k ?_
    cases rv with
    | d x => exact rr
    | l f ds =>
      cases f with
      | true => obtain ⟨a, vs, e, h1, h2, h3, h4⟩ := rr; exact ⟨a, vs, e, h1, h2, h3, sub0 a h4⟩
      | false => exact absurd rfl (hr _ _ rfl ds)
  | ex c p S' => exact fun cls d ρ' H' s k rx => h cls d ρ' H' (s.less hp) k rx
  | bad => exact h
theorem bind_rv {r : Res RV} {f : RV → Store → Res RV} (h : ∀ a S rv S', f a S = .ok rv S' → ∀ ds, rv ≠ .l false ds) : ∀ rv S', r.bind f = .ok rv S' → ∀ ds, rv ≠ .l false ds := by
  intro rv S' e
  cases r with
  | ok a S => exact h a S rv S' e
  | ex c p S => cases e
  | bad => cases e
theorem ofO_rv {o : Option OV} {S : Store} : ∀ rv S', ofO o S = .ok rv S' → ∀ ds, rv ≠ .l false ds := by
  intro rv S' e ds z
  cases o with
  | none => cases e
  | some ov =>
    subst z
    cases ov <;> (unfold ofO OV.rv at e; simp at e)

theorem op2_core {r : R2} {f : Store → RV → RV → Option OV} (hs : SO2 G r f) {σ : St} {H : Hp} {Q : VK} (h : rdE G W (eOp2 f ma mb) σ H Q) : rdE G W ma σ H fun x H1 => rdE G W mb σ H1 fun y H2 => r x y H2 Q := by
  obtain ⟨P, ρ, es, S, s, q, h⟩ := h
  refine rdE_then s q h fun r1 S1 v ρ1 H1 e1 s1 k1 rr h => ?_
  obtain ⟨P1, hp, s1', rr1⟩ := protect s1 rr
  refine rdE_then s1' ((q.next k1).more hp) (Aft.more hp (bind_rv fun _ _ => ofO_rv) h) fun r2 S2 w ρ2 H2 e2 s2 k2 rr2 h2 => ?_
  obtain ⟨P2, hp2, s2', rr2'⟩ := protect s2 rr2
  cases e : f S2 r1.weak r2.weak with
  | none => rw [e] at h2; exact h2.elim
  | some ov =>
    rw [e] at h2
    exact hs P2 ρ2 H2 S2 r1.weak r2.weak v w Q ov s2' (RR.more (RR.weak_mono k2 rr1) hp2) rr2' e (op_end s2' hp2 h2)
theorem op1_core {r : V → Hp → VK → Prop} {f : Store → RV → Option OV} (hs : SO1 G r f) {σ : St} {H : Hp} {Q : VK} (h : rdE G W (eOp1 f ma) σ H Q) : rdE G W ma σ H fun x H1 => r x H1 Q := by
  obtain ⟨P, ρ, es, S, s, q, h⟩ := h
  refine rdE_then s q h fun r1 S1 v ρ1 H1 e1 s1 k1 rr h => ?_
  obtain ⟨P1, hp, s1', rr1⟩ := protect s1 rr
  cases e : f S1 r1.weak with
  | none => rw [e] at h; exact h.elim
  | some ov =>
    rw [e] at h
    exact hs P1 ρ1 H1 S1 r1.weak v Q ov s1' rr1 e (op_end s1' hp h)
theorem se_op2 {op : Operator} {r : R2} {f : Store → RV → RV → Option OV} (ho : OpR X (binaryOp op) r) (hs : SO2 G r f) (ha : SE G W X a ma) (hb : SE G W X b mb) : SE G W X (.BinOp a op b pos) (eOp2 f ma mb) :=
  ⟨ha.k, PE.of (pe_op ho ha.pe hb.pe) fun _ _ _ h => op2_core hs h⟩
theorem se_cmp {op : CmpOp} {r : R2} {f : Store → RV → RV → Option OV} (ho : OpR X (compareOp op) r) (hs : SO2 G r f) (ha : SE G W X a ma) (hb : SE G W X b mb) (hm : behindInMarks op b = false) : SE G W X (.Compare a [op] [b] pos) (eOp2 f ma mb) :=
  ⟨ha.k, PE.of (pe_cmpR ho ha.pe hb.pe hm) fun _ _ _ h => op2_core hs h⟩
theorem se_un {op : UnaryOp} {r : V → Hp → VK → Prop} {f : Store → RV → Option OV} (ho : UnR X (unaryOp op) r) (hs : SO1 G r f) (ha : SE G W X a ma) : SE G W X (.UnaryOp op a pos) (eOp1 f ma) :=
  ⟨ha.k, PE.of (pe_un ho ha.pe) fun _ _ _ h => op1_core hs h⟩
theorem se_ix {r : R2} {f : Store → RV → RV → Option OV} (ho : IxR X r) (hs : SO2 G r f) (ha : SE G W X a ma) (hb : SE G W X b mb) (hp : PlainIx b) : SE G W X (.Subscript a b pos) (eOp2 f ma mb) :=
  ⟨ha.k, PE.of (pe_ix ho ha.pe hb.pe hp) fun _ _ _ h => op2_core hs h⟩

structure SA (G : GT) (W : WX) (X : Cx) (as : List Expr) (ms : List ME) : Prop where
  k : X.K = G.K
  pa : PA X as (fun σ H Q => ∃ P ρ es S, VS G P ρ H S ∧ ES G P ρ H σ es ∧ (match eArgs ms es S with
    | .ok rs S' => ∀ vs P' ρ' H', (∀ a o, P a = some o → P' a = some o) → VS G P' ρ' H' S' → TK ρ H ρ' H' → RRs G P' ρ' H' rs vs → Q vs H'
    | .ex c p S' => ∀ cls d ρ' H', VS G P ρ' H' S' → TK ρ H ρ' H' → RX G ρ' H' c p cls d → W cls d σ H'
    | .bad => False))
structure SI (G : GT) (W : WX) (X : Cx) (as : List Expr) (ms : List ME) : Prop where
  k : X.K = G.K
  pa : PA X as (fun σ H Q => ∃ P ρ es S, VS G P ρ H S ∧ ES G P ρ H σ es ∧ (match eItems ms es S with
    | .ok ds S' => ∀ vs ρ' H', VS G P ρ' H' S' → TK ρ H ρ' H' → Reps G ρ' H' ds vs → Q vs H'
    | .ex c p S' => ∀ cls d ρ' H', VS G P ρ' H' S' → TK ρ H ρ' H' → RX G ρ' H' c p cls d → W cls d σ H'
    | .bad => False))
theorem PA.of {as : List Expr} {t t' : TA} (h : PA X as t) (k : ∀ σ H Q, t' σ H Q → t σ H Q) : PA X as t' := ⟨fun pos pins s σ H Q I q => h.run pos pins s σ H Q I (k σ H Q q)⟩
theorem sa_nil (k : X.K = G.K) : SA G W X [] [] := by
  refine ⟨k, PA.of pa_nil fun σ H Q h => ?_⟩
  obtain ⟨P, ρ, es, S, s, q, h⟩ := h
  exact h [] P ρ H (fun _ _ e => e) s (TK.refl _ _) .nil
theorem si_nil (k : X.K = G.K) : SI G W X [] [] := by
  refine ⟨k, PA.of pa_nil fun σ H Q h => ?_⟩
  obtain ⟨P, ρ, es, S, s, q, h⟩ := h
  exact h [] ρ H s (TK.refl _ _) .nil
theorem sa_cons {as : List Expr} {ms : List ME} (ha : SE G W X a ma) (hr : SA G W X as ms) (hs : starEach (a :: as) X.env = (false, eval a X.env) :: starEach as X.env := by rfl) : SA G W X (a :: as) (ma :: ms) := by
  refine ⟨ha.k, PA.of (pa_cons ha.pe hr.pa hs) fun σ H Q h => ?_⟩
  obtain ⟨P, ρ, es, S, s, q, h⟩ := h
  refine ⟨P, ρ, es, S, s, q, ?_⟩
  unfold eArgs at h
  cases e : ma es S with
  | bad => rw [e] at h; exact h
  | ex c p S1 => rw [e] at h; exact h
  | ok r S1 =>
    rw [e] at h
    intro v ρ1 H1 s1 k1 rr
    obtain ⟨P1, hp, s1', rr1⟩ := protect s1 rr
    refine ⟨P1, ρ1, es, S1, s1', (q.next k1).more hp, ?_⟩
    dsimp only [Res.bind] at h
    cases e2 : eArgs ms es S1 with
    | bad => rw [e2] at h; exact h
    | ex c p S2 =>
      rw [e2] at h
      exact fun cls d ρ2 H2 s2 k2 rx => h cls d ρ2 H2 (s2.less hp) (k1.trans k2) rx
    | ok rs S2 =>
      rw [e2] at h
      intro vs P2 ρ2 H2 hp2 s2 k2 rrs
      exact h (v :: vs) P2 ρ2 H2 (fun a o z => hp2 a o (hp a o z)) s2 (k1.trans k2) (.cons (RR.more (RR.weak_mono k2 rr1) hp2) rrs)
theorem item_ok {P : Hp} {ρ : List Addr} {H : Hp} {S S1 : Store} {r : RV} {v : V} {d : D} (s : VS G P ρ H S) (h : RR G P ρ H r v) (e : item r S = .ok d S1) : ∃ ρ1, VS G P ρ1 H S1 ∧ TK ρ H ρ1 H ∧ Rep G ρ1 H d v := by
  cases r with
  | d x =>
    cases e
    exact ⟨ρ, s, TK.refl _ _, h⟩
  | l f ds =>
    cases f with
    | false => cases e
    | true =>
      cases e
      obtain ⟨a, vs, rfl, h1, h2, h3, h4⟩ := h
      have tk : TK ρ H (ρ ++ [a]) H := ⟨⟨[a], rfl⟩, fun _ _ e => e, fun _ _ _ e => e, fun _ _ e => e⟩
      refine ⟨ρ ++ [a], s.share h1 h2 h3 h4, tk, .loc ?_⟩
      rw [← s.len, List.getElem?_append_right (Nat.le_refl _), Nat.sub_self]
      rfl
theorem item_ex {r : RV} {S S' : Store} {c : Nat} {p : List D} : item r S ≠ .ex c p S' := by
  intro e
  cases r with
  | d x => cases e
  | l f ds => cases f <;> cases e
theorem si_cons {as : List Expr} {ms : List ME} (ha : SE G W X a ma) (hr : SI G W X as ms) (hs : starEach (a :: as) X.env = (false, eval a X.env) :: starEach as X.env := by rfl) : SI G W X (a :: as) (ma :: ms) := by
  refine ⟨ha.k, PA.of (pa_cons ha.pe hr.pa hs) fun σ H Q h => ?_⟩
  obtain ⟨P, ρ, es, S, s, q, h⟩ := h
  refine ⟨P, ρ, es, S, s, q, ?_⟩
  unfold eItems at h
  cases e : ma es S with
  | bad => rw [e] at h; exact h
  | ex c p S1 => rw [e] at h; exact h
  | ok r S1 =>
    rw [e] at h
    intro v ρ1 H1 s1 k1 rr
    dsimp only [Res.bind] at h
    cases e1 : item r S1 with
    | bad => rw [e1] at h; exact h.elim
    | ex c p S2 => exact (item_ex e1).elim
    | ok d S2 =>
      rw [e1] at h
      obtain ⟨ρ2, s2, k2, rd⟩ := item_ok s1 rr e1
      refine ⟨P, ρ2, es, S2, s2, q.next (k1.trans k2), ?_⟩
      dsimp only at h
      cases e2 : eItems ms es S2 with
      | bad => rw [e2] at h; exact h
      | ex c p S3 =>
        rw [e2] at h
        exact fun cls d ρ3 H3 s3 k3 rx => h cls d ρ3 H3 s3 ((k1.trans k2).trans k3) rx
      | ok ds S3 =>
        rw [e2] at h
        intro vs ρ3 H3 s3 k3 rs
        exact h (v :: vs) ρ3 H3 s3 ((k1.trans k2).trans k3) (.cons (rd.mono k3) rs)
theorem opN_core {r : List V → Hp → VK → Prop} {f : Store → List RV → Option OV} {as : List Expr} {ms : List ME} (hs : SON G r f) (ha : SA G W X as ms) {e : Expr} (hc : ∀ t, PA X as t → PE X e (tCB r t)) : SE G W X e (eOpN f ms) := by
  refine ⟨ha.k, PE.of (hc _ ha.pa) fun σ H Q h => ?_⟩
  obtain ⟨P, ρ, es, S, s, q, h⟩ := h
  refine ⟨P, ρ, es, S, s, q, ?_⟩
  unfold eOpN at h
  cases e : eArgs ms es S with
  | bad => rw [e] at h; exact h
  | ex c p S1 => rw [e] at h; exact h
  | ok rs S1 =>
    rw [e] at h
    intro vs P' ρ' H' hp s' k' rrs
    dsimp only [Res.bind] at h
    cases e1 : f S1 rs with
    | none => rw [e1] at h; exact h.elim
    | some ov =>
      rw [e1] at h
      exact hs P' ρ' H' S1 rs vs Q ov s' rrs e1 (op_end s' hp (Aft.next k' h))
theorem se_callB {x : Str} {p pos : Pos} {id : String} {r : List V → Hp → VK → Prop} {f : Store → List RV → Option OV} {as : List Expr} {ms : List ME} (hc : CallR X (.builtin id) r) (hs : SON G r f) (hg : Gl X x) (hm : X.mg x = none) (hv : bootBuiltins x = some (.builtin id)) (ha : SA G W X (a :: as) ms)
    (hn : x ≠ "__name__" := by decide) (hdb : (x == ("__debug__" : Str)) = false := by decide) (he : starEach (a :: as) X.env = (false, eval a X.env) :: starEach as X.env := by rfl) (hpl : (backTo pos (starEach as X.env)).any (·.1) = false := by rfl) : SE G W X (.Call (.Name x p) (a :: as) [] pos) (eOpN f ms) :=
  opN_core hs ha fun _ h => pe_callB hc hg hm hv h hn hdb he hpl
theorem se_callTy {x : Str} {p pos : Pos} {T : String} {r : List V → Hp → VK → Prop} {f : Store → List RV → Option OV} {as : List Expr} {ms : List ME} (hc : CallR X (.type T) r) (hs : SON G r f) (hg : Gl X x) (hm : X.mg x = none) (hv : bootBuiltins x = some (.type T)) (ha : SA G W X (a :: as) ms)
    (hn : x ≠ "__name__" := by decide) (hdb : (x == ("__debug__" : Str)) = false := by decide) (he : starEach (a :: as) X.env = (false, eval a X.env) :: starEach as X.env := by rfl) (hpl : (backTo pos (starEach as X.env)).any (·.1) = false := by rfl) : SE G W X (.Call (.Name x p) (a :: as) [] pos) (eOpN f ms) :=
  opN_core hs ha fun _ h => pe_callTy hc hg hm hv h hn hdb he hpl

def tTupK (t : TA) : TE := fun σ H Q => t σ H fun xs H1 => xs.length ≤ sizeLine ∧ ∀ p o, H1 p = none → Obj.dict o = none → Q (.ref p) (upd H1 p (.frz o (.tup xs)))
theorem laidK {X : Cx} {pins : List (Addr × Obj)} {σ : St} {H : Hp} {s : Shared} {xs : List V} {us : List Value} {tk : Nat} (I : Inv X pins σ H s) (z : xs.length ≤ sizeLine) (r : Vals xs us) :
    Inv X pins σ (upd H s.heap.objs.size (.frz { cls := .type "tuple", data := .seq us.toArray } (.tup xs))) { s with heap := s.heap.push { cls := .type "tuple", data := .seq us.toArray }, toks := tk } :=
  I.laid (t' := tk) (fun _ _ e => Heap.get?_push_of_some _ e) (Nat.le_refl _) ⟨Heap.get?_push_size _ rfl, z, us, r, ⟨_, Heap.get?_push_size _ rfl, rfl, _, rfl⟩⟩
theorem pe_tupK {X : Cx} {es : List Expr} {t : TA} {pos : Pos} {x1} (h : PA X es t) : PE X (.Tuple es x1 pos) (tTupK t) := by
  refine ⟨fun pins s σ H Q I hq => wpAny_Tuple_spliced (thn (h.run pos pins s σ H _ I hq) ?_)⟩
  rintro us s1 ⟨xs, H1, I1, r, z, q⟩
  exact ⟨by rw [← r.length]; exact z, .ref _, _, laidK (tk := s1.toks) I1 z r, rfl, q _ _ (I1.hok.fresh (Nat.le_refl _)) rfl⟩
theorem se_tup {as : List Expr} {ms : List ME} {k1} (ha : SI G W X as ms) : SE G W X (.Tuple as k1 pos) (eTup ms) := by
  refine ⟨ha.k, PE.of (pe_tupK ha.pa) fun σ H Q h => ?_⟩
  obtain ⟨P, ρ, es, S, s, q, h⟩ := h
  refine ⟨P, ρ, es, S, s, q, ?_⟩
  unfold eTup at h
  cases e : eItems ms es S with
  | bad => rw [e] at h; exact h
  | ex c p S1 => rw [e] at h; exact h
  | ok ds S1 =>
    rw [e] at h
    intro vs ρ' H' s' k' rs
    dsimp only [Res.bind] at h
    by_cases hz : ds.length ≤ sizeLine
    · rw [if_pos hz] at h
      refine ⟨by rw [← rs.len]; exact hz, fun p o hp ho => ?_⟩
      have g : ∀ b u, H' b = some u → upd H' p (.frz o (.tup vs)) b = some u := fun b u z => by rw [upd_ne (ne_of_none z hp)]; exact z
      exact h (.ref p) ρ' _ (s'.grow g) (k'.trans (TK.same g)) (.tup (KT.new ho) (rs.mono (TK.same g)))
    · rw [if_neg hz] at h; exact h.elim
theorem se_lst {as : List Expr} {ms : List ME} (ha : SI G W X as ms) : SE G W X (.List as pos) (eLst ms) := by
  refine ⟨ha.k, PE.of (pe_lst ha.pa) fun σ H Q h => ?_⟩
  obtain ⟨P, ρ, es, S, s, q, h⟩ := h
  refine ⟨P, ρ, es, S, s, q, ?_⟩
  unfold eLst at h
  cases e : eItems ms es S with
  | bad => rw [e] at h; exact h
  | ex c p S1 => rw [e] at h; exact h
  | ok ds S1 =>
    rw [e] at h
    intro vs ρ' H' s' k' rs
    dsimp only [Res.bind] at h
    by_cases hz : ds.length ≤ sizeLine
    · rw [if_pos hz] at h
      refine ⟨by rw [← rs.len]; exact hz, fun p hp => ?_⟩
      have g : ∀ a o, H' a = some o → upd H' p (.lst vs) a = some o := fun a o z => by rw [upd_ne (ne_of_none z hp)]; exact z
      exact h (.ref p) ρ' _ (s'.grow g) (k'.trans (TK.same g)) ⟨p, vs, rfl, upd_same, rs.mono (TK.same g), s'.free hp⟩
    · rw [if_neg hz] at h; exact h.elim

theorem rd_bOf {m : ME} {σ : St} {H : Hp} {Q : Bool → Hp → Prop} {R : VK} (h : rdB G W (bOf m) σ H Q) (k : ∀ b H1, Q b H1 → R (.bl b) H1) : rdE G W m σ H R := by
  obtain ⟨P, ρ, es, S, s, q, h⟩ := h
  refine rdE_thenB s q h fun r S1 v ρ1 H1 e1 s1 k1 rr h => ?_
  cases r with
  | l f ds => exact h.elim
  | d x =>
    cases x with
    | bl b =>
      cases rr
      exact k b H1 (h ρ1 H1 s1 (TK.refl _ _))
    | _ => exact h.elim
theorem sb_val (ha : SE G W X a ma) (he : ∀ whole, isTrue a X.env whole = (do let v ← whole; standAt a.pos; holding [v] (truthy v)) := by intro _; rfl) : SB G W X a (bOf ma) :=
  ⟨ha.k, PT.of (pt_val ha.pe he) fun _ _ _ h => rd_bOf h fun b H1 q => ⟨b, rfl, q⟩⟩
theorem sb_not {m : MB} (ha : SB G W X a m) : SB G W X (.UnaryOp .Not a pos) (bNot m) := by
  refine ⟨ha.k, PT.of (pt_not ha.pt) fun σ H Q h => ?_⟩
  obtain ⟨P, ρ, es, S, s, q, h⟩ := h
  exact rdB_thenB s q h fun r S1 ρ1 H1 e1 s1 k1 h => h ρ1 H1 s1 (TK.refl _ _)
theorem sbw_and1 {m : MB} (ha : SB G W X a m) : SBW G W X (.BoolOp .And [a] pos) m := ⟨ha.k, pw_and1 ha.pt⟩
theorem sbw_or1 {m : MB} (ha : SB G W X a m) : SBW G W X (.BoolOp .Or [a] pos) m := ⟨ha.k, pw_or1 ha.pt⟩
theorem sbw_and {m n : MB} {rest : List Expr} (ha : SB G W X a m) (hb : SBW G W X (.BoolOp .And (b :: rest) pos) n) : SBW G W X (.BoolOp .And (a :: b :: rest) pos) (bAnd m n) := by
  refine ⟨ha.k, PW.of (pw_and ha.pt hb.pw) fun σ H Q h => ?_⟩
  obtain ⟨P, ρ, es, S, s, q, h⟩ := h
  refine rdB_thenB s q h fun r S1 ρ1 H1 e1 s1 k1 h => ?_
  cases r with
  | true => exact ⟨P, ρ1, es, S1, s1, q.next k1, h⟩
  | false => exact h ρ1 H1 s1 (TK.refl _ _)
theorem sbw_or {m n : MB} {rest : List Expr} (ha : SB G W X a m) (hb : SBW G W X (.BoolOp .Or (b :: rest) pos) n) : SBW G W X (.BoolOp .Or (a :: b :: rest) pos) (bOr m n) := by
  refine ⟨ha.k, PW.of (pw_or ha.pt hb.pw) fun σ H Q h => ?_⟩
  obtain ⟨P, ρ, es, S, s, q, h⟩ := h
  refine rdB_thenB s q h fun r S1 ρ1 H1 e1 s1 k1 h => ?_
  cases r with
  | false => exact ⟨P, ρ1, es, S1, s1, q.next k1, h⟩
  | true => exact h ρ1 H1 s1 (TK.refl _ _)
theorem sb_w {m : MB} (h : SBW G W X a m) : SB G W X a m := ⟨h.k, h.pw.pt⟩
theorem se_one {op} {m : ME} (ha : SE G W X a m) : SE G W X (.BoolOp op [a] pos) m := ⟨ha.k, pe_one ha.pe⟩
theorem se_and {m n : ME} {rest : List Expr} (ha : SE G W X a m) (hb : SE G W X (.BoolOp .And (b :: rest) pos) n) : SE G W X (.BoolOp .And (a :: b :: rest) pos) (eAnd m n) := by
  refine ⟨ha.k, PE.of (pe_and ha.pe hb.pe) fun σ H Q h => ?_⟩
  obtain ⟨P, ρ, es, S, s, q, h⟩ := h
  refine rdE_then s q h fun r S1 v ρ1 H1 e1 s1 k1 rr h => ?_
  cases r with
  | l f ds => exact h.elim
  | d x =>
    cases x with
    | bl b =>
      cases rr
      cases b with
      | true => exact ⟨true, rfl, P, ρ1, es, S1, s1, q.next k1, h⟩
      | false => exact ⟨false, rfl, h (.bl false) ρ1 H1 s1 (TK.refl _ _) (.bl false)⟩
    | _ => exact h.elim
theorem se_not {m : ME} (ha : SE G W X a m) : SE G W X (.UnaryOp .Not a pos) (eNot m) := by
  refine ⟨ha.k, PE.of (pe_not ha.pe) fun σ H Q h => ?_⟩
  obtain ⟨P, ρ, es, S, s, q, h⟩ := h
  refine rdE_then s q h fun r S1 v ρ1 H1 e1 s1 k1 rr h => ?_
  cases r with
  | l f ds => exact h.elim
  | d x =>
    cases x with
    | bl b =>
      cases rr
      exact ⟨b, rfl, h (.bl (!b)) ρ1 H1 s1 (TK.refl _ _) (.bl _)⟩
    | _ => exact h.elim
theorem se_if {t : MB} (ht : SB G W X c t) (ha : SE G W X a ma) (hb : SE G W X b mb) : SE G W X (.IfExp c a b pos) (eIf t ma mb) := by
  refine ⟨ha.k, PE.of (pe_ifExp ht.pt ha.pe hb.pe) fun σ H Q h => ?_⟩
  obtain ⟨P, ρ, es, S, s, q, h⟩ := h
  refine rdB_then s q h fun r S1 ρ1 H1 e1 s1 k1 h => ?_
  cases r with
  | true => exact ⟨P, ρ1, es, S1, s1, q.next k1, h⟩
  | false => exact ⟨P, ρ1, es, S1, s1, q.next k1, h⟩
end
end DM

namespace DM
open PySem PySem.Spec L2

inductive SR where
  | nx (es : Env) (S : Store) | rt (r : RV) (S : Store) | bk (es : Env) (S : Store) | ct (es : Env) (S : Store) | ex (c : Nat) (p : List D) (es : Env) (S : Store) | bad
abbrev MS := Env → Store → SR
structure SS (G : GT) (P : Hp) (ρ : List Addr) (H : Hp) (σ : St) (es : Env) : Prop where
  len : σ.length = es.length
  val : ∀ (i : Nat) d, es[i]? = some (.v d) → ∃ x, σ[i]? = some (some x) ∧ Rep G ρ H d x
  bor : ∀ (i : Nat) ds, es[i]? = some (.bor ds) → ∃ a vs, σ[i]? = some (some (.ref a)) ∧ P a = some (.lst vs) ∧ Reps G ρ H ds vs
  own : ∀ (i : Nat) ds, es[i]? = some (.own ds) → ∃ a vs, σ[i]? = some (some (.ref a)) ∧ H a = some (.lst vs) ∧ Reps G ρ H ds vs ∧ a ∉ ρ ∧ P a = none
  dis : ∀ (i j : Nat) ds es' a, es[i]? = some (.own ds) → es[j]? = some (.own es') → σ[i]? = some (some (.ref a)) → σ[j]? = some (some (.ref a)) → i = j
structure TKS (ρ : List Addr) (H : Hp) (σ : St) (es : Env) (ρ' : List Addr) (H' : Hp) (σ' : St) (es' : Env) : Prop where
  tk : TK ρ H ρ' H'
  bor : ∀ (j : Nat) ds, es'[j]? = some (.bor ds) → es[j]? = some (.bor ds) ∧ σ'[j]? = σ[j]?
theorem TKS.refl (ρ : List Addr) (H : Hp) (σ : St) (es : Env) : TKS ρ H σ es ρ H σ es := ⟨TK.refl _ _, fun _ _ e => ⟨e, rfl⟩⟩
theorem TKS.trans {ρ ρ1 ρ2 : List Addr} {H H1 H2 : Hp} {σ σ1 σ2 : St} {es es1 es2 : Env} (a : TKS ρ H σ es ρ1 H1 σ1 es1) (b : TKS ρ1 H1 σ1 es1 ρ2 H2 σ2 es2) : TKS ρ H σ es ρ2 H2 σ2 es2 :=
  ⟨a.tk.trans b.tk, fun j ds e => let ⟨h1, h2⟩ := b.bor j ds e; let ⟨h3, h4⟩ := a.bor j ds h1; ⟨h3, h2.trans h4⟩⟩
theorem TKS.of {ρ ρ1 : List Addr} {H H1 : Hp} {σ : St} {es : Env} (a : TK ρ H ρ1 H1) : TKS ρ H σ es ρ1 H1 σ es := ⟨a, fun _ _ e => ⟨e, rfl⟩⟩
def AftS (G : GT) (W : WX) (P : Hp) (ρ : List Addr) (H : Hp) (σ : St) (es : Env) (r : SR) (D : Ends) : Prop :=
  match r with
  | .nx es' S' => ∀ σ' ρ' H', VS G P ρ' H' S' → SS G P ρ' H' σ' es' → TKS ρ H σ es ρ' H' σ' es' → D.nx σ' H'
  | .rt r S' => (∀ ds, r ≠ .l false ds) ∧ ∀ v ρ' H', VS G P ρ' H' S' → TK ρ H ρ' H' → RR G P ρ' H' r v → D.rt v H'
  | .bk es' S' => ∀ σ' ρ' H', VS G P ρ' H' S' → SS G P ρ' H' σ' es' → TKS ρ H σ es ρ' H' σ' es' → D.bk σ' H'
  | .ct es' S' => ∀ σ' ρ' H', VS G P ρ' H' S' → SS G P ρ' H' σ' es' → TKS ρ H σ es ρ' H' σ' es' → D.ct σ' H'
  | .ex c p es' S' => ∀ cls d σ' ρ' H', VS G P ρ' H' S' → SS G P ρ' H' σ' es' → TKS ρ H σ es ρ' H' σ' es' → RX G ρ' H' c p cls d → W cls d σ' H'
  | .bad => False
def rdS (G : GT) (W : WX) (m : MS) : TS := fun D σ H => ∃ P ρ es S, VS G P ρ H S ∧ SS G P ρ H σ es ∧ AftS G W P ρ H σ es (m es S) D
structure SP1 (G : GT) (W : WX) (X : Cx) (st : Stmt) (m : MS) : Prop where
  k : X.K = G.K
  ps : PS X st (rdS G W m)
structure SPs (G : GT) (W : WX) (X : Cx) (sts : List Stmt) (m : MS) : Prop where
  k : X.K = G.K
  pss : PSs X sts (rdS G W m)
theorem PS.of {X : Cx} {st : Stmt} {t t' : TS} (h : PS X st t) (k : ∀ D σ H, t' D σ H → t D σ H) : PS X st t' := ⟨fun pins s σ H D I q => h.run pins s σ H D I (k D σ H q)⟩
theorem PSs.of {X : Cx} {st : List Stmt} {t t' : TS} (h : PSs X st t) (k : ∀ D σ H, t' D σ H → t D σ H) : PSs X st t' := ⟨fun pins s σ H D I q => h.run pins s σ H D I (k D σ H q)⟩

section
variable {G : GT} {W : WX} {P P' : Hp} {ρ ρ' ρ1 : List Addr} {H H' H1 : Hp} {S S' : Store} {σ σ' σ1 : St} {es es' es1 : Env} {D : Ends}
theorem AftS.next {r : SR} (k : TKS ρ H σ es ρ1 H1 σ1 es1) (h : AftS G W P ρ H σ es r D) : AftS G W P ρ1 H1 σ1 es1 r D := by
  cases r with
  | nx es' S' => exact fun σ' ρ' H' s q t => h σ' ρ' H' s q (k.trans t)
  | bk es' S' => exact fun σ' ρ' H' s q t => h σ' ρ' H' s q (k.trans t)
  | ct es' S' => exact fun σ' ρ' H' s q t => h σ' ρ' H' s q (k.trans t)
  | ex c p es' S' => exact fun cls d σ' ρ' H' s q t rx => h cls d σ' ρ' H' s q (k.trans t) rx
  | rt r S' => exact ⟨h.1, fun v ρ' H' s t rr => h.2 v ρ' H' s (k.tk.trans t) rr⟩
  | bad => exact h
theorem none_sub (hp : ∀ a o, P a = some o → P' a = some o) {a : Addr} (e : P' a = none) : P a = none := by
  cases q : P a with
  | none => rfl
  | some o => rw [hp a o q] at e; cases e
theorem SS.less (q : SS G P ρ H σ es) (hp : ∀ a o, P a = some o → P' a = some o) (k : TKS ρ H σ es ρ' H' σ' es') (q' : SS G P' ρ' H' σ' es') : SS G P ρ' H' σ' es' := by
  refine ⟨q'.len, q'.val, fun i ds e => ?_, fun i ds e => ?_, q'.dis⟩
  · obtain ⟨h1, h2⟩ := k.bor i ds e
    obtain ⟨a, vs, e1, e2, e3⟩ := q.bor i ds h1
    exact ⟨a, vs, h2.trans e1, e2, e3.mono k.tk⟩
  · obtain ⟨a, vs, e1, e2, e3, e4, e5⟩ := q'.own i ds e
    exact ⟨a, vs, e1, e2, e3, e4, none_sub hp e5⟩
theorem RR.less {r : RV} {v : V} (hp : ∀ a o, P a = some o → P' a = some o) (hr : ∀ ds, r ≠ .l false ds) (h : RR G P' ρ H r v) : RR G P ρ H r v := by
  cases r with
  | d x => exact h
  | l f ds =>
    cases f with
    | true => obtain ⟨a, vs, e, h1, h2, h3, h4⟩ := h; exact ⟨a, vs, e, h1, h2, h3, none_sub hp h4⟩
    | false => exact absurd rfl (hr ds)
theorem AftS.more {r : SR} (q : SS G P ρ H σ es) (hp : ∀ a o, P a = some o → P' a = some o) (h : AftS G W P ρ H σ es r D) : AftS G W P' ρ H σ es r D := by
  cases r with
  | nx es' S' => exact fun σ' ρ' H' s q' t => h σ' ρ' H' (s.less hp) (q.less hp t q') t
  | bk es' S' => exact fun σ' ρ' H' s q' t => h σ' ρ' H' (s.less hp) (q.less hp t q') t
  | ct es' S' => exact fun σ' ρ' H' s q' t => h σ' ρ' H' (s.less hp) (q.less hp t q') t
  | ex c p es' S' => exact fun cls d σ' ρ' H' s q' t rx => h cls d σ' ρ' H' (s.less hp) (q.less hp t q') t rx
  | rt r S' => exact ⟨h.1, fun v ρ' H' s t rr => h.2 v ρ' H' (s.less hp) t (RR.less hp h.1 rr)⟩
  | bad => exact h

def IsOwn (σ : St) (es : Env) (a : Addr) : Prop := ∃ (i : Nat) (ds : List DM.D), es[i]? = some (Slot.own ds) ∧ σ[i]? = some (some (V.ref a))
open Classical in
noncomputable def plus (P H : Hp) (σ : St) (es : Env) : Hp := fun a => if IsOwn σ es a then H a else P a
theorem plus_own {a : Addr} (h : IsOwn σ es a) : plus P H σ es a = H a := if_pos h
theorem plus_not {a : Addr} (h : ¬ IsOwn σ es a) : plus P H σ es a = P a := if_neg h
theorem SS.sub (q : SS G P ρ H σ es) : ∀ a o, P a = some o → plus P H σ es a = some o := fun a o e => by
  rw [plus_not]
  · exact e
  · rintro ⟨i, ds, h1, h2⟩
    obtain ⟨b, vs, e1, e2, e3, e4, e5⟩ := q.own i ds h1
    rw [h2] at e1
    cases e1
    rw [e] at e5; cases e5
theorem SS.vs (q : SS G P ρ H σ es) (s : VS G P ρ H S) : VS G (plus P H σ es) ρ H S := by
  refine ⟨s.len, s.nd, s.st, fun a o e => ?_⟩
  by_cases h : IsOwn σ es a
  · rw [plus_own h] at e
    obtain ⟨i, ds, h1, h2⟩ := h
    obtain ⟨b, vs, e1, e2, e3, e4, e5⟩ := q.own i ds h1
    rw [h2] at e1
    cases e1
    exact ⟨e, e4⟩
  · rw [plus_not h] at e
    exact s.pr a o e
theorem SS.toES (q : SS G P ρ H σ es) : ES G (plus P H σ es) ρ H σ es := by
  refine ⟨q.len, q.val, fun i ds e => ?_⟩
  rcases e with e | e
  · obtain ⟨a, vs, e1, e2, e3, e4, e5⟩ := q.own i ds e
    exact ⟨a, vs, e1, by rw [plus_own ⟨i, ds, e, e1⟩]; exact e2, e3⟩
  · obtain ⟨a, vs, e1, e2, e3⟩ := q.bor i ds e
    exact ⟨a, vs, e1, q.sub _ _ e2, e3⟩
theorem SS.next (q : SS G P ρ H σ es) (s : VS G (plus P H σ es) ρ' H' S') (k : TK ρ H ρ' H') : SS G P ρ' H' σ es := by
  refine ⟨q.len, fun i d e => ?_, fun i ds e => ?_, fun i ds e => ?_, q.dis⟩
  · obtain ⟨x, h1, h2⟩ := q.val i d e
    exact ⟨x, h1, h2.mono k⟩
  · obtain ⟨a, vs, e1, e2, e3⟩ := q.bor i ds e
    exact ⟨a, vs, e1, e2, e3.mono k⟩
  · obtain ⟨a, vs, e1, e2, e3, e4, e5⟩ := q.own i ds e
    have p : plus P H σ es a = some (.lst vs) := by rw [plus_own ⟨i, ds, e, e1⟩]; exact e2
    exact ⟨a, vs, e1, (s.pr _ _ p).1, e3.mono k, (s.pr _ _ p).2, e5⟩
def bindS {T : Type} (r : Res T) (es : Env) (f : T → Store → SR) : SR := match r with
  | .ok a S => f a S
  | .ex c p S => .ex c p es S
  | .bad => .bad
theorem st_thenS {ma : ME} {f : RV → Store → SR} {R : VK} (s : VS G P ρ H S) (q : SS G P ρ H σ es) (h : AftS G W P ρ H σ es (bindS (ma es S) es f) D)
    (k : ∀ r S1 v ρ1 H1, VS G (plus P H σ es) ρ1 H1 S1 → SS G P ρ1 H1 σ es → TK ρ H ρ1 H1 → RR G (plus P H σ es) ρ1 H1 r v → AftS G W P ρ1 H1 σ es (f r S1) D → R v H1) : rdE G W ma σ H R := by
  refine ⟨_, ρ, es, S, q.vs s, q.toES, ?_⟩
  cases e : ma es S with
  | ok r S1 =>
    rw [e] at h
    exact fun v ρ1 H1 s1 k1 rr => k r S1 v ρ1 H1 s1 (q.next s1 k1) k1 rr (AftS.next (TKS.of k1) h)
  | ex c p S1 =>
    rw [e] at h
    exact fun cls d ρ1 H1 s1 k1 rx => h cls d σ ρ1 H1 (s1.less q.sub) (q.next s1 k1) (TKS.of k1) rx
  | bad => rw [e] at h; exact h.elim
theorem st_thenB {mb : MB} {f : Bool → Store → SR} {R : Bool → Hp → Prop} (s : VS G P ρ H S) (q : SS G P ρ H σ es) (h : AftS G W P ρ H σ es (bindS (mb es S) es f) D)
    (k : ∀ r S1 ρ1 H1, VS G (plus P H σ es) ρ1 H1 S1 → SS G P ρ1 H1 σ es → TK ρ H ρ1 H1 → AftS G W P ρ1 H1 σ es (f r S1) D → R r H1) : rdB G W mb σ H R := by
  refine ⟨_, ρ, es, S, q.vs s, q.toES, ?_⟩
  cases e : mb es S with
  | ok r S1 =>
    rw [e] at h
    exact fun ρ1 H1 s1 k1 => k r S1 ρ1 H1 s1 (q.next s1 k1) k1 (AftS.next (TKS.of k1) h)
  | ex c p S1 =>
    rw [e] at h
    exact fun cls d ρ1 H1 s1 k1 rx => h cls d σ ρ1 H1 (s1.less q.sub) (q.next s1 k1) (TKS.of k1) rx
  | bad => rw [e] at h; exact h.elim

theorem get_set {T : Type} {l : List T} {i j : Nat} {a b : T} (h : (l.set i a)[j]? = some b) : (i = j ∧ i < l.length ∧ a = b) ∨ (i ≠ j ∧ l[j]? = some b) := by
  rw [List.getElem?_set] at h
  by_cases hij : i = j
  · rw [if_pos hij] at h
    by_cases hl : i < l.length
    · rw [if_pos hl] at h; exact .inl ⟨hij, hl, Option.some.inj h⟩
    · rw [if_neg hl] at h; cases h
  · rw [if_neg hij] at h; exact .inr ⟨hij, h⟩
theorem SS.setV (q : SS G P ρ H σ es) {i : Nat} {d : DM.D} {x : V} (r : Rep G ρ H d x) : SS G P ρ H (σ.set i (some x)) (es.set i (.v d)) := by
  have sg : ∀ (j : Nat), i ≠ j → (σ.set i (some x))[j]? = σ[j]? := fun j h => by rw [List.getElem?_set_ne h]
  refine ⟨by simp [q.len], fun j e h => ?_, fun j ds h => ?_, fun j ds h => ?_, fun j k ds es' a h1 h2 h3 h4 => ?_⟩
  · rcases get_set h with ⟨rfl, hl, e1⟩ | ⟨hn, h⟩
    · cases e1
      exact ⟨x, by rw [List.getElem?_set_self (by rw [q.len]; exact hl)], r⟩
    · rw [sg j hn]; exact q.val j e h
  · rcases get_set h with ⟨rfl, hl, e1⟩ | ⟨hn, h⟩
    · cases e1
    · rw [sg j hn]; exact q.bor j ds h
  · rcases get_set h with ⟨rfl, hl, e1⟩ | ⟨hn, h⟩
    · cases e1
    · rw [sg j hn]; exact q.own j ds h
  · rcases get_set h1 with ⟨rfl, hl, e1⟩ | ⟨hn, h1⟩
    · cases e1
    · rcases get_set h2 with ⟨rfl, hl, e1⟩ | ⟨hn2, h2⟩
      · cases e1
      · rw [sg j hn] at h3
        rw [sg k hn2] at h4
        exact q.dis j k ds es' a h1 h2 h3 h4
theorem SS.setN (q : SS G P ρ H σ es) {i : Nat} {x : Option V} : SS G P ρ H (σ.set i x) (es.set i .no) := by
  have sg : ∀ (j : Nat), i ≠ j → (σ.set i x)[j]? = σ[j]? := fun j h => by rw [List.getElem?_set_ne h]
  refine ⟨by simp [q.len], fun j e h => ?_, fun j ds h => ?_, fun j ds h => ?_, fun j k ds es' a h1 h2 h3 h4 => ?_⟩
  · rcases get_set h with ⟨rfl, hl, e1⟩ | ⟨hn, h⟩
    · cases e1
    · rw [sg j hn]; exact q.val j e h
  · rcases get_set h with ⟨rfl, hl, e1⟩ | ⟨hn, h⟩
    · cases e1
    · rw [sg j hn]; exact q.bor j ds h
  · rcases get_set h with ⟨rfl, hl, e1⟩ | ⟨hn, h⟩
    · cases e1
    · rw [sg j hn]; exact q.own j ds h
  · rcases get_set h1 with ⟨rfl, hl, e1⟩ | ⟨hn, h1⟩
    · cases e1
    · rcases get_set h2 with ⟨rfl, hl, e1⟩ | ⟨hn2, h2⟩
      · cases e1
      · rw [sg j hn] at h3
        rw [sg k hn2] at h4
        exact q.dis j k ds es' a h1 h2 h3 h4
theorem SS.setO (q : SS G P ρ H σ es) {i : Nat} {ds : List DM.D} {a : Addr} {vs : List V} (h1 : H a = some (.lst vs)) (r : Reps G ρ H ds vs) (h2 : a ∉ ρ) (h3 : P a = none) (h4 : ∀ (j : Nat) es', j ≠ i → es[j]? = some (.own es') → σ[j]? ≠ some (some (.ref a))) :
    SS G P ρ H (σ.set i (some (.ref a))) (es.set i (.own ds)) := by
  have sg : ∀ (j : Nat), i ≠ j → (σ.set i (some (.ref a)))[j]? = σ[j]? := fun j h => by rw [List.getElem?_set_ne h]
  refine ⟨by simp [q.len], fun j e h => ?_, fun j ds h => ?_, fun j ds h => ?_, fun j k ds es' b e1 e2 e3 e4 => ?_⟩
  · rcases get_set h with ⟨rfl, hl, e1⟩ | ⟨hn, h⟩
    · cases e1
    · rw [sg j hn]; exact q.val j e h
  · rcases get_set h with ⟨rfl, hl, e1⟩ | ⟨hn, h⟩
    · cases e1
    · rw [sg j hn]; exact q.bor j ds h
  · rcases get_set h with ⟨rfl, hl, e1⟩ | ⟨hn, h⟩
    · cases e1
      exact ⟨a, vs, by rw [List.getElem?_set_self (by rw [q.len]; exact hl)], h1, r, h2, h3⟩
    · rw [sg j hn]; exact q.own j ds h
  · rcases get_set e1 with ⟨rfl, hl, z1⟩ | ⟨hn, e1⟩
    · rcases get_set e2 with ⟨rfl, hl2, z2⟩ | ⟨hn2, e2⟩
      · rfl
      · rw [List.getElem?_set_self (by rw [q.len]; exact hl)] at e3
        cases e3
        rw [sg k hn2] at e4
        exact absurd e4 (h4 k es' (Ne.symm hn2) e2)
    · rcases get_set e2 with ⟨rfl, hl2, z2⟩ | ⟨hn2, e2⟩
      · rw [List.getElem?_set_self (by rw [q.len]; exact hl2)] at e4
        cases e4
        rw [sg j hn] at e3
        exact absurd e3 (h4 j ds (Ne.symm hn) e1)
      · rw [sg j hn] at e3
        rw [sg k hn2] at e4
        exact q.dis j k ds es' b e1 e2 e3 e4
theorem tks_set {i : Nat} {x : Option V} {d : Slot} (hd : ∀ ds, d ≠ .bor ds) : TKS ρ H σ es ρ H (σ.set i x) (es.set i d) := by
  refine ⟨TK.refl _ _, fun j ds h => ?_⟩
  rcases get_set h with ⟨rfl, hl, e1⟩ | ⟨hn, h⟩
  · exact absurd e1 (hd ds)
  · exact ⟨h, by rw [List.getElem?_set_ne hn]⟩
theorem SS.updO (q : SS G P ρ H σ es) {i : Nat} {ds es' : List DM.D} {a : Addr} {vs ws : List V} (hi : es[i]? = some (.own ds)) (ha : σ[i]? = some (some (.ref a))) (hH : H a = some (.lst vs)) (r : Reps G ρ H es' ws) : SS G P ρ (upd H a (.lst ws)) σ (es.set i (.own es')) := by
  have tk : TK ρ H ρ (upd H a (.lst ws)) := tk_updl hH
  obtain ⟨b, vs', e1, e2, e3, e4, e5⟩ := q.own i ds hi
  rw [ha] at e1
  cases e1
  refine ⟨by simp [q.len], fun j e h => ?_, fun j ds h => ?_, fun j ds h => ?_, fun j k ds1 ds2 c h1 h2 h3 h4 => ?_⟩
  · rcases get_set h with ⟨rfl, hl, z⟩ | ⟨hn, h⟩
    · cases z
    · obtain ⟨x, y1, y2⟩ := q.val j e h
      exact ⟨x, y1, y2.mono tk⟩
  · rcases get_set h with ⟨rfl, hl, z⟩ | ⟨hn, h⟩
    · cases z
    · obtain ⟨c, us, y1, y2, y3⟩ := q.bor j ds h
      exact ⟨c, us, y1, y2, y3.mono tk⟩
  · rcases get_set h with ⟨rfl, hl, z⟩ | ⟨hn, h⟩
    · cases z
      exact ⟨a, ws, ha, upd_same, r.mono tk, e4, e5⟩
    · obtain ⟨c, us, y1, y2, y3, y4, y5⟩ := q.own j ds h
      have hc : c ≠ a := fun z => hn (q.dis i j _ _ a hi h ha (z ▸ y1))
      exact ⟨c, us, y1, by rw [upd_ne hc]; exact y2, y3.mono tk, y4, y5⟩
  · have f : ∀ (j : Nat) (x : List DM.D), (es.set i (.own es'))[j]? = some (.own x) → ∃ y, es[j]? = some (.own y) := fun j x h => by
      rcases get_set h with ⟨rfl, hl, z⟩ | ⟨hn, h⟩
      · exact ⟨ds, hi⟩
      · exact ⟨x, h⟩
    obtain ⟨y1, z1⟩ := f j _ h1
    obtain ⟨y2, z2⟩ := f k _ h2
    exact q.dis j k y1 y2 c z1 z2 h3 h4
theorem SS.updS (q : SS G P ρ H σ es) {a : Addr} {vs ws : List V} (hr : a ∈ ρ) (hH : H a = some (.lst vs)) : SS G P ρ (upd H a (.lst ws)) σ es := by
  have tk : TK ρ H ρ (upd H a (.lst ws)) := tk_updl hH
  refine ⟨q.len, fun j e h => ?_, fun j ds h => ?_, fun j ds h => ?_, q.dis⟩
  · obtain ⟨x, y1, y2⟩ := q.val j e h
    exact ⟨x, y1, y2.mono tk⟩
  · obtain ⟨c, us, y1, y2, y3⟩ := q.bor j ds h
    exact ⟨c, us, y1, y2, y3.mono tk⟩
  · obtain ⟨c, us, y1, y2, y3, y4, y5⟩ := q.own j ds h
    have hc : c ≠ a := fun z => y4 (z ▸ hr)
    exact ⟨c, us, y1, by rw [upd_ne hc]; exact y2, y3.mono tk, y4, y5⟩
theorem SS.mono (q : SS G P ρ H σ es) (k : TK ρ H ρ' H) (hr : ∀ a, IsOwn σ es a → a ∉ ρ') : SS G P ρ' H σ es := by
  refine ⟨q.len, fun i d e => ?_, fun i ds e => ?_, fun i ds e => ?_, q.dis⟩
  · obtain ⟨x, h1, h2⟩ := q.val i d e
    exact ⟨x, h1, h2.mono k⟩
  · obtain ⟨a, vs, e1, e2, e3⟩ := q.bor i ds e
    exact ⟨a, vs, e1, e2, e3.mono k⟩
  · obtain ⟨a, vs, e1, e2, e3, e4, e5⟩ := q.own i ds e
    exact ⟨a, vs, e1, e2, e3.mono k, hr a ⟨i, ds, e, e1⟩, e5⟩
end

def sSeq (a b : MS) : MS := fun es S => match a es S with
  | .nx es' S' => b es' S'
  | r => r
def sNop : MS := fun es S => .nx es S
def sIf (t : MB) (a b : MS) : MS := fun es S => bindS (t es S) es fun x S1 => if x = true then a es S1 else b es S1
def sRet (m : ME) : MS := fun es S => bindS (m es S) es fun r S1 => match r with
  | .l false _ => .bad
  | r => .rt r S1
def sRetN : MS := fun _ S => .rt (.d .non) S
def sRetV (i : Nat) : MS := fun es S => match es[i]? with
  | some (.v x) => .rt (.d x) S
  | some (.own ds) => .rt (.l true ds) S
  | _ => .bad
def sBrk : MS := fun es S => .bk es S
def sCnt : MS := fun es S => .ct es S
def sDrop (m : ME) : MS := fun es S => bindS (m es S) es fun _ S1 => .nx es S1
def sSet (i : Nat) (m : ME) : MS := fun es S => bindS (m es S) es fun r S1 => match r with
  | .d x => .nx (es.set i (.v x)) S1
  | .l true ds => .nx (es.set i (.own ds)) S1
  | .l false _ => .bad
def sSetS (i : Nat) (m : ME) : MS := fun es S => bindS ((m es S).bind item) es fun x S1 => .nx (es.set i (.v x)) S1
def sMove (i j : Nat) : MS := fun es S => match es[j]? with
  | some (.own ds) => .nx ((es.set j .no).set i (.own ds)) S
  | _ => .bad
section
variable {G : GT} {W : WX} {X : Cx} {a b c e : Expr} {ma mb : ME} {pos : Pos} {st : Stmt} {rest : List Stmt} {m n : MS}
theorem sp_nil (k : X.K = G.K) : SPs G W X [] sNop := by
  refine ⟨k, PSs.of pss_nil fun D σ H h => ?_⟩
  obtain ⟨P, ρ, es, S, s, q, h⟩ := h
  exact h σ ρ H s q (TKS.refl _ _ _ _)
theorem sp_one (h : SP1 G W X st m) : SPs G W X [st] m := ⟨h.k, pss_one h.ps⟩
theorem seq_core {D : Ends} {σ : St} {H : Hp} (h : rdS G W (sSeq m n) D σ H) : rdS G W m { D with nx := rdS G W n D } σ H := by
  obtain ⟨P, ρ, es, S, s, q, h⟩ := h
  refine ⟨P, ρ, es, S, s, q, ?_⟩
  unfold sSeq at h
  cases z : m es S with
  | nx es' S' =>
    rw [z] at h
    exact fun σ' ρ' H' s' q' t => ⟨P, ρ', es', S', s', q', AftS.next t h⟩
  | rt r S' => rw [z] at h; exact h
  | bk es' S' => rw [z] at h; exact h
  | ct es' S' => rw [z] at h; exact h
  | ex c p es' S' => rw [z] at h; exact h
  | bad => rw [z] at h; exact h
theorem sp_cons (h1 : SP1 G W X st m) (h2 : SPs G W X rest n) : SPs G W X (st :: rest) (sSeq m n) := ⟨h1.k, PSs.of (pss_cons h1.ps h2.pss) fun D σ H h => seq_core h⟩
theorem sp_if {t : MB} {as bs : List Stmt} (ht : SB G W X c t) (ha : SPs G W X as m) (hb : SPs G W X bs n) : SP1 G W X (.If c as bs pos) (sIf t m n) := by
  refine ⟨ht.k, PS.of (ps_if ht.pt ha.pss hb.pss) fun D σ H h => ?_⟩
  obtain ⟨P, ρ, es, S, s, q, h⟩ := h
  refine st_thenB s q h fun r S1 ρ1 H1 s1 q1 k1 h => ?_
  cases r with
  | true => exact ⟨P, ρ1, es, S1, s1.less q.sub, q1, h⟩
  | false => exact ⟨P, ρ1, es, S1, s1.less q.sub, q1, h⟩
theorem sp_ret (ha : SE G W X a ma) : SP1 G W X (.Return (some a) pos) (sRet ma) := by
  refine ⟨ha.k, PS.of (ps_ret ha.pe) fun D σ H h => ?_⟩
  obtain ⟨P, ρ, es, S, s, q, h⟩ := h
  refine st_thenS s q h fun r S1 v ρ1 H1 s1 q1 k1 rr h => ?_
  cases r with
  | d x => exact h.2 v ρ1 H1 (s1.less q.sub) (TK.refl _ _) rr
  | l f ds =>
    cases f with
    | true => exact h.2 v ρ1 H1 (s1.less q.sub) (TK.refl _ _) (RR.less q.sub (fun _ z => by cases z) rr)
    | false => exact h.elim
theorem sp_retV {i : Nat} {x : Str} {p2 : Pos} (k : X.K = G.K) (hN : X.N[i]? = some x) (hv : Vis X.env.scope x) (hd : (x == ("__debug__" : Str)) = false := by decide) (hcd : (x == ("__classdict__" : Str)) = false := by decide) : SP1 G W X (.Return (some (.Name x p2)) pos) (sRetV i) := by
  refine ⟨k, PS.of (ps_ret (pe_var hN hv hd hcd)) fun D σ H h => ?_⟩
  obtain ⟨P, ρ, es, S, s, q, h⟩ := h
  unfold sRetV at h
  split at h
  · rename_i x e
    obtain ⟨v, h1, h2⟩ := q.val i x e
    exact ⟨v, h1, h.2 v ρ H s (TK.refl _ _) h2⟩
  · rename_i ds e
    obtain ⟨a, vs, h1, h2, h3, h4, h5⟩ := q.own i ds e
    exact ⟨.ref a, h1, h.2 (.ref a) ρ H s (TK.refl _ _) ⟨a, vs, rfl, h2, h3, h4, h5⟩⟩
  · exact h.elim
theorem own_ne {P : Hp} {ρ : List Addr} {H : Hp} {σ : St} {es : Env} {a : Addr} (q : SS G P ρ H σ es) (h : plus P H σ es a = none) : ¬ IsOwn σ es a := fun z => by
  rw [plus_own z] at h
  obtain ⟨i, ds, h1, h2⟩ := z
  obtain ⟨b, vs, e1, e2, _⟩ := q.own i ds h1
  rw [h2] at e1
  cases e1
  rw [h] at e2; cases e2
theorem set_core {i : Nat} {D : Ends} {σ : St} {H : Hp} (h : rdS G W (sSet i ma) D σ H) : tAsg (rdE G W ma) (gName i) D σ H := by
  obtain ⟨P, ρ, es, S, s, q, h⟩ := h
  refine st_thenS s q h fun r S1 v ρ1 H1 s1 q1 k1 rr h => ?_
  cases r with
  | d x => exact h (σ.set i (some v)) ρ1 H1 (s1.less q.sub) (q1.setV rr) (tks_set fun _ z => by cases z)
  | l f ds =>
    cases f with
    | false => exact h.elim
    | true =>
      obtain ⟨a, vs, rfl, h1, h2, h3, h4⟩ := rr
      have no := own_ne q h4
      exact h (σ.set i (some (.ref a))) ρ1 H1 (s1.less q.sub) (q1.setO h1 h2 h3 (none_sub q.sub h4) fun j es' _ hj z => no ⟨j, es', hj, z⟩) (tks_set fun _ z => by cases z)
theorem sp_set {i : Nat} {x : Str} {pos' : Pos} (ha : SE G W X a ma) (hN : X.N.Nodup) (hi : X.N[i]? = some x) (hx : Loc X.env.scope x) (hs : swapsWith a (some (.Name x pos')) pos.line X.env = pure false := by rfl) (hf : X.fn x = true ∨ X.env.scope.names.lookup x = some .local := by first | exact .inl rfl | exact .inr rfl | assumption) :
    SP1 G W X (.Assign [.Name x pos'] a pos) (sSet i ma) := ⟨ha.k, PS.of (ps_set hN hi hx ha.pe hs hf) fun D σ H h => set_core h⟩
theorem setS_core {i : Nat} {D : Ends} {σ : St} {H : Hp} (h : rdS G W (sSetS i ma) D σ H) : tAsg (rdE G W ma) (gName i) D σ H := by
  obtain ⟨P, ρ, es, S, s, q, h⟩ := h
  have h' : AftS G W P ρ H σ es (bindS (ma es S) es fun r S1 => bindS (item r S1) es fun x S2 => .nx (es.set i (.v x)) S2) D := by
    unfold sSetS at h
    cases e : ma es S with
    | ok r S1 => rw [e] at h; exact h
    | ex c p S1 => rw [e] at h; exact h
    | bad => rw [e] at h; exact h
  refine st_thenS s q h' fun r S1 v ρ1 H1 s1 q1 k1 rr h => ?_
  cases e : item r S1 with
  | bad => rw [e] at h; exact h.elim
  | ex c p S2 => exact (item_ex e).elim
  | ok d S2 =>
    rw [e] at h
    obtain ⟨ρ2, s2, k2, rd⟩ := item_ok s1 rr e
    have q2 : SS G P ρ2 H1 σ es := q.next s2 (k1.trans k2)
    exact h (σ.set i (some v)) ρ2 H1 (s2.less q.sub) (q2.setV rd) ((TKS.of k2).trans (tks_set fun _ z => by cases z))
theorem sp_setS {i : Nat} {x : Str} {pos' : Pos} (ha : SE G W X a ma) (hN : X.N.Nodup) (hi : X.N[i]? = some x) (hx : Loc X.env.scope x) (hs : swapsWith a (some (.Name x pos')) pos.line X.env = pure false := by rfl) (hf : X.fn x = true ∨ X.env.scope.names.lookup x = some .local := by first | exact .inl rfl | exact .inr rfl | assumption) :
    SP1 G W X (.Assign [.Name x pos'] a pos) (sSetS i ma) := ⟨ha.k, PS.of (ps_set hN hi hx ha.pe hs hf) fun D σ H h => setS_core h⟩
end
end DM

namespace DM
open PySem PySem.Spec L2

abbrev MG := D → Env → Option Env
abbrev MGs := List D → Env → Option Env
def tgName (i : Nat) : MG := fun x es => some (es.set i (.v x))
def tgNil : MGs := fun ds es => match ds with
  | [] => some es
  | _ => none
def tgCons (g : MG) (gs : MGs) : MGs := fun ds es => match ds with
  | d :: ds => (g d es).bind fun es1 => gs ds es1
  | [] => none
def tgTup (n : Nat) (gs : MGs) : MG := fun x es => match x with
  | .tup ds => if ds.length = n then gs ds es else none
  | _ => none
structure Stored (G : GT) (ix : List Nat) (ρ : List Addr) (H : Hp) (σ : St) (es : Env) (σ' : St) (es' : Env) : Prop where
  ss : ∀ P, SS G P ρ H σ es → SS G P ρ H σ' es'
  ee : ∀ P, ES G P ρ H σ es → ES G P ρ H σ' es'
  tk : TKS ρ H σ es ρ H σ' es'
  wp : ∀ vs : List Nat, (∀ i ∈ ix, i ∈ vs) → wipe σ' vs = wipe σ vs
def SG (G : GT) (X : Cx) (tg : Expr) (ix : List Nat) (mg : MG) : Prop := ∃ t : TG, PG X tg t ∧ ∀ ρ H σ es es' x v (Q : St → Hp → Prop), Rep G ρ H x v → mg x es = some es' → (∀ σ', Stored G ix ρ H σ es σ' es' → Q σ' H) → t v σ H Q
theorem wipe_get {σ : St} : ∀ (vs : List Nat) (j : Nat), (wipe σ vs)[j]? = if j ∈ vs then (if j < σ.length then some none else none) else σ[j]?
  | [], j => by simp [wipe]
  | v :: vs, j => by
    show ((wipe σ vs).set v none)[j]? = _
    rw [List.getElem?_set, wipe_length]
    by_cases h : v = j
    · subst h
      simp
    · rw [if_neg h, wipe_get vs j]
      simp [Ne.symm h]
theorem wipe_set {σ : St} {i : Nat} {x : Option V} {vs : List Nat} (h : i ∈ vs) : wipe (σ.set i x) vs = wipe σ vs := by
  apply List.ext_getElem?
  intro j
  rw [wipe_get, wipe_get, List.length_set, List.getElem?_set]
  by_cases hj : j ∈ vs
  · simp [hj]
  · have : i ≠ j := fun z => hj (z ▸ h)
    simp [hj, this]
theorem ES.setV {G : GT} {P : Hp} {ρ : List Addr} {H : Hp} {σ : St} {es : Env} (q : ES G P ρ H σ es) {i : Nat} {d : D} {x : V} (r : Rep G ρ H d x) : ES G P ρ H (σ.set i (some x)) (es.set i (.v d)) := by
  have sg : ∀ (j : Nat), i ≠ j → (σ.set i (some x))[j]? = σ[j]? := fun j h => by rw [List.getElem?_set_ne h]
  refine ⟨by simp [q.len], fun j e h => ?_, fun j ds h => ?_⟩
  · rcases get_set h with ⟨rfl, hl, e1⟩ | ⟨hn, h⟩
    · cases e1
      exact ⟨x, by rw [List.getElem?_set_self (by rw [q.len]; exact hl)], r⟩
    · rw [sg j hn]; exact q.val j e h
  · rcases h with h | h
    · rcases get_set h with ⟨rfl, hl, e1⟩ | ⟨hn, h⟩
      · cases e1
      · rw [sg j hn]; exact q.lst j ds (.inl h)
    · rcases get_set h with ⟨rfl, hl, e1⟩ | ⟨hn, h⟩
      · cases e1
      · rw [sg j hn]; exact q.lst j ds (.inr h)
section
variable {G : GT} {X : Cx} {e : Expr} {rest : List Expr} {ix ixs : List Nat} {mg : MG} {mgs : MGs} {pos : Pos}
def OG (G : GT) (ix : List Nat) (g : TG) (mg : MG) : Prop := ∀ ρ H σ es es' x v (Q : St → Hp → Prop), Rep G ρ H x v → mg x es = some es' → (∀ σ', Stored G ix ρ H σ es σ' es' → Q σ' H) → g v σ H Q
def OGs (G : GT) (ix : List Nat) (g : TGs) (mg : MGs) : Prop := ∀ ρ H σ es es' xs vs (Q : St → Hp → Prop), Reps G ρ H xs vs → mg xs es = some es' → (∀ σ', Stored G ix ρ H σ es σ' es' → Q σ' H) → g vs σ H Q
theorem og_name {i : Nat} : OG G [i] (gName i) (tgName i) := fun ρ H σ es es' x v Q r e h => by
  cases e
  exact h _ ⟨fun P q => q.setV r, fun P q => q.setV r, tks_set (fun _ z => by cases z), fun vs hv => wipe_set (hv i (by simp))⟩
theorem ogs_nil : OGs G [] gNil tgNil := fun ρ H σ es es' xs vs Q r e h => by
  cases r with
  | cons _ _ => cases e
  | nil =>
    cases e
    exact ⟨rfl, h σ ⟨fun _ q => q, fun _ q => q, TKS.refl _ _ _ _, fun _ _ => rfl⟩⟩
theorem ogs_cons {t : TG} {u : TGs} (ok : OG G ix t mg) (oks : OGs G ixs u mgs) : OGs G (ix ++ ixs) (gCons t u) (tgCons mg mgs) := fun ρ H σ es es' xs vs Q r e h => by
  cases r with
  | nil => cases e
  | cons r rs =>
    rename_i d ds v vs
    unfold tgCons at e
    dsimp only at e
    cases z : mg d es with
    | none => rw [z] at e; cases e
    | some es1 =>
      rw [z] at e
      refine ⟨v, vs, rfl, ok ρ H σ es es1 d v _ r z fun σ1 st1 => ?_⟩
      refine oks ρ H σ1 es1 es' ds vs _ rs e fun σ2 st2 => ?_
      exact h σ2 ⟨fun P q => st2.ss P (st1.ss P q), fun P q => st2.ee P (st1.ee P q), st1.tk.trans st2.tk, fun ws hw => (st2.wp ws fun i m => hw i (List.mem_append_right _ m)).trans (st1.wp ws fun i m => hw i (List.mem_append_left _ m))⟩
theorem og_tup {n : Nat} {t : TGs} {K : PySem.W.Frag} (kG : K = G.K) (ok : OGs G ix t mgs) : OG G ix (gTup K n t) (tgTup n mgs) := fun ρ H σ es es' x v Q r e h => by
  unfold tgTup at e
  split at e
  · rename_i ds
    cases r with
    | tup hq rs =>
      by_cases hl : ds.length = n
      · rw [if_pos hl] at e
        rw [kG]
        exact ⟨_, _, rfl, hq.sq, by rw [← rs.len]; exact hl, ok ρ H σ es es' ds _ Q rs e h⟩
      · rw [if_neg hl] at e; cases e
  · cases e
theorem sg_of {g : TG} (pg : PG X e g) (og : OG G ix g mg) : SG G X e ix mg := ⟨g, pg, og⟩
end

inductive SK where
  | p | t | s (n : Nat)
def SeqAt (G : GT) (P : Hp) (ρ : List Addr) (H : Hp) (S : Store) : SK → List D → Addr → Prop
  | .p, ds, a => ∃ vs, P a = some (.lst vs) ∧ Reps G ρ H ds vs
  | .t, ds, a => ∃ vs, KT H a vs ∧ Reps G ρ H ds vs
  | .s n, ds, a => ρ[n]? = some a ∧ S[n]? = some (.lst ds)
def chk : SK → List D → Store → Prop
  | .s n, ds, S => S[n]? = some (.lst ds)
  | _, _, _ => True
def isT : SK → Bool
  | .t => true
  | _ => false
section
variable {G : GT} {P P' : Hp} {ρ ρ' : List Addr} {H H' : Hp} {S S' : Store} {k : SK} {ds : List D} {a : Addr}
theorem SeqAt.next (h : SeqAt G P ρ H S k ds a) (hp : ∀ a o, P a = some o → P' a = some o) (tk : TK ρ H ρ' H') (c : chk k ds S') : SeqAt G P' ρ' H' S' k ds a := by
  cases k with
  | p => obtain ⟨vs, e, r⟩ := h; exact ⟨vs, hp _ _ e, r.mono tk⟩
  | t => obtain ⟨vs, e, r⟩ := h; exact ⟨vs, e.mono tk, r.mono tk⟩
  | s n => exact ⟨tk.at_ h.1, c⟩
theorem SeqAt.list (h : SeqAt G P ρ H S k ds a) (s : VS G P ρ H S) (ht : isT k = false) : ∃ vs, H a = some (.lst vs) ∧ Reps G ρ H ds vs := by
  cases k with
  | p => obtain ⟨vs, e, r⟩ := h; exact ⟨vs, (s.pr _ _ e).1, r⟩
  | t => cases ht
  | s n => exact s.st n a _ h.1 h.2
theorem SeqAt.tuple (h : SeqAt G P ρ H S k ds a) (ht : isT k = true) : ∃ vs, SqT G.K H a vs ∧ Reps G ρ H ds vs := by
  cases k with
  | p => cases ht
  | t => obtain ⟨vs, e, r⟩ := h; exact ⟨vs, e.sq, r⟩
  | s n => cases ht
end
def Drv (G : GT) (P : Hp) (ρ0 : List Addr) (H0 : Hp) (J : L2.It) (xs : List D) (ck : Store → Prop) : Prop := ∀ (i : Nat) ρ H S, VS G P ρ H S → TK ρ0 H0 ρ H → ck S →
  (i = xs.length → J.stop i H) ∧ ∀ d, xs[i]? = some d → J.go i H ∧ ∀ x H', J.yld i H x H' → (∀ a o, H a = some o → H' a = some o) ∧ Rep G ρ H' d x
theorem Rep.same {G : GT} {ρ : List Addr} {H H' : Hp} {d : D} {v : V} (r : Rep G ρ H d v) (h : ∀ a o, H a = some o → H' a = some o) : Rep G ρ H' d v := r.mono (TK.same h)
section
variable {G : GT} {P : Hp} {ρ : List Addr} {H : Hp} {S : Store} {k : SK} {ds : List D} {a : Addr}
theorem drv_list (h : SeqAt G P ρ H S k ds a) (ht : isT k = false) : Drv G P ρ H (Itl G.K a) ds (chk k ds) := by
  intro i ρ1 H1 S1 s1 k1 c1
  obtain ⟨vs, e, r⟩ := (h.next (fun _ _ e => e) k1 c1).list s1 ht
  have sq : SqL G.K H1 a vs := SqL.of e
  refine ⟨fun hi => ⟨vs, sq, by rw [hi, r.len]; exact Nat.le_refl _⟩, fun d hd => ?_⟩
  obtain ⟨v, hv, rv⟩ := r.get hd
  refine ⟨⟨vs, v, sq, hv⟩, fun x H' hy => ?_⟩
  obtain ⟨rfl, f⟩ := hy
  have : x = v := Option.some.inj ((f vs sq).symm.trans hv)
  subst this
  exact ⟨fun _ _ e => e, rv⟩
theorem drv_tup (h : SeqAt G P ρ H S k ds a) (ht : isT k = true) : Drv G P ρ H (Itt G.K a) ds (chk k ds) := by
  intro i ρ1 H1 S1 s1 k1 c1
  obtain ⟨vs, sq, r⟩ := (h.next (fun _ _ e => e) k1 c1).tuple ht
  refine ⟨fun hi => ⟨vs, sq, by rw [hi, r.len]; exact Nat.le_refl _⟩, fun d hd => ?_⟩
  obtain ⟨v, hv, rv⟩ := r.get hd
  refine ⟨⟨vs, v, sq, hv⟩, fun x H' hy => ?_⟩
  obtain ⟨rfl, f⟩ := hy
  have : x = v := Option.some.inj ((f vs sq).symm.trans hv)
  subst this
  exact ⟨fun _ _ e => e, rv⟩
theorem drv_rng {lo : Int} {n : Nat} : Drv G P ρ H (Itr lo n) ((List.range n).map fun (i : Nat) => D.int (lo + (i : Int))) (fun _ => True) := by
  intro i ρ1 H1 S1 s1 k1 c1
  refine ⟨fun hi => ?_, fun d hd => ?_⟩
  · rw [List.length_map, List.length_range] at hi
    show n ≤ i
    omega
  · rw [List.getElem?_map] at hd
    have hl : i < n := by
      by_cases h : i < n
      · exact h
      · rw [List.getElem?_eq_none (by simpa using h)] at hd; cases hd
    rw [List.getElem?_range hl] at hd
    cases hd
    refine ⟨hl, fun x H' hy => ?_⟩
    obtain ⟨rfl, rfl⟩ := hy
    exact ⟨fun _ _ e => e, .int _⟩
theorem drv_rngC {lo c : Int} {n : Nat} : Drv G P ρ H (Itc lo c n) ((List.range n).map fun (i : Nat) => D.int (lo + (i : Int) * c)) (fun _ => True) := by
  intro i ρ1 H1 S1 s1 k1 c1
  refine ⟨fun hi => ?_, fun d hd => ?_⟩
  · rw [List.length_map, List.length_range] at hi
    show n ≤ i
    omega
  · rw [List.getElem?_map] at hd
    have hl : i < n := by
      by_cases h : i < n
      · exact h
      · rw [List.getElem?_eq_none (by simpa using h)] at hd; cases hd
    rw [List.getElem?_range hl] at hd
    cases hd
    refine ⟨hl, fun x H' hy => ?_⟩
    obtain ⟨rfl, rfl⟩ := hy
    exact ⟨fun _ _ e => e, .int _⟩
theorem pair_new {H : Hp} {T : Addr} {o : Obj} {d1 d2 : D} {x y : V} (h : H T = none) (ho : o.dict = none) (r1 : Rep G ρ H d1 x) (r2 : Rep G ρ H d2 y) : (∀ b u, H b = some u → upd H T (.frz o (.tup [x, y])) b = some u) ∧ Rep G ρ (upd H T (.frz o (.tup [x, y]))) (.tup [d1, d2]) (.ref T) := by
  have g : ∀ b u, H b = some u → upd H T (.frz o (.tup [x, y])) b = some u := fun b u z => by rw [upd_ne (ne_of_none z h)]; exact z
  exact ⟨g, .tup (KT.new ho) (.cons (r1.same g) (.cons (r2.same g) .nil))⟩
def zipD (xs ys : List D) : List D := List.zipWith (fun x y => D.tup [x, y]) xs ys
theorem zipD_get {xs ys : List D} {i : Nat} {d : D} (h : (zipD xs ys)[i]? = some d) : ∃ x y, xs[i]? = some x ∧ ys[i]? = some y ∧ d = .tup [x, y] := by
  unfold zipD at h
  rw [List.getElem?_zipWith] at h
  split at h
  · rename_i x y e1 e2
    exact ⟨x, y, e1, e2, (Option.some.inj h).symm⟩
  · cases h
def enumD (xs : List D) : List D := xs.zipIdx.map fun p => D.tup [.int (p.2 : Nat), p.1]
end

abbrev MI := Env → Store → Res (List D × (Store → Prop))
abbrev MQ := Env → Store → Res (List D × SK)
abbrev RL := Hp → List Addr → Hp → St → Env → Prop
def ofSeq (x : D) (S : Store) : Res (List D × SK) := match x with
  | .tup ds => .ok (ds, .t) S
  | .loc n => match S[n]? with
    | some (.lst ds) => .ok (ds, .s n) S
    | _ => .bad
  | _ => .bad
def qVar (i : Nat) : MQ := fun es S => match es[i]? with
  | some (.bor ds) => .ok (ds, .p) S
  | some (.v x) => ofSeq x S
  | _ => .bad
def qE (m : ME) : MQ := fun es S => (m es S).bind fun r S1 => match r with
  | .l true ds => .ok (ds, .p) S1
  | .d x => ofSeq x S1
  | _ => .bad
def qC (m : ME) : MQ := fun es S => (m es S).bind fun r S1 => match r with
  | .l _ ds => .ok (ds, .p) S1
  | .d x => ofSeq x S1
def AftQ {T : Type} (G : GT) (W : WX) (Rl : RL) (P : Hp) (ρ : List Addr) (H : Hp) (σ : St) (es : Env) (r : Res T) (R : T → Store → Hp → List Addr → Hp → Prop) : Prop := match r with
  | .ok x S' => ∀ P' ρ' H', (∀ a o, P a = some o → P' a = some o) → VS G P' ρ' H' S' → Rl P' ρ' H' σ es → TK ρ H ρ' H' → R x S' P' ρ' H'
  | .ex c p S' => ∀ cls d ρ' H', VS G P ρ' H' S' → Rl P ρ' H' σ es → TK ρ H ρ' H' → RX G ρ' H' c p cls d → W cls d σ H'
  | .bad => False
def IAok (G : GT) (W : WX) (Rl : RL) (te : TE) (mq : MQ) : Prop := ∀ P ρ H S σ es (R : VK), VS G P ρ H S → Rl P ρ H σ es → AftQ G W Rl P ρ H σ es (mq es S) (fun x S' P' ρ' H' => ∀ a, SeqAt G P' ρ' H' S' x.2 x.1 a → R (.ref a) H') → te σ H R
structure SQ (G : GT) (W : WX) (Rl : RL) (X : Cx) (e : Expr) (mq : MQ) : Prop where
  k : X.K = G.K
  pe : ∃ te, PE X e te ∧ IAok G W Rl te mq
structure SIt (G : GT) (W : WX) (Rl : RL) (X : Cx) (tg iter : Expr) (mi : MI) : Prop where
  k : X.K = G.K
  pi : ∃ wi, PI X tg iter wi ∧ ∀ P ρ H S σ es (R : L2.It → Hp → Prop), VS G P ρ H S → Rl P ρ H σ es → AftQ G W Rl P ρ H σ es (mi es S) (fun x S' P' ρ' H' => ∀ J, Drv G P' ρ' H' J x.1 x.2 → R J H') → wi σ H R
section
variable {G : GT} {W : WX} {X : Cx} {Rl : RL} {e : Expr}
theorem ofSeq_at {P : Hp} {ρ : List Addr} {H : Hp} {S S' : Store} {x : D} {v : V} {z : List D × SK} (r : Rep G ρ H x v) (h : ofSeq x S = .ok z S') : S' = S ∧ ∃ a, v = .ref a ∧ SeqAt G P ρ H S z.2 z.1 a := by
  unfold ofSeq at h
  split at h
  · cases h
    cases r with
    | tup hq rs => exact ⟨rfl, _, rfl, _, hq, rs⟩
  · rename_i n
    split at h
    · rename_i ds e
      cases h
      cases r with
      | loc hn => exact ⟨rfl, _, rfl, hn, e⟩
    · cases h
  · cases h
theorem ofSeq_ex {x : D} {S S' : Store} {c : Nat} {p : List D} : ofSeq x S ≠ .ex c p S' := by
  intro h
  unfold ofSeq at h
  split at h
  · cases h
  · split at h <;> cases h
  · cases h
theorem sq_var {i : Nat} {x : Str} {pos : Pos} (k : X.K = G.K) (hN : X.N[i]? = some x) (hv : Vis X.env.scope x) (hd : (x == ("__debug__" : Str)) = false := by decide) (hcd : (x == ("__classdict__" : Str)) = false := by decide) : SQ G W (SS G) X (.Name x pos) (qVar i) := by
  refine ⟨k, tVar i, pe_var hN hv hd hcd, fun P ρ H S σ es R s q h => ?_⟩
  unfold qVar at h
  split at h
  · rename_i ds e
    obtain ⟨a, vs, h1, h2, h3⟩ := q.bor i ds e
    exact ⟨.ref a, h1, h P ρ H (fun _ _ e => e) s q (TK.refl _ _) a ⟨vs, h2, h3⟩⟩
  · rename_i x e
    obtain ⟨v, h1, h2⟩ := q.val i x e
    cases z : ofSeq x S with
    | bad => rw [z] at h; exact h.elim
    | ex c p S' => exact (ofSeq_ex z).elim
    | ok y S' =>
      rw [z] at h
      obtain ⟨rfl, a, rfl, at_⟩ := ofSeq_at (P := P) h2 z
      exact ⟨.ref a, h1, h P ρ H (fun _ _ e => e) s q (TK.refl _ _) a at_⟩
  · exact h.elim
theorem sq_e {m : ME} (ha : SE G W X e m) : SQ G W (SS G) X e (qE m) := by
  refine ⟨ha.k, _, ha.pe, fun P ρ H S σ es R s q h => ?_⟩
  refine ⟨_, ρ, es, S, q.vs s, q.toES, ?_⟩
  unfold qE at h
  cases z : m es S with
  | bad => rw [z] at h; exact h
  | ex c p S1 =>
    rw [z] at h
    exact fun cls d ρ1 H1 s1 k1 rx => h cls d ρ1 H1 (s1.less q.sub) (q.next s1 k1) k1 rx
  | ok r S1 =>
    rw [z] at h
    intro v ρ1 H1 s1 k1 rr
    have q1 := q.next s1 k1
    dsimp only [Res.bind] at h
    cases r with
    | l f ds =>
      cases f with
      | false => exact h.elim
      | true =>
        obtain ⟨a, vs, rfl, h1, h2, h3, h4⟩ := rr
        have no := own_ne q h4
        have s0 := s1.less q.sub
        have pa : P a = none := none_sub q.sub h4
        have hp : ∀ b o, P b = some o → upd P a (.lst vs) b = some o := fun b o e => by rw [upd_ne (fun z => by rw [z, pa] at e; cases e)]; exact e
        refine h (upd P a (.lst vs)) ρ1 H1 hp ⟨s0.len, s0.nd, s0.st, fun b o e => ?_⟩ ⟨q1.len, q1.val, fun i ds e => ?_, fun i ds e => ?_, q1.dis⟩ k1 a ⟨vs, upd_same, h2⟩
        · by_cases hb : b = a
          · subst hb; rw [upd_same] at e; cases e; exact ⟨h1, h3⟩
          · rw [upd_ne hb] at e; exact s0.pr b o e
        · obtain ⟨c, us, y1, y2, y3⟩ := q1.bor i ds e
          exact ⟨c, us, y1, hp _ _ y2, y3⟩
        · obtain ⟨c, us, y1, y2, y3, y4, y5⟩ := q1.own i ds e
          refine ⟨c, us, y1, y2, y3, y4, ?_⟩
          rw [upd_ne (show c ≠ a from fun z => no ⟨i, ds, e, by rw [z] at y1; exact y1⟩)]
          exact y5
    | d x =>
      dsimp only at h
      cases z : ofSeq x S1 with
      | bad => rw [z] at h; exact h.elim
      | ex c p S' => exact (ofSeq_ex z).elim
      | ok y S' =>
        rw [z] at h
        obtain ⟨rfl, a, rfl, at_⟩ := ofSeq_at (P := P) rr z
        exact h P ρ1 H1 (fun _ _ e => e) (s1.less q.sub) q1 k1 a at_
theorem sq_c {m : ME} (ha : SE G W X e m) : SQ G W (ES G) X e (qC m) := by
  refine ⟨ha.k, _, ha.pe, fun P ρ H S σ es R s q h => ?_⟩
  refine ⟨_, ρ, es, S, s, q, ?_⟩
  unfold qC at h
  cases z : m es S with
  | bad => rw [z] at h; exact h
  | ex c p S1 =>
    rw [z] at h
    exact fun cls d ρ1 H1 s1 k1 rx => h cls d ρ1 H1 s1 (q.next k1) k1 rx
  | ok r S1 =>
    rw [z] at h
    intro v ρ1 H1 s1 k1 rr
    have q1 := q.next k1
    dsimp only [Res.bind] at h
    cases r with
    | l f ds =>
      obtain ⟨P1, hp, s1', rr1⟩ := protect s1 rr
      obtain ⟨a, vs, rfl, e1, e2⟩ := rr1
      exact h P1 ρ1 H1 hp s1' (q1.more hp) k1 a ⟨vs, e1, e2⟩
    | d x =>
      dsimp only at h
      cases z : ofSeq x S1 with
      | bad => rw [z] at h; exact h.elim
      | ex c p S' => exact (ofSeq_ex z).elim
      | ok y S' =>
        rw [z] at h
        obtain ⟨rfl, a, rfl, at_⟩ := ofSeq_at (P := P) rr z
        exact h P ρ1 H1 (fun _ _ e => e) s1 q1 k1 a at_

def iSeq (K : PySem.W.Frag) (tl : TE) : TI := fun σ H R => tl σ H fun x H1 => ∃ a, x = .ref a ∧ (((∃ xs, SqL K H1 a xs) ∧ R (Itl K a) H1) ∨ ((∃ xs, SqT K H1 a xs) ∧ R (Itt K a) H1))
theorem pi_seq {tg l : Expr} {tl : TE} (hl : PE X l tl) : PI X tg l (iSeq X.K tl) := by
  refine ⟨fun pins s σ H R I h => ?_⟩
  refine thn (hl.run pins s σ H _ I h) fun v s1 ⟨x, H1, I1, r1, q1⟩ => ?_
  obtain ⟨a, e, q1⟩ := q1
  subst e
  cases r1
  rcases q1 with ⟨⟨xs, hq⟩, q⟩ | ⟨⟨xs, hq⟩, q⟩
  · obtain ⟨its, rv, p, hz⟩ := I1.list hq
    refine wpAny_pyIter_list p.isList ?_
    refine ⟨s1.heap.objs.size, [s1.heap.objs.size], _, _, H1, rfl, I1.kept (t' := s1.toks) fun b o e => Heap.get?_push_of_some _ e, turn_list a _, ⟨_, Heap.get?_push_size _ rfl, rfl, rfl⟩, fun b hb => ?_, q⟩
    have e : b = s1.heap.objs.size := by simpa using hb
    subst e
    exact I1.fpOk (Nat.le_refl _) (I1.hok.fresh (Nat.le_refl _))
  · obtain ⟨its, rv, p, hz⟩ := I1.tuple hq
    refine wpAny_pyIter_tuple (show s1.heap.IsTuple a its.toArray from p) ?_
    refine ⟨s1.heap.objs.size, [s1.heap.objs.size], _, _, H1, rfl, I1.kept (t' := s1.toks) fun b o e => Heap.get?_push_of_some _ e, turn_tuple a _, ⟨_, Heap.get?_push_size _ rfl, rfl, rfl⟩, fun b hb => ?_, q⟩
    have e : b = s1.heap.objs.size := by simpa using hb
    subst e
    exact I1.fpOk (Nat.le_refl _) (I1.hok.fresh (Nat.le_refl _))
def miSeq (mq : MQ) : MI := fun es S => (mq es S).bind fun x S1 => .ok (x.1, chk x.2 x.1) S1
theorem AftQ.imp {T : Type} {P : Hp} {ρ : List Addr} {H : Hp} {σ : St} {es : Env} {r : Res T} {R R' : T → Store → Hp → List Addr → Hp → Prop} (h : AftQ G W Rl P ρ H σ es r R)
    (k : ∀ x S' P' ρ' H', r = .ok x S' → (∀ a o, P a = some o → P' a = some o) → VS G P' ρ' H' S' → Rl P' ρ' H' σ es → TK ρ H ρ' H' → R x S' P' ρ' H' → R' x S' P' ρ' H') : AftQ G W Rl P ρ H σ es r R' := by
  cases r with
  | ok x S' => exact fun P' ρ' H' hp s q t => k x S' P' ρ' H' rfl hp s q t (h P' ρ' H' hp s q t)
  | ex c p S' => exact h
  | bad => exact h
def Low (Rl : RL) : Prop := ∀ P P' ρ H ρ' H' σ es, Rl P ρ H σ es → (∀ a o, P a = some o → P' a = some o) → TK ρ H ρ' H' → Rl P' ρ' H' σ es → Rl P ρ' H' σ es
theorem lowSS : Low (SS G) := fun _ _ _ _ _ _ _ _ q hp k q' => q.less hp (TKS.of k) q'
theorem lowES : Low (ES G) := fun _ _ _ _ _ _ _ _ q _ k _ => q.next k
theorem AftQ.bindOk {T U : Type} {P : Hp} {ρ : List Addr} {H : Hp} {σ : St} {es : Env} {r : Res T} {f : T → Store → Res U} {R : U → Store → Hp → List Addr → Hp → Prop} (lw : Low Rl) (q0 : Rl P ρ H σ es) (h : AftQ G W Rl P ρ H σ es (r.bind f) R) :
    AftQ G W Rl P ρ H σ es r (fun x S' P' ρ' H' => AftQ G W Rl P' ρ' H' σ es (f x S') R) := by
  cases r with
  | ok x S' =>
    intro P' ρ' H' hp s q t
    have h' : AftQ G W Rl P ρ H σ es (f x S') R := h
    cases e : f x S' with
    | ok y S'' =>
      rw [e] at h'
      exact fun P'' ρ'' H'' hp2 s2 q2 t2 => h' P'' ρ'' H'' (fun a o z => hp2 a o (hp a o z)) s2 q2 (t.trans t2)
    | ex c p S'' =>
      rw [e] at h'
      exact fun cls d ρ'' H'' s2 q2 t2 rx => h' cls d ρ'' H'' (s2.less hp) (lw P P' ρ H ρ'' H'' σ es q0 hp (t.trans t2) q2) (t.trans t2) rx
    | bad => rw [e] at h'; exact h'
  | ex c p S' => exact h
  | bad => exact h
theorem si_seq {tg : Expr} {mq : MQ} (ha : SQ G W Rl X e mq) : SIt G W Rl X tg e (miSeq mq) := by
  obtain ⟨k, te, pe, ok⟩ := ha
  refine ⟨k, _, pi_seq pe, fun P ρ H S σ es R s q h => ?_⟩
  refine ok P ρ H S σ es _ s q ?_
  unfold miSeq at h
  cases z : mq es S with
  | bad => rw [z] at h; exact h
  | ex c p S1 => rw [z] at h; exact h
  | ok x S1 =>
    rw [z] at h
    intro P' ρ' H' hp s' q' t a at_
    have h' := h P' ρ' H' hp s' q' t
    rw [k]
    refine ⟨a, rfl, ?_⟩
    cases ht : isT x.2 with
    | false =>
      obtain ⟨vs, e, _⟩ := at_.list s' ht
      exact .inl ⟨⟨vs, SqL.of e⟩, h' _ (drv_list at_ ht)⟩
    | true =>
      obtain ⟨vs, e, _⟩ := at_.tuple ht
      exact .inr ⟨⟨vs, e⟩, h' _ (drv_tup at_ ht)⟩
end
end DM
namespace DM
open PySem PySem.Spec PyProof.Rows L2
def SqK (K : PySem.W.Frag) (t : Bool) (H : Hp) (a : Addr) (xs : List V) : Prop := match t with
  | true => SqT K H a xs
  | false => SqL K H a xs
def ItK (t : Bool) (h : Heap) (it a : Addr) (i : Nat) : Prop := match t with
  | true => h.IsTupleIter it a i
  | false => h.IsListIter it a i
def SeK (t : Bool) (h : Heap) (a : Addr) (items : Array Value) : Prop := match t with
  | true => h.IsTuple a items
  | false => h.IsList a items
def itO (t : Bool) (a : Addr) : Obj := match t with
  | true => { cls := .type "tuple_iterator", data := .fields #[.ref a, .int 0 0] }
  | false => { cls := .type "list_iterator", data := .fields #[.ref a, .int 0 0] }
theorem ItK.at_ {t : Bool} {h h' : Heap} {it a : Addr} {i : Nat} (q : ItK t h it a i) (k : ∀ o, h.get? it = some o → h'.get? it = some o) : ItK t h' it a i := by
  cases t
  · exact Heap.IsListIter.at q fun o e => k o e
  · exact Heap.IsTupleIter.at q fun o e => k o e
theorem ItK.obj {t : Bool} {h : Heap} {it a : Addr} {i : Nat} (q : ItK t h it a i) : ∃ o, h.get? it = some o ∧ ∀ v, o.data ≠ .cell v := by
  cases t
  · obtain ⟨o, e, _, d⟩ := q
    exact ⟨o, e, fun v z => by rw [d] at z; cases z⟩
  · obtain ⟨o, e, _, d⟩ := q
    exact ⟨o, e, fun v z => by rw [d] at z; cases z⟩
theorem ItK.begin {t : Bool} {h : Heap} {it a : Addr} (e : h.get? it = some (itO t a)) : ItK t h it a 0 := by
  cases t
  · exact ⟨_, e, rfl, rfl⟩
  · exact ⟨_, e, rfl, rfl⟩
theorem drawsK {prog : Program} {w : World} {A : Around} (t : Bool) (hh : A.handled = none) (it a : Addr) (hne : a ≠ it) (items : Array Value) :
    Draws prog w A it [it, a] items.size (fun i v => items[i]? = some v) (fun i h => ItK t h it a i ∧ SeK t h a items) := by
  cases t
  · exact Draws.list hh it a hne items
  · exact Draws.tuple hh it a hne items
theorem beginsK (t : Bool) (a : Addr) (items : Array Value) : Begins (.ref a) (itO t a) fun h => SeK t h a items := by
  cases t
  · exact begins_list a items
  · exact begins_tuple a items
section
variable {X : Cx} {pins : List (Addr × Obj)} {σ : L2.St} {H : Hp} {s : Shared} {a : Addr} {xs ys : List V} {t : Bool}
theorem seqK (I : Inv X pins σ H s) (h : SqK X.K t H a xs) : ∃ its : List Value, Vals xs its ∧ SeK t s.heap a its.toArray ∧ a < s.heap.objs.size := by
  cases t
  · obtain ⟨its, r, p, _⟩ := I.list h
    exact ⟨its, r, p.isList, p.lt⟩
  · obtain ⟨its, r, p, _⟩ := I.tuple h
    obtain ⟨o, e, _⟩ := id p
    exact ⟨its, r, p, Heap.lt_size e⟩
theorem seqK_inj (I : Inv X pins σ H s) (h : SqK X.K t H a xs) (h' : SqK X.K t H a ys) : xs = ys := by
  cases t
  · exact I.list_inj h h'
  · exact I.tuple_inj h h'
end
def ItzM (K : PySem.W.Frag) (t u : Bool) (a b : Addr) : It :=
  ⟨fun i H => ∃ (xs ys : List V) (x y : V), SqK K t H a xs ∧ SqK K u H b ys ∧ xs[i]? = some x ∧ ys[i]? = some y,
    fun i H v H' => ∃ T x y, v = .ref T ∧ H T = none ∧ (∃ o : Obj, o.dict = none ∧ H' = upd H T (.frz o (.tup [x, y]))) ∧ (∀ xs, SqK K t H a xs → xs[i]? = some x) ∧ ∀ ys, SqK K u H b ys → ys[i]? = some y,
    fun i H => ∃ xs ys : List V, SqK K t H a xs ∧ SqK K u H b ys ∧ i ≤ xs.length ∧ i ≤ ys.length ∧ (i = xs.length ∨ i = ys.length)⟩
theorem turn_zipM {P : Program} {w : World} {K : PySem.W.Frag} {elts : List Expr} {kk : Nat} {tpos : Pos} {t u : Bool} {a b z TI TO i1 i2 : Addr} (D : ZipSep2 z TI TO i1 i2 [i1, a] [i2, b]) (ha : a ≠ i1) (hb : b ≠ i2) :
    Turn P w K (.Tuple elts kk tpos) (ItzM K t u a b) [z, TI, TO, i1, i2] z (fun i h => IsZip h z TI TO .none ∧ IsTupOf2 h TI (.ref i1) (.ref i2) ∧ (∃ x y, IsTupOf2 h TO x y) ∧ ItK t h i1 a i ∧ ItK u h i2 b i) where
  mem := by simp
  obj := fun i h st c hc => by
    obtain ⟨hz, hTI, ⟨x, y, hTO⟩, q1, q2⟩ := st
    simp only [List.mem_cons, List.not_mem_nil, or_false] at hc
    rcases hc with rfl | rfl | rfl | rfl | rfl
    · exact ⟨_, hz, fun v q => nomatch q⟩
    · exact ⟨_, hTI, fun v q => nomatch q⟩
    · exact ⟨_, hTO, fun v q => nomatch q⟩
    · exact q1.obj
    · exact q2.obj
  keep := fun i h h' st k => by
    obtain ⟨hz, hTI, ⟨x, y, hTO⟩, q1, q2⟩ := st
    exact ⟨k z (by simp) _ hz, k TI (by simp) _ hTI, ⟨x, y, k TO (by simp) _ hTO⟩, q1.at_ fun o q => k i1 (by simp) o q, q2.at_ fun o q => k i2 (by simp) o q⟩
  item := by
    intro X hP hw hK hc i pins s σ H E I hf st hg
    subst hP hw hK
    obtain ⟨hz, hTI, ⟨x0, y0, hTO⟩, q1, q2⟩ := st
    obtain ⟨xs, ys, x, y, hqx, hqy, hx, hy⟩ := hg
    obtain ⟨its, rv, p, _⟩ := seqK I hqx
    obtain ⟨its2, rv2, p2, _⟩ := seqK I hqy
    obtain ⟨v, hv, ru⟩ := rv.get hx
    obtain ⟨v2, hv2, ru2⟩ := rv2.get hy
    have hh : X.A.in1.handled = none := I.ok.hd hc
    have hzl : z < s.heap.objs.size := Heap.lt_size hz
    have l1 : i < its.toArray.size := by
      have := (List.getElem?_eq_some_iff.mp hv).1
      simpa using this
    have l2 : i < its2.toArray.size := by
      have := (List.getElem?_eq_some_iff.mp hv2).1
      simpa using this
    have lt : ∀ c ∈ [z, TI, TO, i1, i2], c < s.heap.objs.size := fun c hc => by
      simp only [List.mem_cons, List.not_mem_nil, or_false] at hc
      rcases hc with rfl | rfl | rfl | rfl | rfl
      · exact hzl
      · exact Heap.lt_size hTI
      · exact Heap.lt_size hTO
      · obtain ⟨_, e, _⟩ := q1.obj; exact Heap.lt_size e
      · obtain ⟨_, e, _⟩ := q2.obj; exact Heap.lt_size e
    refine wpAny_pyNext_zipD2_item D (drawsK t hh i1 a ha its.toArray) (drawsK u hh i2 b hb its2.toArray) hz hTI hTO ⟨q1, p⟩ ⟨q2, p2⟩ l1 l2 fun y1 y2 h' tk g1 g2 z' TO' s1' s2' hT hsz hk => ?_
    have e1 : y1 = v := by
      have : its.toArray[i]? = some v := by simpa using hv
      exact Option.some.inj (g1.symm.trans this)
    have e2 : y2 = v2 := by
      have : its2.toArray[i]? = some v2 := by simpa using hv2
      exact Option.some.inj (g2.symm.trans this)
    subst e1 e2
    refine ⟨_, rfl, wpAny_letOwnedTupleGo_zip (s := { s with heap := h', toks := tk }) z' fun h'' z'' sb => ?_⟩
    have hT2 : h''.get? s.heap.objs.size = some { cls := .type "tuple", data := .seq #[y1, y2] } := (sb.2 _ (Nat.ne_of_gt hzl)).trans hT
    have new : ObjOk X.prog X.w (upd H s.heap.objs.size (.frz { cls := .type "tuple", data := .seq #[y1, y2] } (.tup [x, y]))) h'' s.heap.objs.size (.frz { cls := .type "tuple", data := .seq #[y1, y2] } (.tup [x, y])) :=
      ⟨hT2, by show 2 ≤ sizeLine; decide, [y1, y2], .cons ru (.cons ru2 .nil), ⟨_, hT2, rfl, _, rfl⟩⟩
    have I1 : Inv X pins σ (upd H s.heap.objs.size (.frz { cls := .type "tuple", data := .seq #[y1, y2] } (.tup [x, y]))) { s with heap := h'', toks := tk } :=
      I.turnedNew (ch := [z, TI, TO, i1, i2]) (fun c o hb q => (sb.2 c (fun q' => hb (by simp [q']))).trans (hk c o (fun q' => hb (by simp [q'])) (fun q' => hb (by simp [q'])) (fun q' => hb (by simp [q'])) (fun q' => hb (by simp [q'])) q)) hf (Nat.le_refl _) new
    refine ⟨.ref s.heap.objs.size, _, I1, rfl, ⟨_, x, y, rfl, I.hok.fresh (Nat.le_refl _), ⟨_, rfl, rfl⟩, fun l hl => by rw [seqK_inj I hl hqx]; exact hx, fun l hl => by rw [seqK_inj I hl hqy]; exact hy⟩, ⟨z'', ?_, ⟨y1, y2, ?_⟩, ?_, ?_⟩, fun c hcm => ?_⟩
    · exact (sb.2 _ D.TIz).trans (hk _ _ D.TIz D.TITO D.TIi1 D.TIi2 hTI)
    · exact (sb.2 _ D.TOz).trans TO'
    · exact s1'.1.at_ fun o q => (sb.2 _ (Ne.symm D.zi1)).trans q
    · exact s2'.1.at_ fun o q => (sb.2 _ (Ne.symm D.zi2)).trans q
    · rw [upd_ne (Nat.ne_of_lt (lt c hcm))]
      exact (hf c hcm).1
  done := by
    intro X hP hw hK hc i pins s σ H E I hf st hg
    subst hP hw hK
    obtain ⟨hz, hTI, ⟨x0, y0, hTO⟩, q1, q2⟩ := st
    obtain ⟨xs, ys, hqx, hqy, b1, b2, hend⟩ := hg
    obtain ⟨its, rv, p, _⟩ := seqK I hqx
    obtain ⟨its2, rv2, p2, _⟩ := seqK I hqy
    have hh : X.A.in1.handled = none := I.ok.hd hc
    have l1 : its.toArray.size = xs.length := by rw [List.size_toArray]; exact rv.length.symm
    have l2 : its2.toArray.size = ys.length := by rw [List.size_toArray]; exact rv2.length.symm
    exact wpAny_pyNext_zipD2_end D (drawsK t hh i1 a ha its.toArray) (drawsK u hh i2 b hb its2.toArray) hz hTI hTO ⟨q1, p⟩ ⟨q2, p2⟩ (by omega) (by omega) (by omega) fun h' tk hk =>
      ⟨rfl, I.turnedL (ch := [z, TI, TO, i1, i2]) (fun c o hb q => hk c o (fun q' => hb (by simp [q'])) (fun q' => hb (by simp [q'])) (fun q' => hb (by simp [q'])) (fun q' => hb (by simp [q'])) q) hf⟩
  self := fun A i s Q E st h => wpAny_pyIter_zip st.1 h
def iZipM (K : PySem.W.Frag) (ta : TA) : TI := fun σ H R => ta σ H fun vs H1 => ∃ t u a b xs ys, vs = [.ref a, .ref b] ∧ SqK K t H1 a xs ∧ SqK K u H1 b ys ∧ R (ItzM K t u a b) H1
theorem pi_zipM {X : Cx} {e e2 : Expr} {ta : TA} {p pos tpos : Pos} {elts : List Expr} {kk : Nat} (hg : Gl X "zip") (hm : X.mg "zip" = none) (ha : PA X [e, e2] ta)
    (hs : starEach [e, e2] X.env = (false, eval e X.env) :: starEach [e2] X.env := by rfl) (hpl : (backTo pos (starEach [e2] X.env)).any (·.1) = false := by rfl) :
    PI X (.Tuple elts kk tpos) (.Call (.Name "zip" p) [e, e2] [] pos) (iZipM X.K ta) := by
  refine ⟨fun pins s σ H R I h => ?_⟩
  refine Call_ (ld_blt I hg hm PyProof.Rows.boot_zip (PyProof.Rows.callWith_type1 (thn (ha.run pos pins s σ H _ I h) fun us s1 ⟨vs, H1, I1, r1, q1⟩ => ?_) hs hpl))
  obtain ⟨t, u, a, b, xs, ys, ex, hqx, hqy, q⟩ := q1
  subst ex
  cases r1 with
  | cons r rr =>
    cases rr with
    | cons r' rr =>
      cases rr
      cases r
      cases r'
      obtain ⟨its, rv, p1, la⟩ := seqK I1 hqx
      obtain ⟨its2, rv2, p2, lb⟩ := seqK I1 hqy
      have D := zip_sep2 (N := s1.heap.objs.size) (fp1 := [a]) (fp2 := [b]) (fun c hc => by cases List.mem_singleton.mp hc; exact la) (fun c hc => by cases List.mem_singleton.mp hc; exact lb)
      refine zip_begins2 (beginsK t a its.toArray) (beginsK u b its2.toArray) p1 p2 fun h' hz hTI hTO h1 h2 hsz hk => wpAny_pyIter_zip hz ?_
      have I2 : Inv X pins σ H1 { s1 with heap := h' } := I1.kept (t' := s1.toks) hk
      refine ⟨s1.heap.objs.size + 4, [s1.heap.objs.size + 4, s1.heap.objs.size + 2, s1.heap.objs.size + 3, s1.heap.objs.size, s1.heap.objs.size + 1], _, _, H1, rfl, I2, turn_zipM D (Nat.ne_of_lt la) (Nat.ne_of_lt (Nat.lt_succ_of_lt lb)), ⟨hz, hTI, ⟨_, _, hTO⟩, .begin h1, .begin h2⟩, fun c hcm => ?_, q⟩
      have hle : s1.heap.objs.size ≤ c := by
        simp only [List.mem_cons, List.not_mem_nil, or_false] at hcm
        have hle0 : ∀ k : Nat, s1.heap.objs.size ≤ s1.heap.objs.size + k := fun k => Nat.le_add_right _ _
        rcases hcm with rfl | rfl | rfl | rfl | rfl
        · exact hle0 4
        · exact hle0 2
        · exact hle0 3
        · exact Nat.le_refl _
        · exact hle0 1
      exact I1.fpOk hle (I1.hok.fresh hle)
end DM
namespace DM
open PySem PySem.Spec L2
section
variable {G : GT} {P : Hp} {ρ : List Addr} {H : Hp} {S : Store} {k k2 : SK} {ds es : List D} {a b : Addr}
theorem SeqAt.kind (h : SeqAt G P ρ H S k ds a) (s : VS G P ρ H S) : ∃ vs, SqK G.K (isT k) H a vs ∧ Reps G ρ H ds vs := by
  cases ht : isT k with
  | false =>
    obtain ⟨vs, e, r⟩ := h.list s ht
    exact ⟨vs, SqL.of e, r⟩
  | true =>
    obtain ⟨vs, e, r⟩ := h.tuple ht
    exact ⟨vs, e, r⟩
theorem drv_zipM (h1 : SeqAt G P ρ H S k ds a) (h2 : SeqAt G P ρ H S k2 es b) : Drv G P ρ H (ItzM G.K (isT k) (isT k2) a b) (zipD ds es) (fun S => chk k ds S ∧ chk k2 es S) := by
  intro i ρ1 H1 S1 s1 k1 c1
  obtain ⟨vs, e, r⟩ := (h1.next (fun _ _ e => e) k1 c1.1).kind s1
  obtain ⟨ws, e', r'⟩ := (h2.next (fun _ _ e => e) k1 c1.2).kind s1
  refine ⟨fun hi => ⟨vs, ws, e, e', ?_⟩, fun d hd => ?_⟩
  · unfold zipD at hi
    rw [List.length_zipWith, r.len, r'.len] at hi
    omega
  · obtain ⟨x, y, g1, g2, rfl⟩ := DM.zipD_get hd
    obtain ⟨v, hv, rv⟩ := r.get g1
    obtain ⟨u, hu, ru⟩ := r'.get g2
    refine ⟨⟨vs, ws, v, u, e, e', hv, hu⟩, fun z H' hy => ?_⟩
    obtain ⟨T, x', y', rfl, hT, ⟨ob, ho, rfl⟩, f1, f2⟩ := hy
    have ex : x' = v := Option.some.inj ((f1 vs e).symm.trans hv)
    have ey : y' = u := Option.some.inj ((f2 ws e').symm.trans hu)
    subst ex ey
    exact pair_new hT ho rv ru
end
end DM

namespace DM
open PySem PySem.Spec L2

open Classical in
noncomputable def miRng1 (m : ME) : MI := fun es S => (eArgs [m] es S).bind fun rs S1 => match rs with
  | [.d (.int n)] => if -(2 ^ 62) ≤ n ∧ n < 2 ^ 62 then .ok ((List.range n.toNat).map fun (i : Nat) => D.int (i : Int), fun _ => True) S1 else .bad
  | _ => .bad
open Classical in
noncomputable def miRng2 (m n : ME) : MI := fun es S => (eArgs [m, n] es S).bind fun rs S1 => match rs with
  | [.d (.int a), .d (.int b)] => if -(2 ^ 62) ≤ a ∧ a < 2 ^ 62 ∧ -(2 ^ 62) ≤ b ∧ b < 2 ^ 62 then .ok ((List.range (b - a).toNat).map fun (i : Nat) => D.int (a + (i : Int)), fun _ => True) S1 else .bad
  | _ => .bad
open Classical in
noncomputable def miRng3 (m n k : ME) : MI := fun es S => (eArgs [m, n, k] es S).bind fun rs S1 => match rs with
  | [.d (.int a), .d (.int b), .d (.int c)] => if RgC a b c (Builtin.Range.rangeSize a b c).toNat then .ok ((List.range (Builtin.Range.rangeSize a b c).toNat).map fun (i : Nat) => D.int (a + (i : Int) * c), fun _ => True) S1 else .bad
  | _ => .bad
open Classical in
noncomputable def miZip (m n : MQ) : MI := fun es S => (m es S).bind fun x S1 => (n es S1).bind fun y S2 =>
  if isT x.2 = isT y.2 ∧ chk x.2 x.1 S2 then .ok (zipD x.1 y.1, fun S => chk x.2 x.1 S ∧ chk y.2 y.1 S) S2 else .bad
open Classical in
noncomputable def miEnum (m : MQ) : MI := fun es S => (m es S).bind fun x S1 => if isT x.2 = false then .ok (enumD x.1, chk x.2 x.1) S1 else .bad

theorem args_any {G : GT} {W : WX} {X : Cx} {as : List Expr} {ms : List ME} (ha : SA G W X as ms) : ∃ ta, PA X as ta ∧
    (∀ P ρ H S σ es (Q : List V → Hp → Prop), VS G P ρ H S → SS G P ρ H σ es → AftQ G W (SS G) P ρ H σ es (eArgs ms es S) (fun rs S' P' ρ' H' => ∀ vs P2, RRs G P2 ρ' H' rs vs → Q vs H') → ta σ H Q) ∧
    (∀ P ρ H S σ es (Q : List V → Hp → Prop), VS G P ρ H S → ES G P ρ H σ es → AftQ G W (ES G) P ρ H σ es (eArgs ms es S) (fun rs S' P' ρ' H' => ∀ vs P2, RRs G P2 ρ' H' rs vs → Q vs H') → ta σ H Q) := by
  refine ⟨_, ha.pa, fun P ρ H S σ es Q s q h => ?_, fun P ρ H S σ es Q s q h => ?_⟩
  · refine ⟨_, ρ, es, S, q.vs s, q.toES, ?_⟩
    cases e : eArgs ms es S with
    | bad => rw [e] at h; exact h
    | ex c p S1 =>
      rw [e] at h
      exact fun cls d ρ1 H1 s1 k1 rx => h cls d ρ1 H1 (s1.less q.sub) (q.next s1 k1) k1 rx
    | ok rs S1 =>
      rw [e] at h
      intro vs P' ρ' H' hp s' t rrs
      have s2 : VS G (plus P H σ es) ρ' H' S1 := s'.less hp
      exact h P ρ' H' (fun _ _ e => e) (s2.less q.sub) (q.next s2 t) t vs P' rrs
  · refine ⟨P, ρ, es, S, s, q, ?_⟩
    cases e : eArgs ms es S with
    | bad => rw [e] at h; exact h
    | ex c p S1 =>
      rw [e] at h
      exact fun cls d ρ1 H1 s1 k1 rx => h cls d ρ1 H1 s1 (q.next k1) k1 rx
    | ok rs S1 =>
      rw [e] at h
      intro vs P' ρ' H' hp s' t rrs
      exact h P ρ' H' (fun _ _ e => e) (s'.less hp) (q.next t) t vs P' rrs
theorem rrs_i1 {G : GT} {P : Hp} {ρ : List Addr} {H : Hp} {n : Int} {vs : List V} (h : RRs G P ρ H [.d (.int n)] vs) : vs = [.int n] := by
  cases h with
  | cons h t =>
    cases t
    cases h
    rfl
theorem rrs_i2 {G : GT} {P : Hp} {ρ : List Addr} {H : Hp} {n m : Int} {vs : List V} (h : RRs G P ρ H [.d (.int n), .d (.int m)] vs) : vs = [.int n, .int m] := by
  cases h with
  | cons h t =>
    cases h
    rw [rrs_i1 t]
theorem rrs_i3 {G : GT} {P : Hp} {ρ : List Addr} {H : Hp} {n m k : Int} {vs : List V} (h : RRs G P ρ H [.d (.int n), .d (.int m), .d (.int k)] vs) : vs = [.int n, .int m, .int k] := by
  cases h with
  | cons h t =>
    cases h
    rw [rrs_i2 t]
section
variable {G : GT} {W : WX} {X : Cx} {tg a b c : Expr} {ma mb mc : ME} {p pos : Pos}
theorem rng1_core {Rl : RL} {ta : TA} (lw : Low Rl) (hta : ∀ P ρ H S σ es (Q : List V → Hp → Prop), VS G P ρ H S → Rl P ρ H σ es → AftQ G W Rl P ρ H σ es (eArgs [ma] es S) (fun rs S' P' ρ' H' => ∀ vs P2, RRs G P2 ρ' H' rs vs → Q vs H') → ta σ H Q) :
    ∀ P ρ H S σ es (R : L2.It → Hp → Prop), VS G P ρ H S → Rl P ρ H σ es → AftQ G W Rl P ρ H σ es (miRng1 ma es S) (fun x S' P' ρ' H' => ∀ J, Drv G P' ρ' H' J x.1 x.2 → R J H') → iRng1 ta σ H R := by
  intro P ρ H S σ es R s q h
  refine hta P ρ H S σ es _ s q (AftQ.imp (AftQ.bindOk lw q h) fun rs S' P' ρ' H' e hp s' q' t h vs P2 rrs => ?_)
  split at h
  · rename_i n
    split at h
    · rename_i hb
      have hv := rrs_i1 rrs
      refine ⟨n, hv, hb.1, hb.2, ?_⟩
      have := h P' ρ' H' (fun _ _ e => e) s' q' (TK.refl _ _) (Itr 0 n.toNat)
      refine this ?_
      have d := drv_rng (G := G) (P := P') (ρ := ρ') (H := H') (lo := 0) (n := n.toNat)
      simp only [Int.zero_add] at d
      exact d
    · exact h.elim
  · exact h.elim
theorem rng3_core {Rl : RL} {ta : TA} (lw : Low Rl) (hta : ∀ P ρ H S σ es (Q : List V → Hp → Prop), VS G P ρ H S → Rl P ρ H σ es → AftQ G W Rl P ρ H σ es (eArgs [ma, mb, mc] es S) (fun rs S' P' ρ' H' => ∀ vs P2, RRs G P2 ρ' H' rs vs → Q vs H') → ta σ H Q) :
    ∀ P ρ H S σ es (R : L2.It → Hp → Prop), VS G P ρ H S → Rl P ρ H σ es → AftQ G W Rl P ρ H σ es (miRng3 ma mb mc es S) (fun x S' P' ρ' H' => ∀ J, Drv G P' ρ' H' J x.1 x.2 → R J H') → iRng3 ta σ H R := by
  intro P ρ H S σ es R s q h
  refine hta P ρ H S σ es _ s q (AftQ.imp (AftQ.bindOk lw q h) fun rs S' P' ρ' H' e hp s' q' t h vs P2 rrs => ?_)
  split at h
  · rename_i n m k
    split at h
    · rename_i hb
      have hv := rrs_i3 rrs
      exact ⟨n, m, k, _, hv, hb, h P' ρ' H' (fun _ _ e => e) s' q' (TK.refl _ _) (Itc n k _) drv_rngC⟩
    · exact h.elim
  · exact h.elim
theorem si_rng1 (ha : SA G W X [a] [ma]) (hg : Gl X "range") (hm : X.mg "range" = none) (hs : starEach [a] X.env = [(false, eval a X.env)] := by rfl) : SIt G W (SS G) X tg (.Call (.Name "range" p) [a] [] pos) (miRng1 ma) := by
  obtain ⟨ta, pa, h1, h2⟩ := args_any ha
  exact ⟨ha.k, _, pi_range1 hg hm pa hs, rng1_core lowSS h1⟩
theorem sc_rng1 (ha : SA G W X [a] [ma]) (hg : Gl X "range") (hm : X.mg "range" = none) (hs : starEach [a] X.env = [(false, eval a X.env)] := by rfl) : SIt G W (ES G) X tg (.Call (.Name "range" p) [a] [] pos) (miRng1 ma) := by
  obtain ⟨ta, pa, h1, h2⟩ := args_any ha
  exact ⟨ha.k, _, pi_range1 hg hm pa hs, rng1_core lowES h2⟩
theorem si_rng3 (ha : SA G W X [a, b, c] [ma, mb, mc]) (hg : Gl X "range") (hm : X.mg "range" = none) (hs : starEach [a, b, c] X.env = (false, eval a X.env) :: starEach [b, c] X.env := by rfl) (hpl : (backTo pos (starEach [b, c] X.env)).any (·.1) = false := by rfl) : SIt G W (SS G) X tg (.Call (.Name "range" p) [a, b, c] [] pos) (miRng3 ma mb mc) := by
  obtain ⟨ta, pa, h1, h2⟩ := args_any ha
  exact ⟨ha.k, _, pi_range3 hg hm pa hs hpl, rng3_core lowSS h1⟩
theorem si_zip {Rl : RL} {elts : List Expr} {kk : Nat} {tpos : Pos} {qa qb : MQ} (ha : SQ G W Rl X a qa) (hb : SQ G W Rl X b qb) (hg : Gl X "zip") (hm : X.mg "zip" = none)
    (hs : starEach [a, b] X.env = (false, eval a X.env) :: starEach [b] X.env := by rfl) (hpl : (backTo pos (starEach [b] X.env)).any (·.1) = false := by rfl) (hsb : starEach (b :: []) X.env = (false, eval b X.env) :: starEach [] X.env := by rfl) (lw : Low Rl := by first | exact lowSS | exact lowES) :
    SIt G W Rl X (.Tuple elts kk tpos) (.Call (.Name "zip" p) [a, b] [] pos) (miZip qa qb) := by
  obtain ⟨k, te, pe, ok⟩ := ha
  obtain ⟨_, te2, pe2, ok2⟩ := hb
  refine ⟨k, _, pi_zipM hg hm (pa_cons pe (pa_cons pe2 pa_nil hsb) hs) hs hpl, fun P ρ H S σ es R s q h => ?_⟩
  refine ok P ρ H S σ es _ s q (AftQ.imp (AftQ.bindOk lw q h) fun x S1 P1 ρ1 H1 e1 hp1 s1 q1 t1 h x' at1 => ?_)
  refine ok2 P1 ρ1 H1 S1 σ es _ s1 q1 (AftQ.imp (AftQ.bindOk lw q1 h) fun y S2 P2 ρ2 H2 e2 hp2 s2 q2 t2 h y' at2 => ?_)
  split at h
  · rename_i hc
    have at1' := at1.next hp2 t2 hc.2
    have h' := h P2 ρ2 H2 (fun _ _ e => e) s2 q2 (TK.refl _ _)
    rw [k]
    obtain ⟨vs, e, _⟩ := at1'.kind s2
    obtain ⟨ws, e', _⟩ := at2.kind s2
    exact ⟨_, _, x', y', vs, ws, rfl, e, e', h' _ (drv_zipM at1' at2)⟩
  · exact h.elim
end

open Classical in
noncomputable def forL (ck : Store → Prop) (g : MG) (b : MS) : List D → MS
  | [] => fun es S => if ck S then .nx es S else .bad
  | x :: xs => fun es S => if ck S then (match g x es with
    | some es1 => (match b es1 S with
      | .nx es2 S2 => forL ck g b xs es2 S2
      | .ct es2 S2 => forL ck g b xs es2 S2
      | .bk es2 S2 => .nx es2 S2
      | r => r)
    | none => .bad) else .bad
noncomputable def sFor (mi : MI) (g : MG) (b : MS) : MS := fun es S => bindS (mi es S) es fun x S1 => forL x.2 g b x.1 es S1
def sWhile (c : MB) (b : MS) : Nat → MS
  | 0 => fun _ _ => .bad
  | n + 1 => fun es S => bindS (c es S) es fun x S1 => if x = true then (match b es S1 with
    | .nx es2 S2 => sWhile c b n es2 S2
    | .ct es2 S2 => sWhile c b n es2 S2
    | .bk es2 S2 => .nx es2 S2
    | r => r) else .nx es S1
section
variable {G : GT} {W : WX} {X : Cx} {tg iter c : Expr} {body : List Stmt} {mi : MI} {mg : MG} {mb : MS} {ix : List Nat} {pos : Pos}
theorem sp_for (hp : PassesOwn (model X.prog X.w) X.A X.env X.xe) (hc : X.calm = true) (hi : SIt G W (SS G) X tg iter mi) (hg : SG G X tg ix mg) (hb : SPs G W X body mb)
    (hs : ∀ x, foldedSetIterable iter X.env x = pure x := by intro _; rfl) : SP1 G W X (.For tg iter body [] pos) (sFor mi mg mb) := by
  obtain ⟨k, wi, pi, ok⟩ := hi
  obtain ⟨t, pg, okg⟩ := hg
  refine ⟨k, PS.of (ps_for hp hc pi pg hb.pss hs) fun D σ H h => ?_⟩
  obtain ⟨P, ρ, es, S, s, q, h⟩ := h
  refine ok P ρ H S σ es _ s q ?_
  unfold sFor at h
  cases z : mi es S with
  | bad => rw [z] at h; exact h
  | ex c p S1 => rw [z] at h; exact fun cls d ρ1 H1 s1 q1 k1 rx => h cls d σ ρ1 H1 s1 q1 (TKS.of k1) rx
  | ok x S1 =>
    rw [z] at h
    obtain ⟨xs, ck⟩ := x
    intro P' ρ1 H1 hp' s1 q1 t1 J dv
    have h : AftS G W P ρ H σ es (forL ck mg mb xs es S1) D := h
    have h0 : AftS G W P' ρ1 H1 σ es (forL ck mg mb xs es S1) D := by
      have := AftS.more q hp' h
      exact AftS.next (TKS.of t1) this
    refine ⟨fun i m σ2 H2 => ∃ ρ2 es2 S2, VS G P' ρ2 H2 S2 ∧ SS G P' ρ2 H2 σ2 es2 ∧ TKS ρ1 H1 σ es ρ2 H2 σ2 es2 ∧ i + m = xs.length ∧ AftS G W P' ρ2 H2 σ2 es2 (forL ck mg mb (xs.drop i) es2 S2) D,
      ⟨xs.length, ρ1, es, S1, s1, q1, TKS.refl _ _ _ _, by omega, by simpa using h0⟩, fun i m σ2 H2 hW => ?_⟩
    obtain ⟨ρ2, es2, S2, s2, q2, t2, hm, h2⟩ := hW
    cases hx : xs.drop i with
    | nil =>
      rw [hx] at h2
      have hi : i = xs.length := by
        have := List.drop_eq_nil_iff.mp hx
        omega
      unfold forL at h2
      split at h2
      · rename_i hck
        exact .inl ⟨(dv i ρ2 H2 S2 s2 t2.tk hck).1 hi, h2 σ2 ρ2 H2 s2 q2 (TKS.refl _ _ _ _)⟩
      · exact h2.elim
    | cons d r =>
      rw [hx] at h2
      have hd : xs[i]? = some d := by
        have : (xs.drop i)[0]? = some d := by rw [hx]; rfl
        rw [List.getElem?_drop, Nat.add_zero] at this
        exact this
      have hr : xs.drop (i + 1) = r := by
        have : (xs.drop i).drop 1 = r := by rw [hx]; rfl
        rw [List.drop_drop] at this
        exact this
      have hil : i < xs.length := (List.getElem?_eq_some_iff.mp hd).1
      unfold forL at h2
      split at h2
      · rename_i hck
        obtain ⟨_, dv2⟩ := dv i ρ2 H2 S2 s2 t2.tk hck
        obtain ⟨go, yl⟩ := dv2 d hd
        refine .inr ⟨go, fun σ3 H3 => ∃ ρ3 es3 S3, VS G P' ρ3 H3 S3 ∧ SS G P' ρ3 H3 σ3 es3 ∧ TKS ρ1 H1 σ es ρ3 H3 σ3 es3 ∧ AftS G W P' ρ3 H3 σ3 es3 (forL ck mg mb r es3 S3) D, fun σ3 H3 hN => ?_, fun v H3 hy => ?_⟩
        · obtain ⟨ρ3, es3, S3, s3, q3, t3, h3⟩ := hN
          exact ⟨m - 1, by omega, ρ3, es3, S3, s3, q3, t3, by omega, by rw [hr]; exact h3⟩
        · obtain ⟨gr, rv⟩ := yl v H3 hy
          have tk3 : TK ρ2 H2 ρ2 H3 := TK.same gr
          have s3 : VS G P' ρ2 H3 S2 := s2.grow gr
          have q3 : SS G P' ρ2 H3 σ2 es2 := by
            refine ⟨q2.len, fun i d e => ?_, fun i ds e => ?_, fun i ds e => ?_, q2.dis⟩
            · obtain ⟨x, h1, h2⟩ := q2.val i d e
              exact ⟨x, h1, h2.mono tk3⟩
            · obtain ⟨a, vs, e1, e2, e3⟩ := q2.bor i ds e
              exact ⟨a, vs, e1, e2, e3.mono tk3⟩
            · obtain ⟨a, vs, e1, e2, e3, e4, e5⟩ := q2.own i ds e
              exact ⟨a, vs, e1, gr _ _ e2, e3.mono tk3, e4, e5⟩
          cases zg : mg d es2 with
          | none => rw [zg] at h2; exact h2.elim
          | some es3 =>
            rw [zg] at h2
            refine okg ρ2 H3 σ2 es2 es3 d v _ rv zg fun σ3 st => ?_
            refine ⟨P', ρ2, es3, S2, s3, st.ss P' q3, ?_⟩
            have tt : TKS ρ2 H2 σ2 es2 ρ2 H3 σ3 es3 := (TKS.of tk3).trans st.tk
            have h3 := AftS.next tt h2
            dsimp only at h3
            cases zb : mb es3 S2 with
            | nx es4 S4 =>
              rw [zb] at h3
              exact fun σ4 ρ4 H4 s4 q4 t4 => ⟨ρ4, es4, S4, s4, q4, (t2.trans tt).trans t4, AftS.next t4 h3⟩
            | ct es4 S4 =>
              rw [zb] at h3
              exact fun σ4 ρ4 H4 s4 q4 t4 => ⟨ρ4, es4, S4, s4, q4, (t2.trans tt).trans t4, AftS.next t4 h3⟩
            | bk es4 S4 => rw [zb] at h3; exact h3
            | rt rr S4 => rw [zb] at h3; exact h3
            | ex c p es4 S4 => rw [zb] at h3; exact h3
            | bad => rw [zb] at h3; exact h3
      · exact h2.elim
def frzS (i : Nat) (es : Env) : Env := match es[i]? with
  | some (.own ds) => es.set i (.bor ds)
  | _ => es
def unfS (i : Nat) (es0 es : Env) : Env := match es0[i]?, es[i]? with
  | some (.own ds), some (.bor _) => es.set i (.own ds)
  | _, _ => es
def sFrz (i : Nat) (m : MS) : MS := fun es S => match m (frzS i es) S with
  | .nx es' S' => .nx (unfS i es es') S'
  | .bk es' S' => .bk (unfS i es es') S'
  | .ct es' S' => .ct (unfS i es es') S'
  | .ex c p es' S' => .ex c p (unfS i es es') S'
  | r => r
theorem unf_ok {P : Hp} {ρ ρ' : List Addr} {H H' : Hp} {S S' : Store} {σ σ' : St} {es es' : Env} {i : Nat} {ds : List D} {a : Addr} {vs : List V} (s : VS G P ρ H S) (q : SS G P ρ H σ es) (ei : es[i]? = some (.own ds)) (ea : σ[i]? = some (some (.ref a))) (eH : H a = some (.lst vs)) (er : Reps G ρ H ds vs)
    (pa : P a = none) (s' : VS G (upd P a (.lst vs)) ρ' H' S') (q' : SS G (upd P a (.lst vs)) ρ' H' σ' es') (t : TKS ρ H σ (es.set i (.bor ds)) ρ' H' σ' es') :
    VS G P ρ' H' S' ∧ SS G P ρ' H' σ' (unfS i es es') ∧ TKS ρ H σ es ρ' H' σ' (unfS i es es') := by
  have hp : ∀ b o, P b = some o → upd P a (.lst vs) b = some o := fun b o e => by rw [upd_ne (fun z => by rw [z, pa] at e; cases e)]; exact e
  have hal : H' a = some (.lst vs) ∧ a ∉ ρ' := s'.pr a _ upd_same
  have hil : i < es.length := (List.getElem?_eq_some_iff.mp ei).1
  have bj : ∀ (j : Nat) es2, j ≠ i → es'[j]? = some (.bor es2) → es[j]? = some (.bor es2) ∧ σ'[j]? = σ[j]? := fun j es2 hj h => by
    obtain ⟨h1, h2⟩ := t.bor j es2 h
    rw [List.getElem?_set_ne (Ne.symm hj)] at h1
    exact ⟨h1, h2⟩
  have bor : ∀ (j : Nat) es2, j ≠ i → es'[j]? = some (.bor es2) → ∃ b us, σ'[j]? = some (some (.ref b)) ∧ P b = some (.lst us) ∧ Reps G ρ' H' es2 us := fun j es2 hj h => by
    obtain ⟨h1, h2⟩ := bj j es2 hj h
    obtain ⟨b, us, y1, y2, y3⟩ := q.bor j es2 h1
    exact ⟨b, us, h2.trans y1, y2, y3.mono t.tk⟩
  have own : ∀ (j : Nat) es2, es'[j]? = some (.own es2) → ∃ b us, σ'[j]? = some (some (.ref b)) ∧ H' b = some (.lst us) ∧ Reps G ρ' H' es2 us ∧ b ∉ ρ' ∧ P b = none ∧ b ≠ a := fun j es2 h => by
    obtain ⟨b, us, y1, y2, y3, y4, y5⟩ := q'.own j es2 h
    have hb : b ≠ a := fun z => by rw [z, upd_same] at y5; cases y5
    rw [upd_ne hb] at y5
    exact ⟨b, us, y1, y2, y3, y4, y5, hb⟩
  refine ⟨s'.less hp, ?_⟩
  unfold unfS
  rw [ei]
  cases e : es'[i]? with
  | none =>
    refine ⟨⟨q'.len, q'.val, fun j es2 h => bor j es2 (fun z => by rw [z, e] at h; cases h) h, fun j es2 h => let ⟨b, us, y1, y2, y3, y4, y5, _⟩ := own j es2 h; ⟨b, us, y1, y2, y3, y4, y5⟩, q'.dis⟩, t.tk, fun j es2 h => bj j es2 (fun z => by rw [z, e] at h; cases h) h⟩
  | some sl =>
    cases sl with
    | bor ds' =>
      obtain ⟨h1, h2⟩ := t.bor i ds' e
      rw [List.getElem?_set_self hil] at h1
      have hd : ds = ds' := by injection h1 with h1; injection h1
      subst hd
      have ha' : σ'[i]? = some (some (.ref a)) := h2.trans ea
      have hl' : i < es'.length := (List.getElem?_eq_some_iff.mp e).1
      dsimp only
      refine ⟨⟨by rw [List.length_set]; exact q'.len, fun j d h => ?_, fun j es2 h => ?_, fun j es2 h => ?_, fun j k d1 d2 b h1 h2 h3 h4 => ?_⟩, t.tk, fun j es2 h => ?_⟩
      · rcases get_set h with ⟨rfl, hl, z⟩ | ⟨hn, h⟩
        · cases z
        · exact q'.val j d h
      · rcases get_set h with ⟨rfl, hl, z⟩ | ⟨hn, h⟩
        · cases z
        · exact bor j es2 (Ne.symm hn) h
      · rcases get_set h with ⟨rfl, hl, z⟩ | ⟨hn, h⟩
        · cases z
          exact ⟨a, vs, ha', hal.1, er.mono t.tk, hal.2, pa⟩
        · obtain ⟨b, us, y1, y2, y3, y4, y5, _⟩ := own j es2 h
          exact ⟨b, us, y1, y2, y3, y4, y5⟩
      · rcases get_set h1 with ⟨rfl, hl, z⟩ | ⟨hn, h1⟩
        · rcases get_set h2 with ⟨rfl, hl, z⟩ | ⟨hn2, h2⟩
          · rfl
          · obtain ⟨c, us, y1, _, _, _, _, y6⟩ := own k d2 h2
            rw [ha'] at h3
            cases h3
            rw [h4] at y1
            cases y1
            exact absurd rfl y6
        · rcases get_set h2 with ⟨rfl, hl, z⟩ | ⟨hn2, h2⟩
          · obtain ⟨c, us, y1, _, _, _, _, y6⟩ := own j d1 h1
            rw [ha'] at h4
            cases h4
            rw [h3] at y1
            cases y1
            exact absurd rfl y6
          · exact q'.dis j k d1 d2 b h1 h2 h3 h4
      · rcases get_set h with ⟨rfl, hl, z⟩ | ⟨hn, h⟩
        · cases z
        · exact bj j es2 (Ne.symm hn) h
    | no =>
      refine ⟨⟨q'.len, q'.val, fun j es2 h => bor j es2 (fun z => by rw [z, e] at h; cases h) h, fun j es2 h => let ⟨b, us, y1, y2, y3, y4, y5, _⟩ := own j es2 h; ⟨b, us, y1, y2, y3, y4, y5⟩, q'.dis⟩, t.tk, fun j es2 h => bj j es2 (fun z => by rw [z, e] at h; cases h) h⟩
    | v x =>
      refine ⟨⟨q'.len, q'.val, fun j es2 h => bor j es2 (fun z => by rw [z, e] at h; cases h) h, fun j es2 h => let ⟨b, us, y1, y2, y3, y4, y5, _⟩ := own j es2 h; ⟨b, us, y1, y2, y3, y4, y5⟩, q'.dis⟩, t.tk, fun j es2 h => bj j es2 (fun z => by rw [z, e] at h; cases h) h⟩
    | own x =>
      refine ⟨⟨q'.len, q'.val, fun j es2 h => bor j es2 (fun z => by rw [z, e] at h; cases h) h, fun j es2 h => let ⟨b, us, y1, y2, y3, y4, y5, _⟩ := own j es2 h; ⟨b, us, y1, y2, y3, y4, y5⟩, q'.dis⟩, t.tk, fun j es2 h => bj j es2 (fun z => by rw [z, e] at h; cases h) h⟩
theorem sp_frz {st : Stmt} {m : MS} (i : Nat) (h : SP1 G W X st m) : SP1 G W X st (sFrz i m) := by
  refine ⟨h.k, PS.of h.ps fun D σ H h => ?_⟩
  obtain ⟨P, ρ, es, S, s, q, h⟩ := h
  have triv : frzS i es = es → (∀ es', unfS i es es' = es') → rdS G W m D σ H := fun e1 e2 => by
    refine ⟨P, ρ, es, S, s, q, ?_⟩
    unfold sFrz at h
    rw [e1] at h
    cases z : m es S with
    | nx es' S' => rw [z] at h; dsimp only at h; rw [e2] at h; exact h
    | bk es' S' => rw [z] at h; dsimp only at h; rw [e2] at h; exact h
    | ct es' S' => rw [z] at h; dsimp only at h; rw [e2] at h; exact h
    | ex c p es' S' => rw [z] at h; dsimp only at h; rw [e2] at h; exact h
    | rt r S' => rw [z] at h; exact h
    | bad => rw [z] at h; exact h
  cases ei : es[i]? with
  | none => exact triv (by unfold frzS; rw [ei]) fun es' => by unfold unfS; rw [ei]
  | some sl =>
    cases sl with
    | no => exact triv (by unfold frzS; rw [ei]) fun es' => by unfold unfS; rw [ei]
    | v x => exact triv (by unfold frzS; rw [ei]) fun es' => by unfold unfS; rw [ei]
    | bor x => exact triv (by unfold frzS; rw [ei]) fun es' => by unfold unfS; rw [ei]
    | own ds =>
      obtain ⟨a, vs, e1, e2, e3, e4, e5⟩ := q.own i ds ei
      have hp : ∀ b o, P b = some o → upd P a (.lst vs) b = some o := fun b o e => by rw [upd_ne (fun z => by rw [z, e5] at e; cases e)]; exact e
      have hil : i < es.length := (List.getElem?_eq_some_iff.mp ei).1
      have efr : frzS i es = es.set i (.bor ds) := by unfold frzS; rw [ei]
      refine ⟨upd P a (.lst vs), ρ, es.set i (.bor ds), S, ⟨s.len, s.nd, s.st, fun b o e => ?_⟩, ⟨by rw [List.length_set]; exact q.len, fun j d h => ?_, fun j es2 h => ?_, fun j es2 h => ?_, fun j k d1 d2 b h1 h2 h3 h4 => ?_⟩, ?_⟩
      · by_cases hb : b = a
        · subst hb; rw [upd_same] at e; cases e; exact ⟨e2, e4⟩
        · rw [upd_ne hb] at e; exact s.pr b o e
      · rcases get_set h with ⟨rfl, hl, z⟩ | ⟨hn, h⟩
        · cases z
        · exact q.val j d h
      · rcases get_set h with ⟨rfl, hl, z⟩ | ⟨hn, h⟩
        · cases z
          exact ⟨a, vs, e1, upd_same, e3⟩
        · obtain ⟨b, us, y1, y2, y3⟩ := q.bor j es2 h
          exact ⟨b, us, y1, hp _ _ y2, y3⟩
      · rcases get_set h with ⟨rfl, hl, z⟩ | ⟨hn, h⟩
        · cases z
        · obtain ⟨b, us, y1, y2, y3, y4, y5⟩ := q.own j es2 h
          refine ⟨b, us, y1, y2, y3, y4, ?_⟩
          rw [upd_ne (show b ≠ a from fun z => hn (q.dis i j _ _ a ei h e1 (by rw [z] at y1; exact y1)))]
          exact y5
      · rcases get_set h1 with ⟨rfl, hl, z⟩ | ⟨hn, h1⟩
        · cases z
        · rcases get_set h2 with ⟨rfl, hl, z⟩ | ⟨hn2, h2⟩
          · cases z
          · exact q.dis j k d1 d2 b h1 h2 h3 h4
      · unfold sFrz at h
        rw [efr] at h
        cases z : m (es.set i (.bor ds)) S with
        | nx es' S' =>
          rw [z] at h
          intro σ' ρ' H' s' q' t
          obtain ⟨y1, y2, y3⟩ := unf_ok s q ei e1 e2 e3 e5 s' q' t
          exact h σ' ρ' H' y1 y2 y3
        | bk es' S' =>
          rw [z] at h
          intro σ' ρ' H' s' q' t
          obtain ⟨y1, y2, y3⟩ := unf_ok s q ei e1 e2 e3 e5 s' q' t
          exact h σ' ρ' H' y1 y2 y3
        | ct es' S' =>
          rw [z] at h
          intro σ' ρ' H' s' q' t
          obtain ⟨y1, y2, y3⟩ := unf_ok s q ei e1 e2 e3 e5 s' q' t
          exact h σ' ρ' H' y1 y2 y3
        | ex c p es' S' =>
          rw [z] at h
          intro cls d σ' ρ' H' s' q' t rx
          obtain ⟨y1, y2, y3⟩ := unf_ok s q ei e1 e2 e3 e5 s' q' t
          exact h cls d σ' ρ' H' y1 y2 y3 rx
        | rt r S' =>
          rw [z] at h
          exact ⟨h.1, fun v ρ' H' s' t rr => h.2 v ρ' H' (s'.less hp) t (RR.less hp h.1 rr)⟩
        | bad => rw [z] at h; exact h.elim
end
end DM

namespace DM
open PySem PySem.Spec L2

abbrev W0 : WX := fun _ _ _ _ => False
def wipeE (es : Env) : List Nat → Env
  | [] => es
  | v :: vs => (wipeE es vs).set v .no
open Classical in
noncomputable def compL (ck : Store → Prop) (g : MG) (t : MB) (m : ME) (es : Env) : List D → Store → Res (List D)
  | [], S => if ck S then .ok [] S else .bad
  | x :: xs, S => if ck S then (match g x es with
    | some es1 => (t es1 S).bind fun b S1 => if b = true then ((m es1 S1).bind item).bind fun d S2 => (compL ck g t m es xs S2).bind fun ds S3 => .ok (d :: ds) S3 else compL ck g t m es xs S1
    | none => .bad) else .bad
def noEx {T : Type} (r : Res T) : Res T := match r with
  | .ex _ _ _ => .bad
  | r => r
def bYes : MB := fun _ S => .ok true S
open Classical in
noncomputable def eComp (mi : MI) (g : MG) (t : MB) (m : ME) (vs : List Nat) : ME := fun es S => (mi es S).bind fun x S1 =>
  if x.1.length ≤ sizeLine then (noEx (compL x.2 g t m (wipeE es vs) x.1 S1)).bind fun ds S2 => .ok (.l true ds) S2 else .bad
section
variable {G : GT} {P : Hp} {ρ : List Addr} {H : Hp} {σ : St} {es : Env}
theorem ES.setN (q : ES G P ρ H σ es) {i : Nat} {x : Option V} : ES G P ρ H (σ.set i x) (es.set i .no) := by
  have sg : ∀ (j : Nat), i ≠ j → (σ.set i x)[j]? = σ[j]? := fun j h => by rw [List.getElem?_set_ne h]
  refine ⟨by simp [q.len], fun j e h => ?_, fun j ds h => ?_⟩
  · rcases get_set h with ⟨rfl, hl, e1⟩ | ⟨hn, h⟩
    · cases e1
    · rw [sg j hn]; exact q.val j e h
  · rcases h with h | h
    · rcases get_set h with ⟨rfl, hl, e1⟩ | ⟨hn, h⟩
      · cases e1
      · rw [sg j hn]; exact q.lst j ds (.inl h)
    · rcases get_set h with ⟨rfl, hl, e1⟩ | ⟨hn, h⟩
      · cases e1
      · rw [sg j hn]; exact q.lst j ds (.inr h)
theorem ES.wipe (q : ES G P ρ H σ es) : ∀ vs : List Nat, ES G P ρ H (wipe σ vs) (wipeE es vs)
  | [] => q
  | v :: vs => (ES.wipe q vs).setN
end
structure STs (G : GT) (W : WX) (X : Cx) (ifs : List Expr) (m : MB) : Prop where
  k : X.K = G.K
  pts : PTs X ifs (rdB G W m)
theorem sts_nil {G : GT} {W : WX} {X : Cx} (k : X.K = G.K) : STs G W X [] bYes := by
  refine ⟨k, ⟨fun pins s σ H Q I h => pts_nil.run pins s σ H Q I ?_⟩⟩
  obtain ⟨P, ρ, es, S, s, q, h⟩ := h
  exact h ρ H s (TK.refl _ _)
theorem sts_one {G : GT} {W : WX} {X : Cx} {c : Expr} {m : MB} (h : SB G W X c m) : STs G W X [c] m := ⟨h.k, pts_one h.pt⟩

section
variable {G : GT} {W : WX} {X : Cx}
theorem comp_core {wi : TI} {g : TG} {ix : List Nat} {mi : MI} {mg : MG} {mt : MB} {me : ME} {vs : List Nat} {σ : St} {H : Hp} {Q : VK}
    (ok : ∀ P ρ H S σ es (R : L2.It → Hp → Prop), VS G P ρ H S → ES G P ρ H σ es → AftQ G W (ES G) P ρ H σ es (mi es S) (fun x S' P' ρ' H' => ∀ J, Drv G P' ρ' H' J x.1 x.2 → R J H') → wi σ H R)
    (okg : ∀ ρ H σ es es' x v (Q : St → Hp → Prop), Rep G ρ H x v → mg x es = some es' → (∀ σ', Stored G ix ρ H σ es σ' es' → Q σ' H) → g v σ H Q) (hix : ∀ i ∈ ix, i ∈ vs)
    (h : rdE G W (eComp mi mg mt me vs) σ H Q) : tLc wi g (rdB G W0 mt) (rdE G W0 me) vs σ H Q := by
  obtain ⟨P, ρ, es, S, s, q, h⟩ := h
  refine ok P ρ H S σ es _ s q ?_
  unfold eComp at h
  cases z : mi es S with
  | bad => rw [z] at h; exact h
  | ex c p S1 => rw [z] at h; exact fun cls d ρ1 H1 s1 q1 k1 rx => h cls d ρ1 H1 s1 k1 rx
  | ok x S1 =>
    rw [z] at h
    obtain ⟨xs, ck⟩ := x
    intro P' ρ1 H1 hp' s1 q1 t1 J dv
    dsimp only [Res.bind] at h
    split at h
    case isFalse => exact h.elim
    rename_i hz
    have h : Aft G (fun cls d H' => W cls d σ H') P ρ H ((noEx (compL ck mg mt me (wipeE es vs) xs S1)).bind fun ds S2 => .ok (.l true ds) S2) Q := h
    intro Dl hD
    -- the invariant: acc is made, the rest is to be made
    have fr := s1.free hD
    let Inv (i : Nat) (H2 : Hp) : Prop := ∃ ρ2 S2 acc av, VS G P' ρ2 H2 S2 ∧ TK ρ1 H1 ρ2 H2 ∧ H2 Dl = some (.lst av) ∧ Dl ∉ ρ2 ∧ Reps G ρ2 H2 acc av ∧ acc.length ≤ i ∧
      Aft G (fun cls d H' => W cls d σ H') P ρ2 H2 ((noEx (compL ck mg mt me (wipeE es vs) (xs.drop i) S2)).bind fun ds S3 => .ok (.l true (acc ++ ds)) S3) Q
    have g0 : ∀ a o, H1 a = some o → upd H1 Dl (.lst []) a = some o := fun a o e => by rw [upd_ne (ne_of_none e hD)]; exact e
    refine ⟨fun i m H2 => i + m = xs.length ∧ Inv i H2, ⟨xs.length, by omega, ρ1, S1, [], [], s1.grow g0, TK.same g0, upd_same, fr.1, .nil, Nat.le_refl _, ?_⟩, fun i m H2 hW => ?_⟩
    · have := Aft.next (t1.trans (TK.same g0)) h
      simpa using this
    obtain ⟨hm, ρ2, S2, acc, av, s2, t2, hDl, hnr, ra, hacc, h2⟩ := hW
    have pD : P' Dl = none := fr.2
    -- protection of the new list
    have hp2 : ∀ b o, P' b = some o → upd P' Dl (.lst av) b = some o := fun b o e => by rw [upd_ne (fun z => by rw [z, pD] at e; cases e)]; exact e
    have sP : VS G (upd P' Dl (.lst av)) ρ2 H2 S2 := ⟨s2.len, s2.nd, s2.st, fun b o e => by
      by_cases hb : b = Dl
      · subst hb; rw [upd_same] at e; cases e; exact ⟨hDl, hnr⟩
      · rw [upd_ne hb] at e; exact s2.pr b o e⟩
    cases hx : xs.drop i with
    | nil =>
      rw [hx] at h2
      have hi : i = xs.length := by
        have := List.drop_eq_nil_iff.mp hx
        omega
      unfold compL at h2
      split at h2
      · rename_i hck
        refine .inl ⟨(dv i ρ2 H2 S2 s2 t2 hck).1 hi, ?_⟩
        have h3 : Aft G (fun cls d H' => W cls d σ H') P ρ2 H2 (.ok (.l true (acc ++ [])) S2) Q := h2
        refine h3 (.ref Dl) ρ2 H2 (s2.less hp') (TK.refl _ _) ⟨Dl, av, rfl, hDl, by rw [List.append_nil]; exact ra, hnr, none_sub hp' pD⟩
      · exact h2.elim
    | cons d r =>
      rw [hx] at h2
      have hd : xs[i]? = some d := by
        have : (xs.drop i)[0]? = some d := by rw [hx]; rfl
        rw [List.getElem?_drop, Nat.add_zero] at this
        exact this
      have hr : xs.drop (i + 1) = r := by
        have : (xs.drop i).drop 1 = r := by rw [hx]; rfl
        rw [List.drop_drop] at this
        exact this
      have hil : i < xs.length := (List.getElem?_eq_some_iff.mp hd).1
      unfold compL at h2
      split at h2
      case isFalse => exact h2.elim
      rename_i hck
      obtain ⟨_, dv2⟩ := dv i ρ2 H2 S2 s2 t2 hck
      obtain ⟨go, yl⟩ := dv2 d hd
      refine .inr ⟨go, fun H3 => Inv (i + 1) H3, fun H3 hN => ⟨m - 1, by omega, by omega, hN⟩, fun v H3 hy => ?_⟩
      obtain ⟨gr, rv⟩ := yl v H3 hy
      have tk3 : TK ρ2 H2 ρ2 H3 := TK.same gr
      have s3 : VS G (upd P' Dl (.lst av)) ρ2 H3 S2 := sP.grow gr
      have q3 : ES G (upd P' Dl (.lst av)) ρ2 H3 (wipe σ vs) (wipeE es vs) := ((q1.next (t2.trans tk3)).more hp2).wipe vs
      cases zg : mg d (wipeE es vs) with
      | none => rw [zg] at h2; exact h2.elim
      | some es3 =>
        rw [zg] at h2
        refine okg ρ2 H3 (wipe σ vs) (wipeE es vs) es3 d v _ rv zg fun σ3 st => ⟨(st.wp vs hix).trans (by
          apply List.ext_getElem?
          intro j
          rw [wipe_get, wipe_get, wipe_length]
          by_cases hj : j ∈ vs <;> simp [hj]), ?_⟩
        have q4 := st.ee _ q3
        have h3 := Aft.next tk3 h2
        dsimp only at h3
        refine ⟨upd P' Dl (.lst av), ρ2, es3, S2, s3, q4, ?_⟩
        cases zt : mt es3 S2 with
        | bad => rw [zt] at h3; exact h3.elim
        | ex c p S3 => rw [zt] at h3; exact h3.elim
        | ok b S3 =>
          rw [zt] at h3
          intro ρ4 H4 s4 t4
          have h4 := Aft.next t4 h3
          cases b with
          | false =>
            show Inv (i + 1) H4
            refine ⟨ρ4, S3, acc, av, s4.less hp2, (t2.trans tk3).trans t4, (s4.pr Dl _ upd_same).1, (s4.pr Dl _ upd_same).2, ra.mono (tk3.trans t4), by omega, ?_⟩
            rw [hr]
            exact h4
          | true =>
            show rdE G W0 me σ3 H4 _
            refine ⟨upd P' Dl (.lst av), ρ4, es3, S3, s4, q4.next t4, ?_⟩
            have h4 : Aft G (fun cls d H' => W cls d σ H') P ρ4 H4 ((noEx (((me es3 S3).bind item).bind fun d S2 => (compL ck mg mt me (wipeE es vs) r S2).bind fun ds S3 => .ok (d :: ds) S3)).bind fun ds S3 => .ok (.l true (acc ++ ds)) S3) Q := h4
            cases zm : me es3 S3 with
            | bad => rw [zm] at h4; exact h4.elim
            | ex c p S4 => rw [zm] at h4; exact h4.elim
            | ok rv2 S4 =>
              rw [zm] at h4
              intro y ρ5 H5 s5 t5 rr5
              cases zi : item rv2 S4 with
              | bad => dsimp only [Res.bind] at h4; rw [zi] at h4; exact h4.elim
              | ex c p S5 => exact (item_ex zi).elim
              | ok d5 S5 =>
                dsimp only [Res.bind] at h4
                rw [zi] at h4
                dsimp only at h4
                obtain ⟨ρ6, s6, t6, r6⟩ := item_ok s5 rr5 zi
                have hD6 := s6.pr Dl _ upd_same
                refine ⟨av, hD6.1, by rw [← ra.len]; omega, ?_⟩
                have s6' := s6.less hp2
                have tkD : TK ρ6 H5 ρ6 (upd H5 Dl (.lst (av ++ [y]))) := tk_updl hD6.1
                have tkA : TK ρ4 H4 ρ6 H5 := t5.trans t6
                refine ⟨ρ6, S5, acc ++ [d5], av ++ [y], s6'.updO hD6.1 hD6.2 pD, (((t2.trans tk3).trans t4).trans tkA).trans tkD, upd_same, hD6.2, (ra.mono (((tk3.trans t4).trans tkA).trans tkD)).append (.one (r6.mono tkD)), by rw [List.length_append]; simp; omega, ?_⟩
                rw [hr]
                have h5 := Aft.next (tkA.trans tkD) h4
                cases zr : compL ck mg mt me (wipeE es vs) r S5 with
                | bad => rw [zr] at h5; exact h5.elim
                | ex c p S6 => rw [zr] at h5; exact h5.elim
                | ok ds S6 =>
                  rw [zr] at h5
                  simpa [noEx, Res.bind] using h5
theorem se_lc {elt tg iter : Expr} {ifs : List Expr} {scope : Scope} {own : List (Str × Nat)} {ix : List Nat} {pos : Pos} {mi : MI} {mg : MG} {mt : MB} {me : ME} (hc : X.calm = true) (hN : X.N.Nodup) (hi : SIt G W (ES G) X tg iter mi) (ok : BlkOk X.N X.env.scope scope own) {g : TG} (hix : ∀ i ∈ ix, i ∈ own.map (·.2))
    (hg : ∀ (s : Shared) (H : Hp) (C : Addr) (cl : List (Str × Addr)) (fp : List Addr), PG (X.blk s H scope (compEnvC scope cl C X.env) fp) tg g) (okg : ∀ ρ H σ es es' x v (Q : St → Hp → Prop), Rep G ρ H x v → mg x es = some es' → (∀ σ', Stored G ix ρ H σ es σ' es' → Q σ' H) → g v σ H Q)
    (ht : ∀ (s : Shared) (H : Hp) (C : Addr) (cl : List (Str × Addr)) (fp : List Addr), STs G W0 (X.blk s H scope (compEnvC scope cl C X.env) fp) ifs mt)
    (he : ∀ (s : Shared) (H : Hp) (C : Addr) (cl : List (Str × Addr)) (fp : List Addr), SE G W0 (X.blk s H scope (compEnvC scope cl C X.env) fp) elt me) (hs : ∀ x, foldedSetIterable iter X.env x = pure x := by intro _; rfl) :
    SE G W X (.ListComp elt [⟨tg, iter, ifs, 0⟩] scope pos) (eComp mi mg mt me (own.map (·.2))) := by
  obtain ⟨k, wi, pi, oki⟩ := hi
  exact ⟨k, PE.of (pe_lc hc hN pi ok hg (fun s H C cl fp => (ht s H C cl fp).pts) (fun s H C cl fp => (he s H C cl fp).pe) hs) fun σ H Q h => comp_core oki okg hix h⟩
theorem sp_setLc {i : Nat} {y : Str} {py : Pos} {elt tg iter : Expr} {ifs : List Expr} {scope : Scope} {own : List (Str × Nat)} {ix : List Nat} {pos spos : Pos} {mi : MI} {mg : MG} {mt : MB} {me : ME} (hc : X.calm = true) (hN : X.N.Nodup) (hy : X.N[i]? = some y) (hyl : X.env.scope.names.lookup y = some .local)
    (hsw : swapsWith (.ListComp elt [⟨tg, iter, ifs, 0⟩] scope pos) (some (.Name y py)) spos.line X.env = pure true) (hi : SIt G W (ES G) X tg iter mi) (ok : BlkOk X.N X.env.scope scope own) {g : TG} (hix : ∀ i ∈ ix, i ∈ own.map (·.2))
    (hg : ∀ (s : Shared) (H : Hp) (C : Addr) (cl : List (Str × Addr)) (fp : List Addr), PG (X.blk s H scope (compEnvC scope cl C X.env) fp) tg g) (okg : ∀ ρ H σ es es' x v (Q : St → Hp → Prop), Rep G ρ H x v → mg x es = some es' → (∀ σ', Stored G ix ρ H σ es σ' es' → Q σ' H) → g v σ H Q)
    (ht : ∀ (s : Shared) (H : Hp) (C : Addr) (cl : List (Str × Addr)) (fp : List Addr), STs G W0 (X.blk s H scope (compEnvC scope cl C X.env) fp) ifs mt)
    (he : ∀ (s : Shared) (H : Hp) (C : Addr) (cl : List (Str × Addr)) (fp : List Addr), SE G W0 (X.blk s H scope (compEnvC scope cl C X.env) fp) elt me) (hs : ∀ x, foldedSetIterable iter X.env x = pure x := by intro _; rfl) :
    SP1 G W X (.Assign [.Name y py] (.ListComp elt [⟨tg, iter, ifs, 0⟩] scope pos) spos) (sSet i (eComp mi mg mt me (own.map (·.2)))) := by
  obtain ⟨k, wi, pi, oki⟩ := hi
  exact ⟨k, PS.of (ps_setLc hc hN hy hyl hsw pi ok hg (fun s H C cl fp => (ht s H C cl fp).pts) (fun s H C cl fp => (he s H C cl fp).pe) hs) fun D σ H h => comp_core oki okg hix (set_core h)⟩
end
end DM

namespace DM
open PySem PySem.Spec L2

def sAsg (g : MG) (m : ME) : MS := fun es S => bindS ((m es S).bind item) es fun x S1 => match g x es with
  | some es' => .nx es' S1
  | none => .bad
def sPar (i j : Nat) (ms : List ME) : MS := fun es S => bindS (eItems ms es S) es fun ds S1 => match ds with
  | [x, y] => .nx ((es.set i (.v x)).set j (.v y)) S1
  | _ => .bad
def sSetIx (k : Nat) (mi me : ME) : MS := fun es S => bindS ((me es S).bind item) es fun x S1 => match es[k]? with
  | some (.own ds) => bindS (mi es S1) es fun r S2 => (match r with
    | .d (.int n) => (match ixN ds.length n with
      | some j => .nx (es.set k (.own (ds.set j x))) S2
      | none => .bad)
    | _ => .bad)
  | some (.v (.loc l)) => bindS (mi es S1) es fun r S2 => (match r with
    | .d (.int n) => (match S2[l]? with
      | some (.lst ds) => (match ixN ds.length n with
        | some j => .nx es (S2.set l (.lst (ds.set j x)))
        | none => .bad)
      | _ => .bad)
    | _ => .bad)
  | _ => .bad
open Classical in
noncomputable def sApp (k : Nat) (me : ME) : MS := fun es S => match es[k]? with
  | some (.own ds) => bindS ((me es S).bind item) es fun x S1 => if ds.length < sizeLine then .nx (es.set k (.own (ds ++ [x]))) S1 else .bad
  | some (.v (.loc l)) => (match S[l]? with
    | some (.lst _) => bindS ((me es S).bind item) es fun x S1 => (match S1[l]? with
      | some (.lst ds) => if ds.length < sizeLine then .nx es (S1.set l (.lst (ds ++ [x]))) else .bad
      | _ => .bad)
    | _ => .bad)
  | _ => .bad
def lstOf (S : Store) : RV → Option (List D)
  | .l _ ds => some ds
  | .d (.loc n) => (match S[n]? with
    | some (.lst ds) => some ds
    | _ => none)
  | _ => none
open Classical in
noncomputable def sExt (k : Nat) (me : ME) : MS := fun es S => match es[k]? with
  | some (.own ds) => bindS (me es S) es fun r S1 => (match lstOf S1 r.weak with
    | some ys => if ds.length + ys.length ≤ sizeLine then .nx (es.set k (.own (ds ++ ys))) S1 else .bad
    | none => .bad)
  | some (.v (.loc l)) => (match S[l]? with
    | some (.lst _) => bindS (me es S) es fun r S1 => (match lstOf S1 r.weak, S1[l]? with
      | some ys, some (.lst ds) => if ds.length + ys.length ≤ sizeLine then .nx es (S1.set l (.lst (ds ++ ys))) else .bad
      | _, _ => .bad)
    | _ => .bad)
  | _ => .bad
theorem lst_at {G : GT} {P : Hp} {ρ : List Addr} {H : Hp} {S : Store} {r : RV} {v : V} {ds : List D} (s : VS G P ρ H S) (rr : RR G P ρ H r.weak v) (h : lstOf S r.weak = some ds) : ∃ a vs, v = .ref a ∧ H a = some (.lst vs) ∧ Reps G ρ H ds vs := by
  cases r with
  | l f xs =>
    obtain ⟨a, vs, rfl, e, rs⟩ := rr
    cases h
    exact ⟨a, vs, rfl, (s.pr _ _ e).1, rs⟩
  | d x =>
    cases x with
    | loc n =>
      have h' : (match S[n]? with
        | some (.lst ds) => some ds
        | _ => none) = some ds := h
      split at h'
      · rename_i e
        cases h'
        cases rr with
        | loc hn =>
          obtain ⟨vs, e1, rs⟩ := s.st _ _ _ hn e
          exact ⟨_, vs, rfl, e1, rs⟩
      · cases h'
    | _ => cases h

section
variable {G : GT} {W : WX} {X : Cx} {a b c e tg : Expr} {ma mb mi me : ME} {pos : Pos}
theorem st_item {P : Hp} {ρ : List Addr} {H : Hp} {S : Store} {σ : St} {es : Env} {D : Ends} {f : DM.D → Store → SR} {R : VK} (s : VS G P ρ H S) (q : SS G P ρ H σ es) (h : AftS G W P ρ H σ es (bindS ((ma es S).bind item) es f) D)
    (k : ∀ x S1 v ρ1 H1, VS G (plus P H σ es) ρ1 H1 S1 → SS G P ρ1 H1 σ es → TK ρ H ρ1 H1 → Rep G ρ1 H1 x v → AftS G W P ρ1 H1 σ es (f x S1) D → R v H1) : rdE G W ma σ H R := by
  have h' : AftS G W P ρ H σ es (bindS (ma es S) es fun r S1 => bindS (item r S1) es f) D := by
    cases e : ma es S with
    | ok r S1 => rw [e] at h; exact h
    | ex c p S1 => rw [e] at h; exact h
    | bad => rw [e] at h; exact h
  refine st_thenS s q h' fun r S1 v ρ1 H1 s1 q1 k1 rr h => ?_
  cases e : item r S1 with
  | bad => rw [e] at h; exact h.elim
  | ex c p S2 => exact (item_ex e).elim
  | ok d S2 =>
    rw [e] at h
    obtain ⟨ρ2, s2, k2, rd⟩ := item_ok s1 rr e
    exact k d S2 v ρ2 H1 s2 (q.next s2 (k1.trans k2)) (k1.trans k2) rd (AftS.next (TKS.of k2) h)
theorem st_then2 {P Pp : Hp} {ρ : List Addr} {H : Hp} {S : Store} {σ : St} {es : Env} {D : Ends} {f : RV → Store → SR} {R : VK} (s : VS G Pp ρ H S) (eS : ES G Pp ρ H σ es) (nx : ∀ ρ' H' S', VS G Pp ρ' H' S' → TK ρ H ρ' H' → SS G P ρ' H' σ es) (sub : ∀ a o, P a = some o → Pp a = some o) (h : AftS G W P ρ H σ es (bindS (ma es S) es f) D)
    (k : ∀ r S1 v ρ1 H1, VS G Pp ρ1 H1 S1 → SS G P ρ1 H1 σ es → TK ρ H ρ1 H1 → RR G Pp ρ1 H1 r v → AftS G W P ρ1 H1 σ es (f r S1) D → R v H1) : rdE G W ma σ H R := by
  refine ⟨Pp, ρ, es, S, s, eS, ?_⟩
  cases e : ma es S with
  | ok r S1 =>
    rw [e] at h
    exact fun v ρ1 H1 s1 k1 rr => k r S1 v ρ1 H1 s1 (nx ρ1 H1 S1 s1 k1) k1 rr (AftS.next (TKS.of k1) h)
  | ex c p S1 =>
    rw [e] at h
    exact fun cls d ρ1 H1 s1 k1 rx => h cls d σ ρ1 H1 (s1.less sub) (nx ρ1 H1 S1 s1 k1) (TKS.of k1) rx
  | bad => rw [e] at h; exact h.elim
theorem sp_asg {ix : List Nat} {g : TG} {mg : MG} (ha : SE G W X a ma) (hg : PG X tg g) (og : OG G ix g mg) (hs : swapsWithSole [tg] a pos.line X.env = pure false := by rfl) (hw : swappedStores [tg] a X.env = pure none := by rfl)
    (h1 : (assignEach [tg] X.env).map (·.2) = [assign tg X.env] := by rfl) : SP1 G W X (.Assign [tg] a pos) (sAsg mg ma) := by
  refine ⟨ha.k, PS.of (ps_asg ha.pe hg hs hw h1) fun D σ H h => ?_⟩
  obtain ⟨P, ρ, es, S, s, q, h⟩ := h
  refine st_item s q h fun x S1 v ρ1 H1 s1 q1 k1 rv h => ?_
  cases z : mg x es with
  | none => rw [z] at h; exact h.elim
  | some es' =>
    rw [z] at h
    exact og ρ1 H1 σ es es' x v _ rv z fun σ' st => h σ' ρ1 H1 (s1.less q.sub) (st.ss P q1) st.tk
theorem sp_par {i j : Nat} {x y : Str} {px py pt : Pos} {kt k2 pt2} {ms : List ME} (hc : X.calm = true) (hN : X.N.Nodup) (hi : X.N[i]? = some x) (hj : X.N[j]? = some y) (hij : i ≠ j)
    (hx : X.env.scope.names.lookup x = some .local) (hy : X.env.scope.names.lookup y = some .local) (ha : SI G W X [a, b] ms)
    (hw : swappedStores [.Tuple [.Name x px, .Name y py] kt pt] (.Tuple [a, b] k2 pt2) X.env = pure (some [x, y]))
    (hs : swapsWithSole [.Tuple [.Name x px, .Name y py] kt pt] (.Tuple [a, b] k2 pt2) pos.line X.env = pure false := by rfl) :
    SP1 G W X (.Assign [.Tuple [.Name x px, .Name y py] kt pt] (.Tuple [a, b] k2 pt2) pos) (sPar i j ms) := by
  refine ⟨ha.k, PS.of (ps_par hc hN hi hj hij hx hy ha.pa hw hs) fun D σ H h => ?_⟩
  obtain ⟨P, ρ, es, S, s, q, h⟩ := h
  refine ⟨_, ρ, es, S, q.vs s, q.toES, ?_⟩
  unfold sPar at h
  cases z : eItems ms es S with
  | bad => rw [z] at h; exact h
  | ex c p S1 => rw [z] at h; exact fun cls d ρ1 H1 s1 k1 rx => h cls d σ ρ1 H1 (s1.less q.sub) (q.next s1 k1) (TKS.of k1) rx
  | ok ds S1 =>
    rw [z] at h
    intro vs ρ1 H1 s1 k1 rs
    have q1 := q.next s1 k1
    cases rs with
    | nil => exact h.elim
    | cons r1 rs =>
      cases rs with
      | nil => exact h.elim
      | cons r2 rs =>
        cases rs with
        | cons r3 rs => exact h.elim
        | nil => exact ⟨_, _, rfl, h _ ρ1 H1 (s1.less q.sub) ((q1.setV r1).setV r2) (((TKS.of k1).trans (tks_set (fun _ z => by cases z))).trans (tks_set (fun _ z => by cases z)))⟩

theorem tks_own {ρ : List Addr} {H H' : Hp} {σ : St} {es : Env} {k : Nat} {ds : List D} (tk : TK ρ H ρ H') : TKS ρ H σ es ρ H' σ (es.set k (.own ds)) :=
  ⟨tk, fun j es2 h => by
    rcases get_set h with ⟨rfl, hl, z⟩ | ⟨hn, h⟩
    · cases z
    · exact ⟨h, rfl⟩⟩
theorem setix_core {k : Nat} {D : Ends} {σ : St} {H : Hp} (h : rdS G W (sSetIx k mi me) D σ H) : tAsg (rdE G W me) (gSub (tVar k) (rdE G W mi) rSetL) D σ H := by
  obtain ⟨P, ρ, es, S, s, q, h⟩ := h
  refine st_item s q h fun x S1 v ρ1 H1 s1 q1 k1 rv h => ?_
  have nx : ∀ ρ' H' S', VS G (plus P H σ es) ρ' H' S' → TK ρ1 H1 ρ' H' → SS G P ρ' H' σ es := fun ρ' H' S' s' k' => q.next s' (k1.trans k')
  split at h
  · rename_i ds ek
    obtain ⟨a, vs, e1, e2, e3, e4, e5⟩ := q.own k ds ek
    refine ⟨.ref a, e1, ?_⟩
    refine st_then2 s1 (q.toES.next k1) nx q.sub h fun r S2 w ρ3 H3 s3 q3 k3 rr h => ?_
    cases r with
    | l f xs => exact h.elim
    | d y =>
      cases y with
      | int n =>
        cases rr
        obtain ⟨b, us, y1, y2, y3, y4, y5⟩ := q3.own k ds ek
        rw [e1] at y1
        cases y1
        have h' : AftS G W P ρ3 H3 σ es (match ixN ds.length n with
          | some j => .nx (es.set k (.own (ds.set j x))) S2
          | none => .bad) D := h
        cases ei : ixN ds.length n with
        | none => rw [ei] at h'; exact h'.elim
        | some j =>
          rw [ei] at h'
          have tk : TK ρ3 H3 ρ3 (upd H3 a (.lst (us.set j v))) := tk_updl y2
          exact ⟨a, us, n, j, rfl, rfl, y2, by rw [← y3.len]; exact ei, h' σ ρ3 _ ((s3.less q.sub).updO y2 y4 y5) (q3.updO ek e1 y2 (y3.set (rv.mono k3) j)) (tks_own tk)⟩
      | _ => exact h.elim
  · rename_i l ek
    obtain ⟨w0, e1, e2⟩ := q.val k _ ek
    cases e2 with
    | loc hn =>
      rename_i a
      refine ⟨.ref a, e1, ?_⟩
      refine st_then2 s1 (q.toES.next k1) nx q.sub h fun r S2 w ρ3 H3 s3 q3 k3 rr h => ?_
      cases r with
      | l f xs => exact h.elim
      | d y =>
        cases y with
        | int n =>
          cases rr
          have hn3 : ρ3[l]? = some a := k3.at_ (k1.at_ hn)
          have h' : AftS G W P ρ3 H3 σ es (match S2[l]? with
            | some (.lst ds) => (match ixN ds.length n with
              | some j => .nx es (S2.set l (.lst (ds.set j x)))
              | none => .bad)
            | _ => .bad) D := h
          split at h'
          · rename_i ds es2
            obtain ⟨us, y2, y3⟩ := s3.st l a _ hn3 es2
            cases ei : ixN ds.length n with
            | none => rw [ei] at h'; exact h'.elim
            | some j =>
              rw [ei] at h'
              have tk : TK ρ3 H3 ρ3 (upd H3 a (.lst (us.set j v))) := tk_updl y2
              exact ⟨a, us, n, j, rfl, rfl, y2, by rw [← y3.len]; exact ei, h' σ ρ3 _ ((s3.less q.sub).updS hn3 y2 ((y3.set (rv.mono k3) j).mono tk)) (q3.updS (List.mem_of_getElem? hn3) y2) (TKS.of tk)⟩
          · exact h'.elim
        | _ => exact h.elim
  · exact h.elim
theorem sp_setix {k : Nat} {x : Str} {p2 p3 : Pos} (hk : X.K = G.K) (hN : X.N[k]? = some x) (hv : Vis X.env.scope x) (hi : SE G W X b mi) (he : SE G W X e me) (hd : (x == ("__debug__" : Str)) = false := by decide) (hcd : (x == ("__classdict__" : Str)) = false := by decide)
    (hs : swapsWithSole [.Subscript (.Name x p2) b p3] e pos.line X.env = pure false := by rfl) (hw : swappedStores [.Subscript (.Name x p2) b p3] e X.env = pure none := by rfl)
    (h1 : (assignEach [.Subscript (.Name x p2) b p3] X.env).map (·.2) = [assign (.Subscript (.Name x p2) b p3) X.env] := by rfl)
    (ha : ∀ v, assign (.Subscript (.Name x p2) b p3) X.env v = (do
      let ov ← holding [v] (eval (.Name x p2) X.env)
      let iv ← holding [v, ov] (eval b X.env)
      standAt p3
      holding [v, ov, iv] (setItem ov iv v)
      release [v, ov, iv] []) := by intro _; rfl) : SP1 G W X (.Assign [.Subscript (.Name x p2) b p3] e pos) (sSetIx k mi me) :=
  ⟨hk, PS.of (ps_asg he.pe (pg_sub (pe_var hN hv hd hcd) hi.pe set_list ha) hs hw h1) fun D σ H h => setix_core h⟩

theorem app_core {k : Nat} {D : Ends} {σ : St} {H : Hp} (h : rdS G W (sApp k me) D σ H) : tDrop (tBM G.K "list" rAppend (tVar k) (tCons (rdE G W me) tNil)) D σ H := by
  obtain ⟨P, ρ, es, S, s, q, h⟩ := h
  unfold sApp at h
  split at h
  · rename_i ds ek
    obtain ⟨a, vs, e1, e2, e3, e4, e5⟩ := q.own k ds ek
    refine ⟨.ref a, e1, .inl ⟨rfl, vs, SqL.of e2⟩, ?_⟩
    refine st_item s q h fun x S1 v ρ1 H1 s1 q1 k1 rv h => ?_
    obtain ⟨b, us, y1, y2, y3, y4, y5⟩ := q1.own k ds ek
    rw [e1] at y1
    cases y1
    split at h
    · rename_i hz
      have tk : TK ρ1 H1 ρ1 (upd H1 a (.lst (us ++ [v]))) := tk_updl y2
      exact ⟨a, us, v, rfl, rfl, y2, by rw [← y3.len]; exact hz, h σ ρ1 _ ((s1.less q.sub).updO y2 y4 y5) (q1.updO ek e1 y2 (y3.append (.one rv))) (tks_own tk)⟩
    · exact h.elim
  · rename_i l ek
    split at h
    · rename_i ds0 es0
      obtain ⟨w0, e1, e2⟩ := q.val k _ ek
      cases e2 with
      | loc hn =>
        rename_i a
        obtain ⟨us0, z2, _⟩ := s.st l a _ hn es0
        refine ⟨.ref a, e1, .inl ⟨rfl, us0, SqL.of z2⟩, ?_⟩
        refine st_item s q h fun x S1 v ρ1 H1 s1 q1 k1 rv h => ?_
        have hn1 : ρ1[l]? = some a := k1.at_ hn
        split at h
        · rename_i ds es1
          obtain ⟨us, y2, y3⟩ := s1.st l a _ hn1 es1
          split at h
          · rename_i hz
            have tk : TK ρ1 H1 ρ1 (upd H1 a (.lst (us ++ [v]))) := tk_updl y2
            exact ⟨a, us, v, rfl, rfl, y2, by rw [← y3.len]; exact hz, h σ ρ1 _ ((s1.less q.sub).updS hn1 y2 ((y3.append (.one rv)).mono tk)) (q1.updS (List.mem_of_getElem? hn1) y2) (TKS.of tk)⟩
          · exact h.elim
        · exact h.elim
    · exact h.elim
  · exact h.elim
theorem sp_app {k : Nat} {x : Str} {p2 apos cpos : Pos} (hk : X.K = G.K) (hN : X.N[k]? = some x) (hv : Vis X.env.scope x) (he : SE G W X e me) (hd : (x == ("__debug__" : Str)) = false := by decide) (hcd : (x == ("__classdict__" : Str)) = false := by decide)
    (hbase : attributeBase (.Name x p2) "append" X.env (eval (.Name x p2) X.env) = eval (.Name x p2) X.env := by rfl)
    (hfew : ((backTo cpos (starEach (e :: []) X.env)).all (fun x => !x.1) && (backToKw cpos (keywordEach [] X.env)).all (fun x => x.1.isSome)
      && decide ((e :: ([] : List Expr)).length + ([] : List Keyword).length + (if ([] : List Keyword).isEmpty then 0 else 1) < 30)) = true := by rfl)
    (hline : (apos.endLine == cpos.line) = true := by rfl) (hs : starEach (e :: []) X.env = (false, eval e X.env) :: starEach [] X.env := by rfl) (hplain : (backTo cpos (starEach [] X.env)).any (·.1) = false := by rfl)
    (hsw : swapsWith (.Call (.Attribute (.Name x p2) "append" apos) [e] [] cpos) none pos.line X.env = pure false := by rfl) :
    SP1 G W X (.Expr (.Call (.Attribute (.Name x p2) "append" apos) [e] [] cpos) pos) (sApp k me) := by
  refine ⟨hk, PS.of (ps_expr (pe_bm PySem.F.plainAttrs_list PySem.F.slot_list_append PySem.F.type_list_append mt_append (pe_var hN hv hd hcd) (pa_cons he.pe pa_nil hs) hbase hfew hline hs hplain) hsw) fun D σ H h => ?_⟩
  rw [hk]
  exact app_core h

end

abbrev MF := List RV → Store → Res RV
def slotOf : RV → Slot
  | .d x => .v x
  | .l true _ => .no
  | .l false ds => .bor ds
def startE (n : Nat) (rs : List RV) : Env := rs.map slotOf ++ List.replicate (n - rs.length) .no
def ofSR (r : SR) : Res RV := match r with
  | .nx _ S => .ok (.d .non) S
  | .rt (.l false _) _ => .bad
  | .rt r S => .ok r S
  | .ex c p _ S => .ex c p S
  | _ => .bad
def mFun (n m : Nat) (b : MS) : MF := fun rs S => if rs.length = n then ofSR (b (startE m rs) S) else .bad
def spM (G : GT) (n : Nat) (m : MF) : Sp := fun vs H Q E => vs.length = n ∧ ∃ P ρ rs S, VS G P ρ H S ∧ RRs G P ρ H rs vs ∧ Aft G E P ρ H (m rs S) Q
theorem RRs.len {G : GT} {P : Hp} {ρ : List Addr} {H : Hp} {rs : List RV} {vs : List V} (h : RRs G P ρ H rs vs) : rs.length = vs.length := by
  induction rs generalizing vs with
  | nil => cases h; rfl
  | cons r rs ih => cases h with | cons h t => simp [ih t]
theorem RRs.get {G : GT} {P : Hp} {ρ : List Addr} {H : Hp} {rs : List RV} {vs : List V} (h : RRs G P ρ H rs vs) : ∀ (i : Nat) r, rs[i]? = some r → ∃ v, vs[i]? = some v ∧ RR G P ρ H r v := by
  induction rs generalizing vs with
  | nil => intro i r e; simp at e
  | cons r0 rs ih =>
    cases h with
    | cons h t =>
      intro i r e
      cases i with
      | zero => simp at e; subst e; exact ⟨_, rfl, h⟩
      | succ i => simpa using ih t i r (by simpa using e)
theorem start_ok {G : GT} {P : Hp} {ρ : List Addr} {H : Hp} {rs : List RV} {vs : List V} {N : List Str} (h : RRs G P ρ H rs vs) : SS G P ρ H (L2.start N vs) (startE N.length rs) := by
  have hl := h.len
  have gt : ∀ (i : Nat) sl, (startE N.length rs)[i]? = some sl → sl ≠ .no → ∃ r, rs[i]? = some r ∧ slotOf r = sl := fun i sl e hn => by
    unfold startE at e
    rw [List.getElem?_append] at e
    split at e
    · rw [List.getElem?_map] at e
      cases z : rs[i]? with
      | none => rw [z] at e; cases e
      | some r => rw [z] at e; exact ⟨r, rfl, Option.some.inj e⟩
    · rw [List.getElem?_replicate] at e
      split at e
      · exact absurd (Option.some.inj e).symm hn
      · cases e
  have sg : ∀ (i : Nat) v, vs[i]? = some v → (L2.start N vs)[i]? = some (some v) := fun i v e => by
    unfold L2.start
    rw [List.getElem?_append_left (by rw [List.length_map]; exact (List.getElem?_eq_some_iff.mp e).1), List.getElem?_map, e]
    rfl
  refine ⟨?_, fun i d e => ?_, fun i ds e => ?_, fun i ds e => ?_, fun i j ds es' a e1 => ?_⟩
  · unfold L2.start startE
    simp [hl]
  · obtain ⟨r, h1, h2⟩ := gt i _ e (fun z => by cases z)
    obtain ⟨v, h3, h4⟩ := h.get i r h1
    cases r with
    | d x => cases h2; exact ⟨v, sg i v h3, h4⟩
    | l f ds => cases f <;> cases h2
  · obtain ⟨r, h1, h2⟩ := gt i _ e (fun z => by cases z)
    obtain ⟨v, h3, h4⟩ := h.get i r h1
    cases r with
    | d x => cases h2
    | l f ds =>
      cases f with
      | true => cases h2
      | false =>
        cases h2
        obtain ⟨a, us, rfl, y1, y2⟩ := h4
        exact ⟨a, us, sg i _ h3, y1, y2⟩
  · obtain ⟨r, h1, h2⟩ := gt i _ e (fun z => by cases z)
    cases r with
    | d x => cases h2
    | l f ds => cases f <;> cases h2
  · obtain ⟨r, h1, h2⟩ := gt i _ e1 (fun z => by cases z)
    cases r with
    | d x => cases h2
    | l f ds => cases f <;> cases h2
section
variable {P : Program} {w : World} {K : PySem.W.Frag} {mg : Str → Option Value} {base : Heap} {G : GT}
theorem fn_ok {x qual : Str} {st : Stmt} {f : Addr} {fd : FuncData} {N ps : List Str} {k : Nat} {mb : MS} (F : Fun K x qual st f fd) (S : FnScope N ps (defScope st))
    (hb : ∀ (cdv : Value) (A : Around) (outer : List PySem.Env) (s : Shared) (H : Hp) (E : XK), Room k (A.deeper (PyProof.Rows.envOfC qual (defScope st) s.heap.objs.size f cdv)) →
      Takes (cxOf (L2.CX P w) P w K mg base N qual (defScope st) f cdv A outer s H E) (fun cls d _ H => E cls d H) →
      PassesOwn (model P w) (cxOf (L2.CX P w) P w K mg base N qual (defScope st) f cdv A outer s H E).A (cxOf (L2.CX P w) P w K mg base N qual (defScope st) f cdv A outer s H E).env (cxOf (L2.CX P w) P w K mg base N qual (defScope st) f cdv A outer s H E).xe →
      SPs G (fun cls d _ H => E cls d H) (cxOf (L2.CX P w) P w K mg base N qual (defScope st) f cdv A outer s H E) (defBody st) mb) : FnOk P w K mg base (L2.CX P w) (k + 1) f fd ps (spM G ps.length (mFun ps.length N.length mb)) := by
  refine F.okX S (fun vs H Q E h => h.1) fun cdv A outer s H vs Q E hr h => ?_
  have B := hb cdv A outer s H E hr (takes_of rfl rfl rfl rfl) (passes_of rfl)
  refine ⟨_, B.pss, ?_⟩
  obtain ⟨hl, Pp, ρ, rs, S0, vs0, rrs, a⟩ := h
  refine ⟨Pp, ρ, _, S0, vs0, start_ok rrs, ?_⟩
  unfold mFun at a
  rw [if_pos (by rw [rrs.len]; exact hl)] at a
  cases z : mb (startE N.length rs) S0 with
  | nx es' S' => rw [z] at a; exact fun σ' ρ' H' s' q' t => a .non ρ' H' s' t.tk .non
  | rt r S' =>
    rw [z] at a
    cases r with
    | d x => exact ⟨(fun _ z => by cases z), fun v ρ' H' s' t rr => a v ρ' H' s' t rr⟩
    | l f ds =>
      cases f with
      | false => exact a.elim
      | true => exact ⟨(fun _ z => by cases z), fun v ρ' H' s' t rr => a v ρ' H' s' t rr⟩
  | ex c p es' S' => rw [z] at a; exact fun cls d σ' ρ' H' s' q' t rx => a cls d ρ' H' s' t.tk rx
  | bk es' S' => rw [z] at a; exact a.elim
  | ct es' S' => rw [z] at a; exact a.elim
  | bad => rw [z] at a; exact a.elim
end

def okR (r : Res RV) : Res RV := match r with
  | .ok (.l false _) _ => .bad
  | r => r
def eCall (m : MF) (ms : List ME) : ME := fun es S => (eArgs ms es S).bind fun rs S1 => okR (m rs S1)
theorem okR_rv {r : Res RV} : ∀ rv S', okR r = .ok rv S' → ∀ ds, rv ≠ .l false ds := by
  intro rv S' e ds z
  subst z
  unfold okR at e
  split at e
  · cases e
  · rename_i h; exact h _ _ e
section
variable {G : GT} {W : WX} {X : Cx} {e : Expr} {as : List Expr} {ms : List ME} {m : MF} {p pos : Pos} {k n : Nat} {f : Addr} {fd : FuncData} {ps : List Str} {x : Str}
theorem call_core {σ : St} {H : Hp} {Q : VK} (h : rdE G W (eCall m ms) σ H Q) (hn : ms.length = n) : (fun σ H Q => ∃ P ρ es S, VS G P ρ H S ∧ ES G P ρ H σ es ∧ (match eArgs ms es S with
    | .ok rs S' => ∀ vs P' ρ' H', (∀ a o, P a = some o → P' a = some o) → VS G P' ρ' H' S' → TK ρ H ρ' H' → RRs G P' ρ' H' rs vs → Q vs H'
    | .ex c p S' => ∀ cls d ρ' H', VS G P ρ' H' S' → TK ρ H ρ' H' → RX G ρ' H' c p cls d → W cls d σ H'
    | .bad => False) : TA) σ H (fun vs H1 => spM G n m vs H1 Q (WE W σ)) := by
  obtain ⟨P, ρ, es, S, s, q, h⟩ := h
  refine ⟨P, ρ, es, S, s, q, ?_⟩
  unfold eCall at h
  have al : ∀ (ms : List ME) (S : Store) (rs : List RV) (S1 : Store), eArgs ms es S = .ok rs S1 → rs.length = ms.length := by
    intro ms
    induction ms with
    | nil => intro S rs S1 e; cases e; rfl
    | cons m ms ih =>
      intro S rs S1 e
      unfold eArgs at e
      cases z : m es S with
      | bad => rw [z] at e; cases e
      | ex c p S2 => rw [z] at e; cases e
      | ok r S2 =>
        rw [z] at e
        dsimp only [Res.bind] at e
        cases z2 : eArgs ms es S2 with
        | bad => rw [z2] at e; cases e
        | ex c p S2 => rw [z2] at e; cases e
        | ok rs2 S3 =>
          rw [z2] at e
          cases e
          simp [ih S2 rs2 _ z2]
  cases z : eArgs ms es S with
  | bad => rw [z] at h; exact h
  | ex c p S1 => rw [z] at h; exact h
  | ok rs S1 =>
    rw [z] at h
    intro vs P' ρ' H' hp s' t rrs
    refine ⟨by rw [← rrs.len, al ms S rs S1 z]; exact hn, P', ρ', rs, S1, s', rrs, ?_⟩
    have h1 : Aft G (fun cls d H' => W cls d σ H') P ρ' H' (okR (m rs S1)) Q := Aft.next t h
    have h2 := Aft.more hp okR_rv h1
    cases y : m rs S1 with
    | bad => rw [y] at h2; exact h2
    | ex c p S2 => rw [y] at h2; exact h2
    | ok r S2 =>
      rw [y] at h2
      cases r with
      | d x => exact h2
      | l f ds =>
        cases f with
        | true => exact h2
        | false => exact h2.elim
theorem se_call (tk : Takes X W) (F : FnOk X.prog X.w X.K X.mg X.base (L2.CX X.prog X.w) k f fd ps (spM G n m)) (hr : Room k X.A) (hg : Gl X x) (hm : X.mg x = some (.ref f)) (hk : PySem.W.keepIn X.K (.ref f) = true) (hb : Binds X.K fd ps [])
    (ha : SA G W X (e :: as) ms) (hn : ms.length = n := by rfl) (hdb : (x == ("__debug__" : Str)) = false := by decide) (he : starEach (e :: as) X.env = (false, eval e X.env) :: starEach as X.env := by rfl) (hpl : (backTo pos (starEach as X.env)).any (·.1) = false := by rfl) :
    SE G W X (.Call (.Name x p) (e :: as) [] pos) (eCall m ms) :=
  ⟨ha.k, PE.of (pe_callS F hr hg hm hk hb (fun σ => passAt tk σ) ha.pa hdb he hpl) fun σ H Q h => call_core h hn⟩
end
end DM

namespace DM
open PySem PySem.Spec L2

abbrev F2 := Store → RV → RV → Option OV
abbrev F1 := Store → RV → Option OV
abbrev FN := Store → List RV → Option OV
section
variable {G : GT} {P : Hp} {ρ : List Addr} {H : Hp} {S : Store} {Q : VK}
theorem op_d {x : D} {v : V} (h : ∀ v H', OP G ρ H (.d x) v H' → Q v H') (r : Rep G ρ H x v) : Q v H := h v H ⟨fun _ _ e => e, r⟩
theorem op_tup {xs : List D} {vs : List V} (h : ∀ v H', OP G ρ H (.d (.tup xs)) v H' → Q v H') (r : Reps G ρ H xs vs) : ∀ p o, H p = none → Obj.dict o = none → Q (.ref p) (upd H p (.frz o (.tup vs))) := fun p o hp ho => by
  have g : ∀ b u, H b = some u → upd H p (.frz o (.tup vs)) b = some u := fun b u z => by rw [upd_ne (ne_of_none z hp)]; exact z
  exact h _ _ ⟨g, .tup (KT.new ho) (r.mono (TK.same g))⟩
theorem op_lst {xs : List D} {vs : List V} (h : ∀ v H', OP G ρ H (.l xs) v H' → Q v H') (r : Reps G ρ H xs vs) : ∀ p, H p = none → Q (.ref p) (upd H p (.lst vs)) := fun p hp => by
  have g : ∀ a o, H a = some o → upd H p (.lst vs) a = some o := fun a o z => by rw [upd_ne (ne_of_none z hp)]; exact z
  exact h _ _ ⟨g, p, vs, rfl, hp, upd_same, r.mono (TK.same g)⟩
theorem lst_of {r : RV} {v : V} {ds : List D} (s : VS G P ρ H S) (rr : RR G P ρ H r v) (h : lstOf S r = some ds) : ∃ a vs, v = .ref a ∧ H a = some (.lst vs) ∧ Reps G ρ H ds vs := by
  cases r with
  | l f xs =>
    cases f with
    | true => obtain ⟨a, vs, rfl, e, rs, _⟩ := rr; cases h; exact ⟨a, vs, rfl, e, rs⟩
    | false => exact lst_at (r := .l false xs) s rr h
  | d x => exact lst_at (r := .d x) s rr h
end
def iiF (f : Int → Int → D) : F2 := fun _ a b => match a, b with
  | .d (.int i), .d (.int j) => some (.d (f i j))
  | _, _ => none
open Classical in
noncomputable def iicF (C : Int → Int → Prop) (f : Int → Int → D) : F2 := fun _ a b => match a, b with
  | .d (.int i), .d (.int j) => if C i j then some (.d (f i j)) else none
  | _, _ => none
theorem so_ii {G : GT} {f : Int → Int → D} {g : Int → Int → V} (h : ∀ ρ H i j, Rep G ρ H (f i j) (g i j)) : SO2 G (rI0 g) (iiF f) := by
  intro P ρ H S r1 r2 x y Q ov s h1 h2 e k
  unfold iiF at e
  split at e
  · cases e
    cases h1
    cases h2
    exact ⟨_, _, rfl, rfl, op_d k (h _ _ _ _)⟩
  · cases e
theorem so_iic {G : GT} {C : Int → Int → Prop} {f : Int → Int → D} {g : Int → Int → V} (h : ∀ ρ H i j, Rep G ρ H (f i j) (g i j)) : SO2 G (rI C g) (iicF C f) := by
  intro P ρ H S r1 r2 x y Q ov s h1 h2 e k
  unfold iicF at e
  split at e
  · split at e
    · rename_i hc
      cases e
      cases h1
      cases h2
      exact ⟨_, _, rfl, rfl, hc, op_d k (h _ _ _ _)⟩
    · cases e
  · cases e
def subF : F2 := iiF fun i j => .int (i - j)
noncomputable def fdivF : F2 := iicF CDivW fun i j => .int (i / j)
noncomputable def modF : F2 := iicF (fun _ j => 0 < j) fun i j => .int (i % j)
noncomputable def powF : F2 := iicF CPow fun i j => .int (i ^ j.toNat)
noncomputable def shlF : F2 := iicF CPow fun i j => .int (i * 2 ^ j.toNat)
noncomputable def shrF : F2 := iicF (fun _ j => 0 ≤ j) fun i j => .int (i / 2 ^ j.toNat)
def andF : F2 := iiF fun i j => .int (Builtin.bitAnd i j)
def orF : F2 := iiF fun i j => .int (Builtin.bitOr i j)
def xorF : F2 := iiF fun i j => .int (Builtin.bitXor i j)
def ltF : F2 := iiF fun i j => .bl (decide (i < j))
def leF : F2 := iiF fun i j => .bl (decide (i ≤ j))
def gtF : F2 := iiF fun i j => .bl (decide (j < i))
def geF : F2 := iiF fun i j => .bl (decide (j ≤ i))
def negF : F1 := fun _ a => match a with
  | .d (.int i) => some (.d (.int (-i)))
  | _ => none
open Classical in
noncomputable def addF : F2 := fun S a b => match a, b with
  | .d (.int i), .d (.int j) => some (.d (.int (i + j)))
  | .d (.str i), .d (.str j) => if i.length + j.length ≤ sizeLine then some (.d (.str (i ++ j))) else none
  | .d (.tup xs), .d (.tup ys) => if xs.length + ys.length ≤ sizeLine then some (.d (.tup (xs ++ ys))) else none
  | a, b => match lstOf S a, lstOf S b with
    | some xs, some ys => if xs.length + ys.length ≤ sizeLine then some (.l (xs ++ ys)) else none
    | _, _ => none
def rCatK (K : PySem.W.Frag) : R2 := fun x y H Q => ∃ a b xs ys, x = .ref a ∧ y = .ref b ∧ SqT K H a xs ∧ SqT K H b ys ∧ xs.length + ys.length ≤ sizeLine ∧
  (xs = [] → Q (.ref b) H) ∧ (xs ≠ [] → ys = [] → Q (.ref a) H) ∧ (xs ≠ [] → ys ≠ [] → ∀ p o, H p = none → Obj.dict o = none → Q (.ref p) (upd H p (.frz o (.tup (xs ++ ys)))))
theorem op_catK {X : Cx} : OpR X (binaryOp .Add) (rCatK X.K) := by
  rintro pins s σ H x y v u Q I rx ry ⟨a, b, xs, ys, rfl, rfl, ha, hb, hz, q0, q1, q2⟩
  cases rx
  cases ry
  obtain ⟨us, r1, p1, _⟩ := I.tuple ha
  obtain ⟨ws, r2, p2, _⟩ := I.tuple hb
  by_cases hx : xs = []
  · subst hx
    cases r1
    exact cat_tup0 p1 p2 ⟨.ref b, H, I, rfl, q0 rfl⟩
  · refine HT.cat_tup p1 p2 (mt r1.nil_iff.mp hx) (fun z => ⟨.ref a, H, I, rfl, q1 hx (r2.nil_iff.mp z)⟩) (fun z => ?_) (by rw [← r1.length, ← r2.length]; exact hz)
    exact ⟨.ref _, _, laidK (tk := s.toks) I (by rw [List.length_append]; exact hz) (r1.append r2), rfl, q2 hx (mt r2.nil_iff.mpr z) _ _ (I.hok.fresh (Nat.le_refl _)) rfl⟩
def rAddA (K : PySem.W.Frag) : R2 := fun x y H Q => ((rI0 fun i j => .int (i + j)) x y H Q ∨ (fun x y H Q => ∃ i j, x = .str i ∧ y = .str j ∧ i.length + j.length ≤ sizeLine ∧ Q (.str (i ++ j)) H : R2) x y H Q) ∨ (rCatK K x y H Q ∨ rCat x y H Q)
theorem op_addA {X : Cx} : OpR X (binaryOp .Add) (rAddA X.K) := OpR.or (OpR.or op_add op_add_str) (OpR.or op_catK op_cat)
theorem rep_tup {G : GT} {ρ : List Addr} {H : Hp} {xs : List D} {v : V} (h : Rep G ρ H (.tup xs) v) : ∃ a vs, v = .ref a ∧ KT H a vs ∧ Reps G ρ H xs vs := by
  cases h with
  | tup e r => exact ⟨_, _, rfl, e, r⟩
theorem reps_nil {G : GT} {ρ : List Addr} {H : Hp} {xs : List D} {vs : List V} (r : Reps G ρ H xs vs) : vs = [] ↔ xs = [] := by
  have := r.len
  cases xs <;> cases vs <;> simp_all
theorem so_add {G : GT} : SO2 G (rAddA G.K) addF := by
  intro P ρ H S r1 r2 x y Q ov s h1 h2 e k
  unfold addF at e
  split at e
  · cases e
    cases h1
    cases h2
    exact .inl (.inl ⟨_, _, rfl, rfl, op_d k (.int _)⟩)
  · split at e
    · rename_i hz
      cases e
      cases h1
      cases h2
      exact .inl (.inr ⟨_, _, rfl, rfl, hz, op_d k (.str _)⟩)
    · cases e
  · rename_i xs ys
    split at e
    · rename_i hz
      cases e
      obtain ⟨a, vs, rfl, e1, q1⟩ := rep_tup h1
      obtain ⟨b, ws, rfl, e2, q2⟩ := rep_tup h2
      refine .inr (.inl ⟨a, b, vs, ws, rfl, rfl, e1.sq, e2.sq, by rw [← q1.len, ← q2.len]; exact hz, fun z => ?_, fun z1 z2 => ?_, fun z1 z2 => op_tup k (q1.append q2)⟩)
      · have z' := (reps_nil q1).mp z
        subst z'
        exact op_d k (.tup e2 q2)
      · have z' := (reps_nil q2).mp z2
        subst z'
        exact op_d k (by rw [List.append_nil]; exact .tup e1 q1)
    · cases e
  · split at e
    · rename_i xs ys l1 l2
      split at e
      · rename_i hz
        cases e
        obtain ⟨a, vs, rfl, e1, q1⟩ := lst_of s h1 l1
        obtain ⟨b, ws, rfl, e2, q2⟩ := lst_of s h2 l2
        exact .inr (.inr ⟨a, b, vs, ws, rfl, rfl, e1, e2, by rw [← q1.len, ← q2.len]; exact hz, op_lst k (q1.append q2)⟩)
      · cases e
    · cases e
def repL {T : Type} (k : Nat) (xs : List T) : List T := (List.replicate k xs).flatten
open Classical in
noncomputable def mulF : F2 := fun S a b => match a, b with
  | .d (.int i), .d (.int j) => if CMul i j ∨ CMulW i j then some (.d (.int (i * j))) else none
  | .d (.tup xs), .d (.int j) => if xs ≠ [] ∧ 2 ≤ j ∧ j ≤ 1000 ∧ xs.length ≤ 1000 then some (.d (.tup (repL j.toNat xs))) else none
  | a, .d (.int j) => match lstOf S a with
    | some xs => if -(2 ^ 63) ≤ j ∧ j < 2 ^ 63 ∧ xs.length * j.toNat ≤ sizeLine then some (.l (repL j.toNat xs)) else none
    | none => none
  | _, _ => none
def rRepK (K : PySem.W.Frag) : R2 := fun x y H Q => ∃ l k xs, x = .ref l ∧ y = .int k ∧ SqT K H l xs ∧ xs ≠ [] ∧ 2 ≤ k ∧ k ≤ 1000 ∧ xs.length ≤ 1000 ∧ ∀ p o, H p = none → Obj.dict o = none → Q (.ref p) (upd H p (.frz o (.tup (List.replicate k.toNat xs).flatten)))
theorem op_repK {X : Cx} : OpR X (binaryOp .Mult) (rRepK X.K) := by
  rintro pins s σ H x y v u Q I rx ry ⟨l, k, xs, rfl, rfl, hT, hne, h1, h2, hz, q⟩
  cases rx
  obtain ⟨t, rfl⟩ := ry
  obtain ⟨us, r, ⟨⟨cls, dd, data, sl⟩, ho, hc, n, hd⟩, hs⟩ := I.tuple hT
  dsimp only at hc hd
  subst hc hd
  have len := r.length
  cases us with
  | nil => exact absurd (List.eq_nil_of_length_eq_zero len) hne
  | cons u0 us =>
  generalize hw : u0 :: us = ws at *
  have e0 : ws.toArray.isEmpty = false := by subst hw; rfl
  have e1 : (List.foldl (fun x1 x2 => x1 ++ x2) #[] (List.replicate k.toNat ws.toArray)) = (List.replicate k.toNat ws).flatten.toArray := size_rep ws k.toNat
  have big : k.toNat * xs.length ≤ 1000 * 1000 := Nat.mul_le_mul (by omega) hz
  have bigI : ((ws.toArray.size : Nat) : Int) * k ≤ 1000000 := by
    have z : ((ws.length * k.toNat : Nat) : Int) ≤ 1000000 := by rw [← len, Nat.mul_comm]; omega
    rw [List.size_toArray]
    rw [Int.natCast_mul, Int.toNat_of_nonneg (by omega)] at z
    exact z
  have fl : (List.replicate k.toNat ws).flatten.length ≤ sizeLine := by rw [PyProof.Rows.lm_len_rep_flat, ← len, sizeLine_eq]; omega
  have W := tuple_mulW l ws.toArray n dd sl k t (by rw [decide_eq_false (by omega), decide_eq_false (by omega)] <;> rfl) (by rw [e0, Bool.false_or]; exact beq_eq_false_iff_ne.mpr (by omega)) (by rw [e0, Bool.or_false]; exact decide_eq_false (by omega)) (by omega)
    (by unfold Builtin.Tuple.tupleTooMany; rw [sizeLine_eq]; exact decide_eq_false (by omega)) (by rw [e1, List.size_toArray]; exact fl)
  have I1 := laidK (tk := s.toks) (us := (List.replicate k.toNat ws).flatten) I (by rw [PyProof.Rows.lm_len_rep_flat, sizeLine_eq]; omega) (r.rep k.toNat)
  have ok := q _ { cls := .type "tuple", data := .seq (List.replicate k.toNat ws).flatten.toArray } (I.hok.fresh (Nat.le_refl _)) rfl
  have two := call_meets (prog := X.prog) (w := X.w) (A := X.A) (E := X.xe) (Q := EP X pins σ Q) PySem.F.slot_tuple_mul (s := s) (show s.TypeIs (.ref l) "tuple" from ⟨_, ho, rfl⟩) PySem.F.entry_tuple_mul (PySem.F.args_tuple_mul_2 _ _) W ⟨ho, by rw [e1]; exact ⟨.ref _, _, I1, rfl, ok⟩⟩
  refine wpAny_binaryOp_repeat_ref (T := "tuple") (U := "int") (by decide) ⟨_, ho, rfl⟩ (fun s' => typeIs_int s' k t) noFill_tuple_mul PySem.F.fills_int_mul PySem.F.slot_int_rmul repeat_tuple PySem.F.slot_int_index.lookup ?_
  exact call_meets PySem.F.slot_int_rmul (typeIs_int s k t) PySem.F.entry_int_rmul (PySem.F.args_int_rmul_2 _ _) (int_rmul_tuple k t l ws.toArray n dd sl) ⟨ho, rfl, ⟨_, ho, rfl⟩, two⟩
def rMulA (K : PySem.W.Frag) : R2 := fun x y H Q => ((rI CMul fun i j => .int (i * j)) x y H Q ∨ (rI CMulW fun i j => .int (i * j)) x y H Q) ∨ (rRepK K x y H Q ∨ rRep x y H Q)
theorem op_mulA {X : Cx} : OpR X (binaryOp .Mult) (rMulA X.K) := OpR.or (OpR.or op_mul op_mulW) (OpR.or op_repK op_rep)
theorem reps_rep {G : GT} {ρ : List Addr} {H : Hp} {xs : List D} {vs : List V} (r : Reps G ρ H xs vs) : ∀ k : Nat, Reps G ρ H (repL k xs) (List.replicate k vs).flatten
  | 0 => .nil
  | k + 1 => by
    unfold repL
    rw [List.replicate_succ, List.flatten_cons, List.replicate_succ, List.flatten_cons]
    exact r.append (reps_rep r k)
theorem so_mul {G : GT} : SO2 G (rMulA G.K) mulF := by
  intro P ρ H S r1 r2 x y Q ov s h1 h2 e k
  unfold mulF at e
  split at e
  · split at e
    · rename_i hc
      cases e
      cases h1
      cases h2
      rcases hc with hc | hc
      · exact .inl (.inl ⟨_, _, rfl, rfl, hc, op_d k (.int _)⟩)
      · exact .inl (.inr ⟨_, _, rfl, rfl, hc, op_d k (.int _)⟩)
    · cases e
  · split at e
    · rename_i hc
      cases e
      obtain ⟨a, vs, rfl, e1, q1⟩ := rep_tup h1
      cases h2
      exact .inr (.inl ⟨a, _, vs, rfl, rfl, e1.sq, fun z => hc.1 ((reps_nil q1).mp z), hc.2.1, hc.2.2.1, by rw [← q1.len]; exact hc.2.2.2, op_tup k (reps_rep q1 _)⟩)
    · cases e
  · split at e
    · rename_i xs l1
      split at e
      · rename_i hc
        cases e
        obtain ⟨a, vs, rfl, e1, q1⟩ := lst_of s h1 l1
        cases h2
        exact .inr (.inr ⟨a, _, vs, rfl, rfl, e1, hc.1, hc.2.1, by rw [← q1.len]; exact hc.2.2, op_lst k (reps_rep q1 _)⟩)
      · cases e
    · cases e
  · cases e
def pyD : Nat → Store → D → Option PyData
  | 0, _, _ => none
  | n + 1, S, d => match d with
    | .non => some .none
    | .bl b => some (.bool b)
    | .int i => some (.int i)
    | .str x => some (.str x)
    | .tup ds => (ds.mapM (pyD n S)).map .tuple
    | .loc l => (match S[l]? with
      | some (.lst ds) => (ds.mapM (pyD n S)).map .list
      | _ => none)
    | _ => none
def pyR (S : Store) : RV → Option PyData
  | .d x => pyD 64 S x
  | .l _ ds => (ds.mapM (pyD 64 S)).map .list
theorem dps_of {G : GT} {P : Hp} {ρ : List Addr} {H : Hp} {S : Store} (f : D → Option PyData) (hf : ∀ d v p, Rep G ρ H d v → f d = some p → Dp G.K H v p) : ∀ {ds : List D} {vs : List V} {ps : List PyData}, Reps G ρ H ds vs → ds.mapM f = some ps → DpAll G.K H vs ps := by
  intro ds
  induction ds with
  | nil =>
    intro vs ps r e
    cases r
    simp at e
    subst e
    exact .nil
  | cons d ds ih =>
    intro vs ps r e
    cases r with
    | cons h t =>
      rw [List.mapM_cons] at e
      cases z : f d with
      | none => rw [z] at e; cases e
      | some p =>
        rw [z] at e
        cases z2 : ds.mapM f with
        | none => rw [z2] at e; cases e
        | some qs =>
          rw [z2] at e
          have : p :: qs = ps := by simpa using e
          subst this
          exact .cons (hf d _ p h z) (ih t z2)
theorem dp_of {G : GT} {P : Hp} {ρ : List Addr} {H : Hp} {S : Store} (s : VS G P ρ H S) : ∀ (n : Nat) (d : D) (v : V) (p : PyData), Rep G ρ H d v → pyD n S d = some p → Dp G.K H v p
  | 0, _, _, _, _, e => by cases e
  | n + 1, d, v, p, r, e => by
    unfold pyD at e
    cases r with
    | non => cases e; exact .non
    | bl b => cases e; exact .bl b
    | int i => cases e; exact .int i
    | str x => cases e; exact .str x
    | tup h rs =>
      rename_i a vs ds
      dsimp only at e
      cases z : ds.mapM (pyD n S) with
      | none => rw [z] at e; cases e
      | some ps =>
        rw [z] at e
        cases e
        exact .tup (h.sq) (dps_of (P := P) (S := S) _ (dp_of s n) rs z)
    | loc hn =>
      rename_i l a
      dsimp only at e
      split at e
      · rename_i ds es
        obtain ⟨vs, e1, rs⟩ := s.st _ _ _ hn es
        cases z : ds.mapM (pyD n S) with
        | none => rw [z] at e; cases e
        | some ps =>
          rw [z] at e
          cases e
          exact .lst (SqL.of e1) (dps_of (P := P) (S := S) _ (dp_of s n) rs z)
      · cases e
    | _ => cases e
theorem dpR_of {G : GT} {P : Hp} {ρ : List Addr} {H : Hp} {S : Store} (s : VS G P ρ H S) {r : RV} {v : V} {p : PyData} (rr : RR G P ρ H r v) (e : pyR S r = some p) : Dp G.K H v p := by
  cases r with
  | d x => exact dp_of s 64 x v p rr e
  | l f ds =>
    obtain ⟨a, vs, rfl, e1, q1⟩ := lst_of s rr (show lstOf S (.l f ds) = some ds from rfl)
    unfold pyR at e
    dsimp only at e
    cases z : ds.mapM (pyD 64 S) with
    | none => rw [z] at e; cases e
    | some ps =>
      rw [z] at e
      cases e
      exact .lst (SqL.of e1) (dps_of (P := P) (S := S) _ (dp_of s 64) q1 z)
def eqF : F2 := fun S a b => match pyR S a, pyR S b with
  | some p, some q => if SeqAt.shaped p = true ∧ SeqAt.shaped q = true then some (.d (.bl (PyData.eqv p q))) else none
  | _, _ => none
def neF : F2 := fun S a b => match pyR S a, pyR S b with
  | some p, some q => if SeqAt.shaped p = true ∧ SeqAt.shaped q = true then some (.d (.bl (!PyData.eqv p q))) else none
  | _, _ => none
theorem so_eq {G : GT} : SO2 G (rEqD G.K) eqF := by
  intro P ρ H S r1 r2 x y Q ov s h1 h2 e k
  unfold eqF at e
  split at e
  · rename_i p q e1 e2
    split at e
    · rename_i hc
      cases e
      exact ⟨p, q, dpR_of s h1 e1, dpR_of s h2 e2, hc.1, hc.2, op_d k (.bl _)⟩
    · cases e
  · cases e
theorem so_ne {G : GT} : SO2 G (rNeD G.K) neF := by
  intro P ρ H S r1 r2 x y Q ov s h1 h2 e k
  unfold neF at e
  split at e
  · rename_i p q e1 e2
    split at e
    · rename_i hc
      cases e
      exact ⟨p, q, dpR_of s h1 e1, dpR_of s h2 e2, hc.1, hc.2, op_d k (.bl _)⟩
    · cases e
  · cases e
def isNon : RV → Bool
  | .d .non => true
  | _ => false
def isF : F2 := fun _ a b => match b with
  | .d .non => some (.d (.bl (isNon a)))
  | _ => none
def isntF : F2 := fun _ a b => match b with
  | .d .non => some (.d (.bl (!isNon a)))
  | _ => none
theorem isNon_ok {G : GT} {P : Hp} {ρ : List Addr} {H : Hp} {r : RV} {v : V} (h : RR G P ρ H r v) : decide (v = V.non) = isNon r := by
  cases r with
  | d x => cases h <;> simp [isNon]
  | l f ds => cases f <;> (obtain ⟨a, vs, rfl, _⟩ := h; simp [isNon])
theorem so_is {G : GT} : SO2 G (fun x y H Q => y = .non ∧ Q (.bl (decide (x = .non))) H) isF := by
  intro P ρ H S r1 r2 x y Q ov s h1 h2 e k
  unfold isF at e
  split at e
  · cases e
    cases h2
    refine ⟨rfl, ?_⟩
    rw [isNon_ok h1]
    exact op_d k (.bl _)
  · cases e
def ixF : F2 := fun S a b => match b with
  | .d (.int n) => (match a with
    | .d (.tup ds) => (atI ds n).map OV.d
    | .d (.str z) => if z.length ≤ sizeLine then (atI z.cps.toList n).map fun c => OV.d (.str ⟨#[c]⟩) else none
    | a => (lstOf S a).bind fun ds => (atI ds n).map OV.d)
  | _ => none
theorem atI_rep {G : GT} {ρ : List Addr} {H : Hp} {ds : List D} {vs : List V} (r : Reps G ρ H ds vs) {n : Int} {d : D} (h : atI ds n = some d) : ∃ v, atI vs n = some v ∧ Rep G ρ H d v := by
  unfold atI at h ⊢
  rw [← r.len]
  cases e : ixN ds.length n with
  | none => rw [e] at h; cases h
  | some j =>
    rw [e] at h
    exact r.get h
theorem so_ix {G : GT} : SO2 G (rIx G.K) ixF := by
  intro P ρ H S r1 r2 x y Q ov s h1 h2 e k
  unfold ixF at e
  split at e
  · cases h2
    split at e
    · rename_i ds
      rename_i n _
      obtain ⟨a, vs, rfl, e1, q1⟩ := rep_tup h1
      cases z : atI ds n with
      | none => rw [z] at e; cases e
      | some d =>
        rw [z] at e
        cases e
        obtain ⟨v, hv, rv⟩ := atI_rep q1 z
        exact .inr (.inl ⟨a, vs, n, v, rfl, rfl, e1.sq, hv, op_d k rv⟩)
    · rename_i w
      rename_i n _
      split at e
      · rename_i hz
        cases z : atI w.cps.toList n with
        | none => rw [z] at e; cases e
        | some c =>
          rw [z] at e
          cases e
          cases h1
          exact .inr (.inr ⟨w, n, c, rfl, rfl, hz, z, op_d k (.str _)⟩)
      · cases e
    · rename_i n _ _ _
      cases l1 : lstOf S r1 with
      | none => rw [l1] at e; cases e
      | some ds =>
        rw [l1] at e
        obtain ⟨a, vs, rfl, e1, q1⟩ := lst_of s h1 l1
        dsimp only [Option.bind] at e
        cases z : atI ds n with
        | none => rw [z] at e; cases e
        | some d =>
          rw [z] at e
          cases e
          obtain ⟨v, hv, rv⟩ := atI_rep q1 z
          exact .inl ⟨a, vs, n, v, rfl, rfl, SqL.of e1, hv, op_d k rv⟩
  · cases e
end DM

namespace DM
open PySem PySem.Spec L2

theorem rrs1 {G : GT} {P : Hp} {ρ : List Addr} {H : Hp} {r : RV} {vs : List V} (h : RRs G P ρ H [r] vs) : ∃ v, vs = [v] ∧ RR G P ρ H r v := by
  cases h with
  | cons h t => cases t; exact ⟨_, rfl, h⟩
theorem rrs2 {G : GT} {P : Hp} {ρ : List Addr} {H : Hp} {r r' : RV} {vs : List V} (h : RRs G P ρ H [r, r'] vs) : ∃ v w, vs = [v, w] ∧ RR G P ρ H r v ∧ RR G P ρ H r' w := by
  cases h with
  | cons h t =>
    obtain ⟨w, rfl, h2⟩ := rrs1 t
    exact ⟨_, w, rfl, h, h2⟩
def lenF : FN := fun S rs => match rs with
  | [.d (.str z)] => if z.length ≤ sizeLine then some (.d (.int (z.length : Nat))) else none
  | [.d (.tup ds)] => some (.d (.int (ds.length : Nat)))
  | [r] => (lstOf S r).map fun ds => .d (.int (ds.length : Nat))
  | _ => none
theorem so_len {G : GT} : SON G (fun xs H Q => ∃ x n, xs = [x] ∧ LenV G.K x H n ∧ Q (.int n) H) lenF := by
  intro P ρ H S rs vs Q ov s h e k
  unfold lenF at e
  split at e
  · split at e
    · rename_i z hz
      cases e
      obtain ⟨v, rfl, r⟩ := rrs1 h
      cases r
      exact ⟨_, z.length, rfl, ⟨hz, rfl⟩, op_d k (.int _)⟩
    · cases e
  · cases e
    obtain ⟨v, rfl, r⟩ := rrs1 h
    obtain ⟨a, vs, rfl, e1, q1⟩ := rep_tup r
    rw [q1.len] at k
    exact ⟨_, vs.length, rfl, .inr ⟨vs, e1.sq, rfl⟩, op_d k (.int _)⟩
  · rename_i r _ _
    cases l1 : lstOf S r with
    | none => rw [l1] at e; cases e
    | some ds =>
      rw [l1] at e
      cases e
      obtain ⟨v, rfl, r⟩ := rrs1 h
      obtain ⟨a, vs, rfl, e1, q1⟩ := lst_of s r l1
      dsimp only at k
      rw [q1.len] at k
      exact ⟨_, vs.length, rfl, .inl ⟨vs, SqL.of e1, rfl⟩, op_d k (.int _)⟩
  · cases e
def intsOf : List D → Option (List Int)
  | [] => some []
  | .int i :: r => (intsOf r).map (i :: ·)
  | _ => none
def blsOf : List D → Option (List Bool)
  | [] => some []
  | .bl b :: r => (blsOf r).map (b :: ·)
  | _ => none
theorem ints_ok {G : GT} {ρ : List Addr} {H : Hp} : ∀ {ds : List D} {vs : List V} {ns : List Int}, Reps G ρ H ds vs → intsOf ds = some ns → vs = ns.map V.int
  | [], _, _, r, e => by cases r; cases e; rfl
  | d :: ds, _, ns, .cons h t, e => by
    cases d with
    | int i =>
      unfold intsOf at e
      cases z : intsOf ds with
      | none => rw [z] at e; cases e
      | some ms =>
        rw [z] at e
        cases e
        cases h
        rw [ints_ok t z]
        rfl
    | _ => cases e
theorem bls_ok {G : GT} {ρ : List Addr} {H : Hp} : ∀ {ds : List D} {vs : List V} {ns : List Bool}, Reps G ρ H ds vs → blsOf ds = some ns → vs = ns.map V.bl
  | [], _, _, r, e => by cases r; cases e; rfl
  | d :: ds, _, ns, .cons h t, e => by
    cases d with
    | bl i =>
      unfold blsOf at e
      cases z : blsOf ds with
      | none => rw [z] at e; cases e
      | some ms =>
        rw [z] at e
        cases e
        cases h
        rw [bls_ok t z]
        rfl
    | _ => cases e
def liF (f : List Int → Option OV) : FN := fun S rs => match rs with
  | [r] => (lstOf S r).bind fun ds => (intsOf ds).bind f
  | _ => none
theorem li_ok {G : GT} {P : Hp} {ρ : List Addr} {H : Hp} {S : Store} {rs : List RV} {vs : List V} {f : List Int → Option OV} {ov : OV} (s : VS G P ρ H S) (h : RRs G P ρ H rs vs) (e : liF f S rs = some ov) : ∃ a ns, vs = [.ref a] ∧ H a = some (.lst (ns.map V.int)) ∧ f ns = some ov := by
  unfold liF at e
  split at e
  · rename_i r
    cases l1 : lstOf S r with
    | none => rw [l1] at e; cases e
    | some ds =>
      rw [l1] at e
      dsimp only [Option.bind] at e
      cases z : intsOf ds with
      | none => rw [z] at e; cases e
      | some ns =>
        rw [z] at e
        obtain ⟨v, rfl, r⟩ := rrs1 h
        obtain ⟨a, vs, rfl, e1, q1⟩ := lst_of s r l1
        rw [ints_ok q1 z] at e1
        exact ⟨a, ns, rfl, e1, e⟩
  · cases e
def lbF (f : List Bool → Option OV) : FN := fun S rs => match rs with
  | [r] => (lstOf S r).bind fun ds => (blsOf ds).bind f
  | _ => none
theorem lb_ok {G : GT} {P : Hp} {ρ : List Addr} {H : Hp} {S : Store} {rs : List RV} {vs : List V} {f : List Bool → Option OV} {ov : OV} (s : VS G P ρ H S) (h : RRs G P ρ H rs vs) (e : lbF f S rs = some ov) : ∃ a ns, vs = [.ref a] ∧ H a = some (.lst (ns.map V.bl)) ∧ f ns = some ov := by
  unfold lbF at e
  split at e
  · rename_i r
    cases l1 : lstOf S r with
    | none => rw [l1] at e; cases e
    | some ds =>
      rw [l1] at e
      dsimp only [Option.bind] at e
      cases z : blsOf ds with
      | none => rw [z] at e; cases e
      | some ns =>
        rw [z] at e
        obtain ⟨v, rfl, r⟩ := rrs1 h
        obtain ⟨a, vs, rfl, e1, q1⟩ := lst_of s r l1
        rw [bls_ok q1 z] at e1
        exact ⟨a, ns, rfl, e1, e⟩
  · cases e
def sumF : FN := liF fun ns => some (.d (.int ns.sum))
def allF : FN := lbF fun bs => some (.d (.bl (bs.all id)))
def anyF : FN := lbF fun bs => some (.d (.bl (bs.any id)))
theorem so_all {G : GT} : SON G (rAll G.K) allF := fun P ρ H S rs vs Q ov s h e k => by
  obtain ⟨a, ns, rfl, e1, e2⟩ := lb_ok s h e
  cases e2
  exact ⟨a, ns, rfl, SqL.of e1, op_d k (.bl _)⟩
def maxI : List Int → Int
  | [] => 0
  | [x] => x
  | x :: y :: r => if maxI (y :: r) > x then maxI (y :: r) else x
def minI : List Int → Int
  | [] => 0
  | [x] => x
  | x :: y :: r => if minI (y :: r) < x then minI (y :: r) else x
theorem maxI_mem : ∀ {l : List Int}, l ≠ [] → maxI l ∈ l
  | [], h => absurd rfl h
  | [x], _ => List.mem_cons_self
  | x :: y :: r, _ => by
    have := maxI_mem (l := y :: r) (by simp)
    unfold maxI
    split
    · exact List.mem_cons_of_mem _ this
    · exact List.mem_cons_self
theorem maxI_le : ∀ {l : List Int} {z : Int}, z ∈ l → z ≤ maxI l
  | [], z, h => by simp at h
  | [x], z, h => by simp at h; subst h; exact Int.le_refl _
  | x :: y :: r, z, h => by
    have ih := @maxI_le (y :: r)
    unfold maxI
    rcases List.mem_cons.mp h with rfl | h
    · split <;> omega
    · have := ih h
      split <;> omega
theorem minI_mem : ∀ {l : List Int}, l ≠ [] → minI l ∈ l
  | [], h => absurd rfl h
  | [x], _ => List.mem_cons_self
  | x :: y :: r, _ => by
    have := minI_mem (l := y :: r) (by simp)
    unfold minI
    split
    · exact List.mem_cons_of_mem _ this
    · exact List.mem_cons_self
theorem minI_le : ∀ {l : List Int} {z : Int}, z ∈ l → minI l ≤ z
  | [], z, h => by simp at h
  | [x], z, h => by simp at h; subst h; exact Int.le_refl _
  | x :: y :: r, z, h => by
    have ih := @minI_le (y :: r)
    unfold minI
    rcases List.mem_cons.mp h with rfl | h
    · split <;> omega
    · have := ih h
      split <;> omega
def maxF : FN := fun S rs => match rs with
  | [.d (.int i), .d (.int j)] => some (.d (.int (if j > i then j else i)))
  | rs => liF (fun ns => if ns = [] then none else some (.d (.int (maxI ns)))) S rs
def minF : FN := fun S rs => match rs with
  | [.d (.int i), .d (.int j)] => some (.d (.int (if j < i then j else i)))
  | rs => liF (fun ns => if ns = [] then none else some (.d (.int (minI ns)))) S rs
theorem so_max {G : GT} : SON G (fun xs H Q => (∃ i j, xs = [.int i, .int j] ∧ Q (.int (if j > i then j else i)) H) ∨ rMax G.K xs H Q) maxF := fun P ρ H S rs vs Q ov s h e k => by
  unfold maxF at e
  split at e
  · cases e
    obtain ⟨v, w, rfl, r1, r2⟩ := rrs2 h
    cases r1
    cases r2
    exact .inl ⟨_, _, rfl, op_d k (.int _)⟩
  · obtain ⟨a, ns, rfl, e1, e2⟩ := li_ok s h e
    split at e2
    · cases e2
    · rename_i hn
      cases e2
      refine .inr ⟨a, ns, rfl, SqL.of e1, List.length_pos_iff.mpr hn, fun m hm hub => ?_⟩
      have : m = maxI ns := Int.le_antisymm (maxI_le hm) (hub _ (maxI_mem hn))
      rw [this]
      exact op_d k (.int _)
theorem so_min {G : GT} : SON G (fun xs H Q => (∃ i j, xs = [.int i, .int j] ∧ Q (.int (if j < i then j else i)) H) ∨ rMin G.K xs H Q) minF := fun P ρ H S rs vs Q ov s h e k => by
  unfold minF at e
  split at e
  · cases e
    obtain ⟨v, w, rfl, r1, r2⟩ := rrs2 h
    cases r1
    cases r2
    exact .inl ⟨_, _, rfl, op_d k (.int _)⟩
  · obtain ⟨a, ns, rfl, e1, e2⟩ := li_ok s h e
    split at e2
    · cases e2
    · rename_i hn
      cases e2
      refine .inr ⟨a, ns, rfl, SqL.of e1, List.length_pos_iff.mpr hn, fun m hm hub => ?_⟩
      have : m = minI ns := Int.le_antisymm (hub _ (minI_mem hn)) (minI_le hm)
      rw [this]
      exact op_d k (.int _)
theorem call_tupleK {X : Cx} : CallR X (.type "tuple") (fun xs H Q => ∃ p ys, xs = [.ref p] ∧ ((SqL X.K H p ys ∧ ∀ l o, H l = none → Obj.dict o = none → Q (.ref l) (upd H l (.frz o (.tup ys)))) ∨ (SqT X.K H p ys ∧ Q (.ref p) H))) := by
  rintro pins s σ H xs us Q I r ⟨p, ys, rfl, h⟩
  obtain ⟨u, rfl, rx⟩ := vals1 r
  cases rx
  rcases h with ⟨hq, q⟩ | ⟨hq, q⟩
  · obtain ⟨ws, rw', pl, hz⟩ := I.list hq
    refine call_tuple_list pl.isList (fun h' kp => ?_) (by have := rw'.length; rw [List.size_toArray]; omega)
    have I1 : Inv X pins σ H { s with heap := h' } := I.kept (t' := s.toks) kp
    exact ⟨.ref _, _, laidK (tk := s.toks) I1 hz rw', rfl, q _ _ (I1.hok.fresh (Nat.le_refl _)) rfl⟩
  · obtain ⟨ws, _, pl, _⟩ := I.tuple hq
    exact call_tuple_same pl ⟨.ref p, H, I, rfl, q⟩
def tupF : FN := fun S rs => match rs with
  | [.d (.tup ds)] => some (.d (.tup ds))
  | [r] => (lstOf S r).map fun ds => .d (.tup ds)
  | _ => none
theorem so_tup {G : GT} : SON G (fun xs H Q => ∃ p ys, xs = [.ref p] ∧ ((SqL G.K H p ys ∧ ∀ l o, H l = none → Obj.dict o = none → Q (.ref l) (upd H l (.frz o (.tup ys)))) ∨ (SqT G.K H p ys ∧ Q (.ref p) H))) tupF := fun P ρ H S rs vs Q ov s h e k => by
  unfold tupF at e
  split at e
  · cases e
    obtain ⟨v, rfl, r⟩ := rrs1 h
    obtain ⟨a, vs, rfl, e1, q1⟩ := rep_tup r
    exact ⟨a, vs, rfl, .inr ⟨e1.sq, op_d k (.tup e1 q1)⟩⟩
  · rename_i r _
    cases l1 : lstOf S r with
    | none => rw [l1] at e; cases e
    | some ds =>
      rw [l1] at e
      cases e
      obtain ⟨v, rfl, r⟩ := rrs1 h
      obtain ⟨a, vs, rfl, e1, q1⟩ := lst_of s r l1
      exact ⟨a, vs, rfl, .inl ⟨SqL.of e1, op_tup k q1⟩⟩
  · cases e
def listF : FN := fun S rs => match rs with
  | [.d (.tup ds)] => some (.l ds)
  | [r] => (lstOf S r).map fun ds => .l ds
  | _ => none
theorem so_list {G : GT} : SON G (fun xs H Q => ∃ p ys, xs = [.ref p] ∧ (SqL G.K H p ys ∨ SqT G.K H p ys) ∧ ∀ l, H l = none → Q (.ref l) (upd H l (.lst ys))) listF := fun P ρ H S rs vs Q ov s h e k => by
  unfold listF at e
  split at e
  · cases e
    obtain ⟨v, rfl, r⟩ := rrs1 h
    obtain ⟨a, vs, rfl, e1, q1⟩ := rep_tup r
    exact ⟨a, vs, rfl, .inr (e1.sq), op_lst k q1⟩
  · rename_i r _
    cases l1 : lstOf S r with
    | none => rw [l1] at e; cases e
    | some ds =>
      rw [l1] at e
      cases e
      obtain ⟨v, rfl, r⟩ := rrs1 h
      obtain ⟨a, vs, rfl, e1, q1⟩ := lst_of s r l1
      exact ⟨a, vs, rfl, .inl (SqL.of e1), op_lst k q1⟩
  · cases e
def intF : FN := fun _ rs => match rs with
  | [.d (.int i)] => some (.d (.int i))
  | [.d (.bl b)] => some (.d (.int (if b then 1 else 0)))
  | _ => none
theorem so_int {G : GT} : SON G (fun xs H Q => (∃ i, xs = [.int i] ∧ Q (.int i) H) ∨ ∃ k, xs = [.bl k] ∧ Q (.int (if k then 1 else 0)) H) intF := fun P ρ H S rs vs Q ov s h e k => by
  unfold intF at e
  split at e
  · cases e
    obtain ⟨v, rfl, r⟩ := rrs1 h
    cases r
    exact .inl ⟨_, rfl, op_d k (.int _)⟩
  · cases e
    obtain ⟨v, rfl, r⟩ := rrs1 h
    cases r
    exact .inr ⟨_, rfl, op_d k (.int _)⟩
  · cases e
def intSF : FN := fun _ rs => match rs with
  | [.d (.str a)] => (match PySem.intText? a with
    | some n => if a.length ≤ 640 then some (.d (.int n)) else none
    | none => none)
  | _ => none
def strF : FN := fun _ rs => match rs with
  | [.d (.int i)] => if i.natAbs.log2 < 1920 then some (.d (.str (toString i))) else none
  | _ => none
def kindOf (S : Store) : RV → Option String
  | .l _ _ => some "list"
  | .d .non => some "NoneType"
  | .d (.bl _) => some "bool"
  | .d (.int _) => some "int"
  | .d (.str _) => some "str"
  | .d (.tup _) => some "tuple"
  | .d (.loc n) => (match S[n]? with
    | some (.lst _) => some "list"
    | _ => none)
  | _ => none
def okKind (n : String) : Bool := n == "int" || n == "bool" || n == "str" || n == "tuple" || n == "list"
def isKind (t n : String) : Bool := t == n || (t == "bool" && n == "int")
theorem kind_ok {G : GT} {P : Hp} {ρ : List Addr} {H : Hp} {S : Store} {r : RV} {v : V} {t : String} (s : VS G P ρ H S) (rr : RR G P ρ H r v) (e : kindOf S r = some t) : TyX G.K H v (.type t) ∧ (t = "list" ∨ t = "NoneType" ∨ t = "bool" ∨ t = "int" ∨ t = "str" ∨ t = "tuple") := by
  cases r with
  | l f ds =>
    cases e
    obtain ⟨a, vs, rfl, e1, q1⟩ := lst_of s rr (show lstOf S (.l f ds) = some ds from rfl)
    exact ⟨.base (.lst e1), .inl rfl⟩
  | d x =>
    cases rr with
    | non => cases e; exact ⟨.base .non, by simp⟩
    | bl b => cases e; exact ⟨.base (.bl b), by simp⟩
    | int i => cases e; exact ⟨.base (.int i), by simp⟩
    | str x => cases e; exact ⟨.base (.str x), by simp⟩
    | tup h rs => cases e; obtain ⟨o, h, _⟩ := h; exact ⟨.fTuple h, by simp⟩
    | loc hn =>
      unfold kindOf at e
      dsimp only at e
      split at e
      · rename_i ds es
        cases e
        obtain ⟨vs, e1, rs⟩ := s.st _ _ _ hn es
        exact ⟨.base (.lst e1), by simp⟩
      · cases e
    | _ => cases e
theorem kit_kind {K : PySem.W.Frag} {t n : String} (ht : t = "list" ∨ t = "NoneType" ∨ t = "bool" ∨ t = "int" ∨ t = "str" ∨ t = "tuple") (hn : okKind n = true) : PySem.W.kitOne K (.type t) (.type n) = some (isKind t n) := by
  have hn' : n = "int" ∨ n = "bool" ∨ n = "str" ∨ n = "tuple" ∨ n = "list" := by
    unfold okKind at hn
    simp only [Bool.or_eq_true, beq_iff_eq] at hn
    rcases hn with (((h | h) | h) | h) | h <;> simp [h]
  refine kit_ty ?_
  rcases ht with rfl | rfl | rfl | rfl | rfl | rfl <;> rcases hn' with rfl | rfl | rfl | rfl | rfl <;> decide +kernel
def tysOf : List D → Option (List String)
  | [] => some []
  | .ty n :: r => if okKind n = true then (tysOf r).map (n :: ·) else none
  | _ => none
def isiF : FN := fun S rs => match rs with
  | [r, .d (.ty n)] => (kindOf S r).bind fun t => if okKind n = true then some (.d (.bl (isKind t n))) else none
  | [r, .d (.tup ds)] => (kindOf S r).bind fun t => (tysOf ds).map fun ns => .d (.bl (ns.any (isKind t)))
  | _ => none
theorem tys_ok {G : GT} {ρ : List Addr} {H : Hp} {t : String} (ht : t = "list" ∨ t = "NoneType" ∨ t = "bool" ∨ t = "int" ∨ t = "str" ∨ t = "tuple") : ∀ {ds : List D} {vs : List V} {ns : List String}, Reps G ρ H ds vs → tysOf ds = some ns → ∃ us, Paired ClsV vs us ∧ PySem.W.kitAny G.K (.type t) us = some (ns.any (isKind t))
  | [], _, _, r, e => by cases r; cases e; exact ⟨[], .nil, kitAny_nil⟩
  | d :: ds, _, ns, .cons h tl, e => by
    cases d with
    | ty n =>
      unfold tysOf at e
      split at e
      · rename_i hk
        cases z : tysOf ds with
        | none => rw [z] at e; cases e
        | some ms =>
          rw [z] at e
          cases e
          cases h
          obtain ⟨us, p1, p2⟩ := tys_ok ht tl z
          refine ⟨.type n :: us, .cons (.ty n) p1, kitAny_cons (kit_kind ht hk) (fun hb => ?_) (fun hb => ?_)⟩
          · rw [List.any_cons, hb, Bool.false_or]; exact p2
          · rw [List.any_cons, hb, Bool.true_or]
      · cases e
    | _ => cases e
def rIsiQ (K : PySem.W.Frag) : List V → Hp → VK → Prop := fun xs H Q => ∃ (x : V) (tp : Addr) (cs : List V) (t : Value) (us : List Value) (b : Bool), xs = [x, .ref tp] ∧ SqT K H tp cs ∧ Paired ClsV cs us ∧ TyX K H x t ∧ PySem.W.kitAny K t us = some b ∧ Q (.bl b) H
theorem call_isiQ {X : Cx} : CallR X (.builtin "isinstance") (rIsiQ X.K) := by
  rintro pins s σ H xs us Q I r ⟨x, tp, cs, t, ws, b, rfl, hT, k, ty, e, q⟩
  obtain ⟨u1, u2, rfl, r1, r2⟩ := vals2 r
  cases (show u2 = Value.ref tp from r2)
  obtain ⟨P, Z, p, hx⟩ := kit_of I r1 ty
  obtain ⟨us, rv, ⟨⟨oc, od, dt, sl⟩, h1, h2, n, h3⟩, _⟩ := I.tuple hT
  have e3 := ClsV.all k rv
  subst e3
  dsimp only at h2 h3
  subst h2 h3
  exact PySem.W.kia_tup Z I.kIn p h1 e hx fun tk => ⟨.bl b, H, I.tok tk, rfl, q⟩
theorem so_isi {G : GT} : SON G (fun xs H Q => rIsi G.K xs H Q ∨ rIsiQ G.K xs H Q) isiF := fun P ρ H S rs vs Q ov s h e k => by
  unfold isiF at e
  split at e
  · rename_i r n
    obtain ⟨v, w, rfl, r1, r2⟩ := rrs2 h
    cases z : kindOf S r with
    | none => rw [z] at e; cases e
    | some t =>
      rw [z] at e
      dsimp only [Option.bind] at e
      split at e
      · rename_i hk
        cases e
        obtain ⟨ty, ht⟩ := kind_ok s r1 z
        cases r2
        exact .inl ⟨v, .ty n, .type t, .type n, _, rfl, .ty n, ty, kit_kind ht hk, op_d k (.bl _)⟩
      · cases e
  · rename_i r ds
    obtain ⟨v, w, rfl, r1, r2⟩ := rrs2 h
    cases z : kindOf S r with
    | none => rw [z] at e; cases e
    | some t =>
      rw [z] at e
      dsimp only [Option.bind] at e
      cases z2 : tysOf ds with
      | none => rw [z2] at e; cases e
      | some ns =>
        rw [z2] at e
        cases e
        obtain ⟨ty, ht⟩ := kind_ok s r1 z
        obtain ⟨a, cs, rfl, e1, q1⟩ := rep_tup r2
        obtain ⟨us, p1, p2⟩ := tys_ok ht q1 z2
        exact .inr ⟨v, a, cs, .type t, us, _, rfl, e1.sq, p1, ty, p2, op_d k (.bl _)⟩
  · cases e

def ePart : Option ME → Env → Store → Res (Option Int)
  | none, _, S => .ok none S
  | some m, es, S => (m es S).bind fun r S1 => match r with
    | .d (.int i) => .ok (some i) S1
    | _ => .bad
def cutL {T : Type} (xs : List T) (lo hi : Option Int) : List T := (xs.drop (HT.sIx xs.length 0 lo)).take (HT.sIx xs.length xs.length hi - HT.sIx xs.length 0 lo)
def slF (S : Store) (r : RV) (lo hi : Option Int) : Option OV := match r with
  | .d (.tup ds) => some (.d (.tup (cutL ds lo hi)))
  | .d (.str z) => if z.length ≤ sizeLine then some (.d (.str (cutS z lo hi))) else none
  | .d (.scr ns) => some (.l ((cutL ns lo hi).map D.int))
  | r => (lstOf S r).map fun ds => .l (cutL ds lo hi)
def eSl (lo hi : Option ME) (m : ME) : ME := fun es S => (m es S).bind fun r S1 => (ePart lo es S1).bind fun a S2 => (ePart hi es S2).bind fun b S3 => ofO (slF S3 r.weak a b) S3
structure SO (G : GT) (W : WX) (X : Cx) (e : Option Expr) (m : Option ME) : Prop where
  po : PO X e (fun σ H Q => ∃ P ρ es S, VS G P ρ H S ∧ ES G P ρ H σ es ∧ (match ePart m es S with
    | .ok o S' => ∀ ρ' H', VS G P ρ' H' S' → TK ρ H ρ' H' → Q o H'
    | .ex c p S' => ∀ cls d ρ' H', VS G P ρ' H' S' → TK ρ H ρ' H' → RX G ρ' H' c p cls d → W cls d σ H'
    | .bad => False))
section
variable {G : GT} {W : WX} {X : Cx} {e : Expr} {m : ME} {pos p2 : Pos} {lo hi : Option Expr} {ml mh : Option ME}
theorem PO.of {e : Option Expr} {t t' : TO} (h : PO X e t) (k : ∀ σ H Q, t' σ H Q → t σ H Q) : PO X e t' := ⟨fun pins s σ H Q I q => h.run pins s σ H Q I (k σ H Q q)⟩
theorem so_no : SO G W X none none := by
  refine ⟨PO.of po_none fun σ H Q h => ?_⟩
  obtain ⟨P, ρ, es, S, s, q, h⟩ := h
  exact h ρ H s (TK.refl _ _)
theorem so_some (ha : SE G W X e m) : SO G W X (some e) (some m) := by
  refine ⟨PO.of (po_some ha.pe) fun σ H Q h => ?_⟩
  obtain ⟨P, ρ, es, S, s, q, h⟩ := h
  refine ⟨P, ρ, es, S, s, q, ?_⟩
  unfold ePart at h
  dsimp only at h
  cases z : m es S with
  | bad => rw [z] at h; exact h
  | ex c p S1 => rw [z] at h; exact h
  | ok r S1 =>
    rw [z] at h
    intro v ρ1 H1 s1 k1 rr
    cases r with
    | l f ds => exact h.elim
    | d x =>
      cases x with
      | int i => cases rr; exact ⟨i, rfl, h ρ1 H1 s1 k1⟩
      | _ => exact h.elim
def rSlK (K : PySem.W.Frag) : V → Option Int → Option Int → Hp → VK → Prop := fun x lo hi H Q => ∃ a xs, x = .ref a ∧ SqT K H a xs ∧
  (HT.sIx xs.length 0 lo = 0 ∧ HT.sIx xs.length xs.length hi = xs.length → Q (.ref a) H) ∧ (¬ (HT.sIx xs.length 0 lo = 0 ∧ HT.sIx xs.length xs.length hi = xs.length) → ∀ p o, H p = none → Obj.dict o = none → Q (.ref p) (upd H p (.frz o (.tup (cutV xs lo hi)))))
theorem sl_tupK : SlR X (rSlK X.K) := by
  rintro pins s σ H x v vl vu lo hi sl Q I rx hs pl pu ⟨a, xs, rfl, hx, q1, q2⟩
  cases rx
  obtain ⟨us, r, ht, hz⟩ := I.tuple hx
  have len : us.toArray.size = xs.length := by rw [List.size_toArray]; exact r.length.symm
  refine ⟨"tuple", _, PyProof.Rows.slot_tuple_getitem.lookup, ht.typeIs, ?_⟩
  by_cases hw : HT.sIx xs.length 0 lo = 0 ∧ HT.sIx xs.length xs.length hi = xs.length
  · exact getItem_tuple_whole ht hs pl pu (by rw [len]; exact hw) ⟨.ref a, H, I, rfl, q1 hw⟩
  · refine HT.getItem_tuple_cut ht hs pl pu (by rw [len]; exact hw) ?_ (by rw [len]; exact hz)
    rw [len]
    exact ⟨.ref _, _, laidK (tk := s.toks) I (Nat.le_trans (cutV_length xs lo hi) hz) ((r.drop (HT.sIx xs.length 0 lo)).take (HT.sIx xs.length xs.length hi - HT.sIx xs.length 0 lo)), rfl, q2 hw _ _ (I.hok.fresh (Nat.le_refl _)) rfl⟩
def rSlAll (K : PySem.W.Frag) : V → Option Int → Option Int → Hp → VK → Prop := fun x lo hi H Q => rSlL K x lo hi H Q ∨ (rSlK K x lo hi H Q ∨ rSlS x lo hi H Q)
theorem sl_all : SlR X (rSlAll X.K) := SlR.or sl_list (SlR.or sl_tupK sl_str)
theorem cut_reps {ρ : List Addr} {H : Hp} {ds : List D} {vs : List V} (r : Reps G ρ H ds vs) (a b : Option Int) : Reps G ρ H (cutL ds a b) (cutV vs a b) := by
  unfold cutL cutV
  rw [← r.len]
  exact (r.drop _).take _
theorem cut_ints {ρ : List Addr} {H : Hp} : ∀ {ns : List Int}, Reps G ρ H (ns.map D.int) (ns.map V.int)
  | [] => .nil
  | n :: ns => .cons (.int n) cut_ints
theorem sl_core {P : Hp} {ρ : List Addr} {H : Hp} {S : Store} {r : RV} {v : V} {a b : Option Int} {Q : VK} {ov : OV} (s : VS G P ρ H S) (rr : RR G P ρ H r.weak v) (e : slF S r.weak a b = some ov) (k : ∀ v H', OP G ρ H ov v H' → Q v H') : rSlAll G.K v a b H Q := by
  have lst : ∀ ds, lstOf S r.weak = some ds → ov = .l (cutL ds a b) → rSlAll G.K v a b H Q := fun ds l1 eo => by
    subst eo
    obtain ⟨p, vs, rfl, e1, q1⟩ := lst_at s rr l1
    exact .inl ⟨p, vs, rfl, SqL.of e1, op_lst k (cut_reps q1 a b)⟩
  unfold slF at e
  split at e
  · rename_i ds hr
    cases e
    rw [hr] at rr
    obtain ⟨p, vs, rfl, e1, q1⟩ := rep_tup rr
    refine .inr (.inl ⟨p, vs, rfl, e1.sq, fun hz => ?_, fun hz => op_tup k (cut_reps q1 a b)⟩)
    have : cutL ds a b = ds := by
      unfold cutL
      rw [q1.len, hz.1, hz.2, ← q1.len]
      simp
    rw [this] at k
    exact op_d k (.tup e1 q1)
  · rename_i z hr
    split at e
    · rename_i hz
      cases e
      rw [hr] at rr
      cases rr
      exact .inr (.inr ⟨z, rfl, hz, op_d k (.str _)⟩)
    · cases e
  · rename_i ns hr
    cases e
    rw [hr] at rr
    cases rr with
    | scr hs =>
      rename_i p
      have sq : SqL G.K H p (ns.map V.int) := by
        rcases hs with ⟨o, e1⟩ | e1
        · exact .inl (.inr ⟨o, e1⟩)
        · exact e1 H
      refine .inl ⟨p, _, rfl, sq, ?_⟩
      have : cutV (ns.map V.int) a b = (cutL ns a b).map V.int := by
        unfold cutV cutL
        rw [List.length_map, List.map_take, List.map_drop]
      rw [this]
      exact op_lst k cut_ints
  · cases l1 : lstOf S r.weak with
    | none => rw [l1] at e; cases e
    | some ds => rw [l1] at e; cases e; exact lst ds l1 rfl
theorem se_sl (ha : SE G W X e m) (hl : SO G W X lo ml) (hh : SO G W X hi mh) : SE G W X (.Subscript e (.Slice lo hi none p2) pos) (eSl ml mh m) := by
  refine ⟨ha.k, PE.of (pe_slice sl_all ha.pe hl.po hh.po) fun σ H Q h => ?_⟩
  obtain ⟨P, ρ, es, S, s, q, h⟩ := h
  refine rdE_then s q h fun r S1 v ρ1 H1 e1 s1 k1 rr h => ?_
  obtain ⟨P1, hp, s1', rr1⟩ := protect s1 rr
  have hnl : ∀ (a b : Option Int) (S3 : Store), ∀ rv S', ofO (slF S3 r.weak a b) S3 = .ok rv S' → ∀ ds, rv ≠ .l false ds := fun a b S3 => ofO_rv
  refine ⟨P1, ρ1, es, S1, s1', (q.next k1).more hp, ?_⟩
  cases z : ePart ml es S1 with
  | bad => rw [z] at h; exact h
  | ex c p S2 => rw [z] at h; exact fun cls d ρ2 H2 s2 k2 rx => h cls d ρ2 H2 (s2.less hp) k2 rx
  | ok a S2 =>
    rw [z] at h
    intro ρ2 H2 s2 k2
    refine ⟨P1, ρ2, es, S2, s2, ((q.next k1).next k2).more hp, ?_⟩
    have h : Aft G (fun cls d H' => W cls d σ H') P ρ1 H1 ((ePart mh es S2).bind fun b S3 => ofO (slF S3 r.weak a b) S3) Q := h
    cases z2 : ePart mh es S2 with
    | bad => rw [z2] at h; exact h
    | ex c p S3 => rw [z2] at h; exact fun cls d ρ3 H3 s3 k3 rx => h cls d ρ3 H3 (s3.less hp) (k2.trans k3) rx
    | ok b S3 =>
      rw [z2] at h
      intro ρ3 H3 s3 k3
      have h : Aft G (fun cls d H' => W cls d σ H') P ρ1 H1 (ofO (slF S3 r.weak a b) S3) Q := h
      cases z3 : slF S3 r.weak a b with
      | none => rw [z3] at h; exact h.elim
      | some ov =>
        rw [z3] at h
        rw [ha.k]
        exact sl_core s3 (RR.weak_mono (k2.trans k3) rr1) z3 (op_end s3 hp (Aft.next (k2.trans k3) h))
end

section
variable {G : GT} {W : WX} {X : Cx} {a b c : Expr} {ma mb : ME} {pos : Pos}
theorem se_add (ha : SE G W X a ma) (hb : SE G W X b mb) : SE G W X (.BinOp a .Add b pos) (eOp2 addF ma mb) := se_op2 op_addA (by rw [ha.k]; exact so_add) ha hb
theorem se_sub (ha : SE G W X a ma) (hb : SE G W X b mb) : SE G W X (.BinOp a .Sub b pos) (eOp2 subF ma mb) := se_op2 op_sub (so_ii fun _ _ _ _ => .int _) ha hb
theorem se_mul (ha : SE G W X a ma) (hb : SE G W X b mb) : SE G W X (.BinOp a .Mult b pos) (eOp2 mulF ma mb) := se_op2 op_mulA (by rw [ha.k]; exact so_mul) ha hb
theorem se_fdiv (ha : SE G W X a ma) (hb : SE G W X b mb) : SE G W X (.BinOp a .FloorDiv b pos) (eOp2 fdivF ma mb) := se_op2 op_fdivW (so_iic fun _ _ _ _ => .int _) ha hb
theorem se_mod (ha : SE G W X a ma) (hb : SE G W X b mb) : SE G W X (.BinOp a .Mod b pos) (eOp2 modF ma mb) := se_op2 op_mod (so_iic fun _ _ _ _ => .int _) ha hb
theorem se_pow (ha : SE G W X a ma) (hb : SE G W X b mb) : SE G W X (.BinOp a .Pow b pos) (eOp2 powF ma mb) := se_op2 op_pow (so_iic fun _ _ _ _ => .int _) ha hb
theorem so_neg : SO1 G (rU fun i => .int (-i)) negF := by
  intro P ρ H S r1 x Q ov s h1 e k
  unfold negF at e
  split at e
  · cases e
    cases h1
    exact ⟨_, rfl, op_d k (.int _)⟩
  · cases e
theorem se_neg (ha : SE G W X a ma) : SE G W X (.UnaryOp .USub a pos) (eOp1 negF ma) := se_un un_neg so_neg ha
theorem se_eq (hu : X.A.units + 64 < cLine) (ha : SE G W X a ma) (hb : SE G W X b mb) : SE G W X (.Compare a [.Eq] [b] pos) (eOp2 eqF ma mb) := se_cmp (op_eqD hu) (by rw [ha.k]; exact so_eq) ha hb (nomark _)
theorem se_is (ha : SE G W X a ma) (hb : SE G W X b mb) : SE G W X (.Compare a [.Is] [b] pos) (eOp2 isF ma mb) := se_cmp op_isN so_is ha hb (nomark _)
theorem se_sub_ (ha : SE G W X a ma) (hb : SE G W X b mb) (hp : PlainIx b := by intro _ _; rfl) : SE G W X (.Subscript a b pos) (eOp2 ixF ma mb) := se_ix ix_seq (by rw [ha.k]; exact so_ix) ha hb hp
end
section
variable {G : GT} {W : WX} {X : Cx} {a : Expr} {as : List Expr} {ms : List ME} {p pos : Pos}
theorem se_len (hg : Gl X "len") (hm : X.mg "len" = none) (ha : SA G W X (a :: as) ms) (he : starEach (a :: as) X.env = (false, eval a X.env) :: starEach as X.env := by rfl) (hpl : (backTo pos (starEach as X.env)).any (·.1) = false := by rfl) : SE G W X (.Call (.Name "len" p) (a :: as) [] pos) (eOpN lenF ms) :=
  se_callB call_len (by rw [ha.k]; exact so_len) hg hm (by decide +kernel) ha (by decide) (by decide) he hpl
theorem se_all (hc : X.calm = true) (hg : Gl X "all") (hm : X.mg "all" = none) (ha : SA G W X (a :: as) ms) (he : starEach (a :: as) X.env = (false, eval a X.env) :: starEach as X.env := by rfl) (hpl : (backTo pos (starEach as X.env)).any (·.1) = false := by rfl) : SE G W X (.Call (.Name "all" p) (a :: as) [] pos) (eOpN allF ms) :=
  se_callB (cr_all hc) (by rw [ha.k]; exact so_all) hg hm (by decide +kernel) ha (by decide) (by decide) he hpl
theorem se_max (hc : X.calm = true) (hg : Gl X "max") (hm : X.mg "max" = none) (ha : SA G W X (a :: as) ms) (he : starEach (a :: as) X.env = (false, eval a X.env) :: starEach as X.env := by rfl) (hpl : (backTo pos (starEach as X.env)).any (·.1) = false := by rfl) : SE G W X (.Call (.Name "max" p) (a :: as) [] pos) (eOpN maxF ms) :=
  se_callB (CallR.or (call_max2 hc) (cr_max hc)) (by rw [ha.k]; exact so_max) hg hm (by decide +kernel) ha (by decide) (by decide) he hpl
theorem se_min (hc : X.calm = true) (hg : Gl X "min") (hm : X.mg "min" = none) (ha : SA G W X (a :: as) ms) (he : starEach (a :: as) X.env = (false, eval a X.env) :: starEach as X.env := by rfl) (hpl : (backTo pos (starEach as X.env)).any (·.1) = false := by rfl) : SE G W X (.Call (.Name "min" p) (a :: as) [] pos) (eOpN minF ms) :=
  se_callB (CallR.or (call_min2 hc) (cr_min hc)) (by rw [ha.k]; exact so_min) hg hm (by decide +kernel) ha (by decide) (by decide) he hpl
theorem se_tuple (hg : Gl X "tuple") (hm : X.mg "tuple" = none) (ha : SA G W X (a :: as) ms) (he : starEach (a :: as) X.env = (false, eval a X.env) :: starEach as X.env := by rfl) (hpl : (backTo pos (starEach as X.env)).any (·.1) = false := by rfl) : SE G W X (.Call (.Name "tuple" p) (a :: as) [] pos) (eOpN tupF ms) :=
  se_callTy call_tupleK (by rw [ha.k]; exact so_tup) hg hm (by decide +kernel) ha (by decide) (by decide) he hpl
theorem se_list (hg : Gl X "list") (hm : X.mg "list" = none) (ha : SA G W X (a :: as) ms) (he : starEach (a :: as) X.env = (false, eval a X.env) :: starEach as X.env := by rfl) (hpl : (backTo pos (starEach as X.env)).any (·.1) = false := by rfl) : SE G W X (.Call (.Name "list" p) (a :: as) [] pos) (eOpN listF ms) :=
  se_callTy call_list_of (by rw [ha.k]; exact so_list) hg hm (by decide +kernel) ha (by decide) (by decide) he hpl
theorem se_intc (hg : Gl X "int") (hm : X.mg "int" = none) (ha : SA G W X (a :: as) ms) (he : starEach (a :: as) X.env = (false, eval a X.env) :: starEach as X.env := by rfl) (hpl : (backTo pos (starEach as X.env)).any (·.1) = false := by rfl) : SE G W X (.Call (.Name "int" p) (a :: as) [] pos) (eOpN intF ms) :=
  se_callTy call_int1 so_int hg hm (by decide +kernel) ha (by decide) (by decide) he hpl
theorem se_isi (hg : Gl X "isinstance") (hm : X.mg "isinstance" = none) (ha : SA G W X (a :: as) ms) (he : starEach (a :: as) X.env = (false, eval a X.env) :: starEach as X.env := by rfl) (hpl : (backTo pos (starEach as X.env)).any (·.1) = false := by rfl) : SE G W X (.Call (.Name "isinstance" p) (a :: as) [] pos) (eOpN isiF ms) :=
  se_callB (CallR.or call_isi call_isiQ) (by rw [ha.k]; exact so_isi) hg hm (by decide +kernel) ha (by decide) (by decide) he hpl
end
end DM

namespace DM
open PySem PySem.Spec L2

theorem bt_int : bootBuiltins "int" = some (.type "int") := by decide +kernel
theorem bt_bool : bootBuiltins "bool" = some (.type "bool") := by decide +kernel
theorem bt_str : bootBuiltins "str" = some (.type "str") := by decide +kernel
theorem bt_tuple : bootBuiltins "tuple" = some (.type "tuple") := by decide +kernel
theorem bt_list : bootBuiltins "list" = some (.type "list") := by decide +kernel

def Cal (G : GT) (P : Program) (w : World) (K : PySem.W.Frag) (mg : Str → Option Value) (base : Heap) (k : Nat) (x : Str) (n : Nat) (m : MF) : Prop :=
  ∃ (f : Addr) (fd : FuncData) (ps : List Str), FnOk P w K mg base (L2.CX P w) k f fd ps (spM G n m) ∧ mg x = some (.ref f) ∧ PySem.W.keepIn K (.ref f) = true ∧ Binds K fd ps []
section
variable {G : GT} {P : Program} {w : World} {K : PySem.W.Frag} {mg : Str → Option Value} {base : Heap} {k n : Nat} {x qual : Str} {st : Stmt} {f : Addr} {fd : FuncData} {ps N : List Str} {m : MF}
theorem cal_mk (F : Fun K x qual st f fd) (hm : mg x = some (.ref f)) (hb : Binds K fd ps []) (h : FnOk P w K mg base (L2.CX P w) k f fd ps (spM G n m)) : Cal G P w K mg base k x n m := ⟨f, fd, ps, h, hm, F.kp, hb⟩
theorem cal_zero (F : Fun K x qual st f fd) (hm : mg x = some (.ref f)) (hb : Binds K fd ps []) (S : FnScope N ps (defScope st)) (e : ps.length = n := by rfl) : Cal G P w K mg base k x n (fun _ _ => .bad) := by
  refine ⟨f, fd, ps, ⟨fun vs H Q E h => h.1.trans e.symm, fun A outer s H args us vs Q E _ _ _ _ h => ?_⟩, hm, F.kp, hb⟩
  obtain ⟨_, _, _, _, _, _, _, h⟩ := h
  exact h.elim
end
section
variable {G : GT} {W : WX} {X : Cx} {e : Expr} {as : List Expr} {ms : List ME} {m : MF} {p pos : Pos} {k n : Nat} {x : Str}
theorem se_callC (tk : Takes X W) (c : Cal G X.prog X.w X.K X.mg X.base k x n m) (hr : Room k X.A) (hg : Gl X x) (ha : SA G W X (e :: as) ms) (hn : ms.length = n := by rfl) (hdb : (x == ("__debug__" : Str)) = false := by decide)
    (he : starEach (e :: as) X.env = (false, eval e X.env) :: starEach as X.env := by rfl) (hpl : (backTo pos (starEach as X.env)).any (·.1) = false := by rfl) : SE G W X (.Call (.Name x p) (e :: as) [] pos) (eCall m ms) := by
  obtain ⟨f, fd, ps, F, hm, hk, hb⟩ := c
  exact se_call tk F hr hg hm hk hb ha hn hdb he hpl
end

def eChain (f g : F2) (a b c : ME) : ME := fun es S => (a es S).bind fun x S1 => (b es S1).bind fun y S2 => match f S2 x.weak y.weak with
  | some (.d (.bl true)) => (c es S2).bind fun z S3 => ofO (g S3 y.weak z.weak) S3
  | some (.d (.bl false)) => .ok (.d (.bl false)) S2
  | _ => .bad
section
variable {G : GT} {W : WX} {X : Cx} {a b c : Expr} {ma mb mc : ME} {pos : Pos}
theorem co_lt : OpR X (compareOp .Lt) (rI0 fun i j => .bl (decide (i < j))) ∧ SO2 G (rI0 fun i j => .bl (decide (i < j))) ltF := ⟨op_lt, so_ii fun _ _ _ _ => .bl _⟩
theorem co_le : OpR X (compareOp .LtE) (rI0 fun i j => .bl (decide (i ≤ j))) ∧ SO2 G (rI0 fun i j => .bl (decide (i ≤ j))) leF := ⟨op_le, so_ii fun _ _ _ _ => .bl _⟩
theorem se_chain {op op' : CmpOp} {r r' : R2} {f g : F2} (ho : OpR X (compareOp op) r ∧ SO2 G r f) (ho' : OpR X (compareOp op') r' ∧ SO2 G r' g) (ha : SE G W X a ma) (hb : SE G W X b mb) (hc : SE G W X c mc)
    (hm : lastMarks [op, op'] [b, c] = false := by with_unfolding_all rfl) : SE G W X (.Compare a [op, op'] [b, c] pos) (eChain f g ma mb mc) := by
  refine ⟨ha.k, PE.of (pe_chain ho.1 ho'.1 ha.pe hb.pe hc.pe hm) fun σ H Q h => ?_⟩
  obtain ⟨P, ρ, es, S, s, q, h⟩ := h
  have nl : ∀ (x y : RV) (S2 : Store) rv S', (match f S2 x.weak y.weak with
      | some (.d (.bl true)) => (mc es S2).bind fun z S3 => ofO (g S3 y.weak z.weak) S3
      | some (.d (.bl false)) => .ok (.d (.bl false)) S2
      | _ => Res.bad) = .ok rv S' → ∀ ds, rv ≠ .l false ds := by
    intro x y S2 rv S' e
    split at e
    · exact bind_rv (fun _ _ => ofO_rv) rv S' e
    · cases e; intro ds z; cases z
    · cases e
  refine rdE_then s q h fun r1 S1 v ρ1 H1 e1 s1 k1 rr h => ?_
  obtain ⟨P1, hp, s1', rr1⟩ := protect s1 rr
  refine rdE_then s1' ((q.next k1).more hp) (Aft.more hp (bind_rv fun y S2 => nl r1 y S2) h) fun r2 S2 w ρ2 H2 e2 s2 k2 rr2 h2 => ?_
  obtain ⟨P2, hp2, s2', rr2'⟩ := protect s2 rr2
  have h3 := Aft.more hp2 (nl r1 r2 S2) h2
  have sub : ∀ a o, P a = some o → P2 a = some o := fun a o z => hp2 a o (hp a o z)
  split at h3
  · rename_i ef
    refine ho.2 P2 ρ2 H2 S2 r1.weak r2.weak v w _ _ s2' (RR.more (RR.weak_mono k2 rr1) hp2) rr2' ef fun u H3 op => ?_
    obtain ⟨gr, ru⟩ := op
    cases ru
    refine ⟨true, rfl, ?_⟩
    show rdE G W mc σ H3 _
    have s3 := s2'.grow gr
    have tk3 : TK ρ2 H2 ρ2 H3 := TK.same gr
    have q3 := (((q.next k1).next k2).next tk3).more sub
    refine rdE_then s3 q3 (Aft.next tk3 h3) fun r4 S4 z ρ4 H4 e4 s4 k4 rr4 h4 => ?_
    obtain ⟨P4, hp4, s4', rr4'⟩ := protect s4 rr4
    cases eg : g S4 r2.weak r4.weak with
    | none => rw [eg] at h4; exact h4.elim
    | some ov =>
      rw [eg] at h4
      exact ho'.2 P4 ρ4 H4 S4 r2.weak r4.weak w z Q ov s4' (RR.more (RR.weak_mono (tk3.trans k4) rr2') hp4) rr4' eg (op_end s4' hp4 h4)
  · rename_i ef
    refine ho.2 P2 ρ2 H2 S2 r1.weak r2.weak v w _ _ s2' (RR.more (RR.weak_mono k2 rr1) hp2) rr2' ef fun u H3 op => ?_
    obtain ⟨gr, ru⟩ := op
    cases ru
    refine ⟨false, rfl, ?_⟩
    show Q (.bl false) H3
    exact h3 (.bl false) ρ2 H3 (s2'.grow gr) (TK.same gr) (.bl false)
  · exact h3.elim
end

def miRev (m : MQ) : MI := fun es S => (m es S).bind fun x S1 => .ok (x.1.reverse, chk x.2 x.1) S1
section
variable {G : GT} {W : WX} {X : Cx} {a b c : Expr} {ma mb mc : ME} {pos : Pos}
theorem sb_cmp {op : CmpOp} {r : R2} {f : Store → RV → RV → Option OV} (ho : OpR X (compareOp op) r) (hs : SO2 G r f) (ha : SE G W X a ma) (hb : SE G W X b mb) (hm : behindInMarks op b = false) : SB G W X (.Compare a [op] [b] pos) (bOf (eOp2 f ma mb)) :=
  ⟨ha.k, PT.of (pt_cmpR ho ha.pe hb.pe hm) fun _ _ _ h => op2_core hs (rd_bOf h fun b H1 q => ⟨b, rfl, q⟩)⟩
theorem sb_lt (ha : SE G W X a ma) (hb : SE G W X b mb) : SB G W X (.Compare a [.Lt] [b] pos) (bOf (eOp2 ltF ma mb)) := sb_cmp op_lt (so_ii fun _ _ _ _ => .bl _) ha hb (nomark _)
theorem sb_gt (ha : SE G W X a ma) (hb : SE G W X b mb) : SB G W X (.Compare a [.Gt] [b] pos) (bOf (eOp2 gtF ma mb)) := sb_cmp op_gt (so_ii fun _ _ _ _ => .bl _) ha hb (nomark _)
theorem sb_ge (ha : SE G W X a ma) (hb : SE G W X b mb) : SB G W X (.Compare a [.GtE] [b] pos) (bOf (eOp2 geF ma mb)) := sb_cmp op_ge (so_ii fun _ _ _ _ => .bl _) ha hb (nomark _)
theorem sb_eq (hu : X.A.units + 64 < cLine) (ha : SE G W X a ma) (hb : SE G W X b mb) : SB G W X (.Compare a [.Eq] [b] pos) (bOf (eOp2 eqF ma mb)) := sb_cmp (op_eqD hu) (by rw [ha.k]; exact so_eq) ha hb (nomark _)
theorem sb_ne (hu : X.A.units + 64 < cLine) (ha : SE G W X a ma) (hb : SE G W X b mb) : SB G W X (.Compare a [.NotEq] [b] pos) (bOf (eOp2 neF ma mb)) := sb_cmp (op_neD hu) (by rw [ha.k]; exact so_ne) ha hb (nomark _)
theorem sb_is (ha : SE G W X a ma) (hb : SE G W X b mb) : SB G W X (.Compare a [.Is] [b] pos) (bOf (eOp2 isF ma mb)) := sb_cmp op_isN so_is ha hb (nomark _)
end
end DM

namespace DM
open PySem PySem.Spec L2

theorem scr_of {K : PySem.W.Frag} {H : Hp} {a : Addr} {ns : List Int} (hO : Only H) (h : SqL K H a (ns.map V.int)) : ScrAt K H a ns := by
  rcases h with h | h
  · rcases h with h | ⟨o, h⟩
    · rcases hO a with z | ⟨o, xs, z⟩
      · rw [z] at h; cases h
      · rw [z] at h; cases h
    · exact .inl ⟨o, h⟩
  · exact .inr fun H' => .inr h
theorem law_sp {G : GT} {m : MF} {H : Hp} {a : Addr} {ns : List Int} (hO : Only H) (h : SqL G.K H a (ns.map V.int)) (hm : ∃ S', m [.d (.scr ns)] [] = .ok (.d (.bl true)) S') : spM G 1 m [.ref a] H (fun v _ => v = .bl true) fun _ _ _ => False := by
  obtain ⟨S', e⟩ := hm
  refine ⟨rfl, fun _ => none, [], [.d (.scr ns)], [], ⟨rfl, List.nodup_nil, fun n a o h => by simp at h, fun a o h => by cases h⟩, .cons (.scr (scr_of hO h)) .nil, ?_⟩
  rw [e]
  intro v ρ' H' s t r
  cases r
  rfl
theorem noCX {P : Program} {w : World} {H : Hp} {s : Shared} {e : Value} {s' : Shared} : L2.CX P w [] H s (fun _ _ _ => False) e s' → False := by
  intro ⟨_, _, _, _, _, _, _, _, _, _, _, _, h⟩
  exact h
end DM

namespace DM
open PySem PySem.Spec L2

theorem Room.u65 {k : Nat} {A : Around} (r : Room k A) : A.units + 65 < cLine := by have := r.un; omega
structure RaiseF (K : PySem.W.Frag) (mg : Str → Option Value) (cl : List Addr) (n : Nat) (x : Str) : Prop where
  ex : ∃ C, cl[n]? = some C ∧ mg x = some (.ref C) ∧ PySem.W.keepIn K (.ref C) = true ∧ PySem.W.excIn K C [.type "ValueError", .type "Exception", .type "BaseException", .type "object"] "ValueError.__new__" = true ∧
    PySem.W.subIn K (.ref C) (.type "BaseException") = some true ∧ PySem.W.typeIn K (.ref C) = some (.type "type")
def sRaise (c : Nat) : MS := fun es S => .ex c [] es S
section
variable {G : GT} {W : WX} {X : Cx} {x m : Str} {n j : Nat} {p p2 pos pos2 : Pos}
end
def sTry (n y : Nat) (b : MS) : MS := fun es S => match b es S with
  | .ex c [] es' S' => .nx ((es'.set y (.v (.exn c []))).set n .no) S'
  | .ex c [d] es' S' => .nx ((es'.set y (.v (.exn c [d]))).set n .no) S'
  | .ex _ _ _ _ => .bad
  | r => r
theorem SS.grow {G : GT} {P : Hp} {ρ : List Addr} {H H' : Hp} {σ : St} {es : Env} (q : SS G P ρ H σ es) (g : ∀ a o, H a = some o → H' a = some o) : SS G P ρ H' σ es := by
  have k : TK ρ H ρ H' := TK.same g
  refine ⟨q.len, fun i d e => ?_, fun i ds e => ?_, fun i ds e => ?_, q.dis⟩
  · obtain ⟨x, h1, h2⟩ := q.val i d e
    exact ⟨x, h1, h2.mono k⟩
  · obtain ⟨a, vs, h1, h2, h3⟩ := q.bor i ds e
    exact ⟨a, vs, h1, h2, h3.mono k⟩
  · obtain ⟨a, vs, h1, h2, h3, h4⟩ := q.own i ds e
    exact ⟨a, vs, h1, g _ _ h2, h3.mono k, h4⟩
def subX (c k : Nat) : Bool := k == c || k == 0
structure KinF (K : PySem.W.Frag) (cl : List Addr) : Prop where
  exc : ∀ (c : Nat) (C : Addr), 1 ≤ c → c ≤ 6 → cl[c]? = some C → ExcC K C
  kin : ∀ (c k : Nat) (C D : Addr), 1 ≤ c → c ≤ 6 → k ≤ 6 → cl[c]? = some C → cl[k]? = some D → PySem.W.kitOne K (.ref C) (.ref D) = some (subX c k)
  val : ∀ (c : Nat) (C : Addr), 1 ≤ c → c ≤ 6 → cl[c]? = some C → PySem.W.kitOne K (.ref C) (.type "ValueError") = some true
end DM
namespace L2
open PySem PySem.Spec PyProof.Rows
end L2
namespace DM
open PySem PySem.Spec L2
def isxF : FN := fun _ rs => match rs with
  | [.d (.exn c []), .d (.cls k)] => if 1 ≤ c ∧ c ≤ 5 ∧ k ≤ 6 then some (.d (.bl (subX c k))) else none
  | [.d (.exn c []), .d (.ty n)] => if 1 ≤ c ∧ c ≤ 5 ∧ n = "ValueError" then some (.d (.bl true)) else none
  | [.d (.exn c [_]), .d (.cls k)] => if c = 6 ∧ k ≤ 6 then some (.d (.bl (subX c k))) else none
  | [.d (.exn c [_]), .d (.ty n)] => if c = 6 ∧ n = "ValueError" then some (.d (.bl true)) else none
  | _ => none
def eCallL (i : Nat) (tbl : Nat → MF) (ms : List ME) : ME := fun es S => match es[i]? with
  | some (.v (.fn n)) => eCall (tbl n) ms es S
  | _ => .bad
theorem Cal.mono {G : GT} {P : Program} {w : World} {K : PySem.W.Frag} {mg : Str → Option Value} {base : Heap} {j k n : Nat} {x : Str} {m : MF} (h : Cal G P w K mg base j x n m) (hk : j ≤ k) : Cal G P w K mg base k x n m := by
  obtain ⟨f, fd, ps, F, z⟩ := h
  exact ⟨f, fd, ps, F.mono hk, z⟩
section
variable {G : GT} {W : WX} {X : Cx} {e : Expr} {as : List Expr} {ms : List ME} {p pos : Pos} {k i : Nat} {x : Str} {tbl : Nat → MF}
end
section
variable {G : GT} {W : WX} {X : Cx} {x : Str} {n : Nat} {pos : Pos}
end
end DM

namespace L2
open PySem PySem.Spec PyProof.Rows
section
variable {X : Cx}
def rNotInT (K : PySem.W.Frag) : R2 := fun x y H Q => ∃ d ds, Dp K H x d ∧ Dp K H y (.tuple ds) ∧ SeqAt.shaped d = true ∧ SeqAt.shaped (.tuple ds) = true ∧ Q (.bl (!ds.any fun z => PyData.eqv z d)) H
theorem room_tup {d : PyData} {ds : List PyData} {A : Around} (h : SeqAt.shaped d = true) (hu : A.units + 65 < cLine) : A.units + 1 + min (PyData.depthAll ds) d.depth < cLine := by
  have h1 := SeqAt.depth_of_shaped h
  have h2 : min (PyData.depthAll ds) d.depth ≤ d.depth := Nat.min_le_right _ _
  omega
theorem op_notInT (hu : X.A.units + 65 < cLine) : OpR X (compareOp .NotIn) (rNotInT X.K) := by
  intro pins s σ H x y v u Q I rx ry h
  obtain ⟨d, ds, hd, he, sd, se, q⟩ := h
  obtain ⟨as, r1⟩ := Dp.reads I d x v hd rx
  obtain ⟨bs, r2⟩ := Dp.reads I (.tuple ds) y u he ry
  exact SeqAt.notIn_tuple_reads r2 r1 (SeqAt.canLay_of_shaped se) (SeqAt.canLay_of_shaped sd) (room_tup sd hu) ⟨.bl _, H, I, rfl, q⟩
end
end L2
namespace DM
open PySem PySem.Spec L2
def inAny (p q : PyData) : Option Bool := match q with
  | .list ds => if SeqAt.shaped p = true ∧ SeqAt.shaped q = true then some (ds.any fun z => PyData.eqv z p) else none
  | .tuple ds => if SeqAt.shaped p = true ∧ SeqAt.shaped q = true then some (ds.any fun z => PyData.eqv z p) else none
  | _ => none
def inD (S : Store) (a b : RV) : Option Bool := match a, b with
  | .d (.str i), .d (.str j) => some (!(Builtin.Str.occurrences j i 0 j.length 1).isEmpty)
  | a, b => match pyR S a, pyR S b with
    | some p, some q => inAny p q
    | _, _ => none
def inF : F2 := fun S a b => (inD S a b).map fun k => .d (.bl k)
def notinF : F2 := fun S a b => (inD S a b).map fun k => .d (.bl (!k))
theorem in_cases {G : GT} {P : Hp} {ρ : List Addr} {H : Hp} {S : Store} {r1 r2 : RV} {x y : V} {k : Bool} (s : VS G P ρ H S) (h1 : RR G P ρ H r1 x) (h2 : RR G P ρ H r2 y) (e : inD S r1 r2 = some k) :
    (∃ i j, x = .str i ∧ y = .str j ∧ k = !(Builtin.Str.occurrences j i 0 j.length 1).isEmpty) ∨ (∃ d ds, Dp G.K H x d ∧ Dp G.K H y (.list ds) ∧ SeqAt.shaped d = true ∧ SeqAt.shaped (.list ds) = true ∧ k = ds.any fun z => PyData.eqv z d) ∨
      (∃ d ds, Dp G.K H x d ∧ Dp G.K H y (.tuple ds) ∧ SeqAt.shaped d = true ∧ SeqAt.shaped (.tuple ds) = true ∧ k = ds.any fun z => PyData.eqv z d) := by
  unfold inD at e
  split at e
  · rename_i i j
    cases e
    cases h1
    cases h2
    exact .inl ⟨i, j, rfl, rfl, rfl⟩
  · split at e
    · rename_i p q e1 e2
      have d1 := dpR_of s h1 e1
      have d2 := dpR_of s h2 e2
      unfold inAny at e
      split at e
      · rename_i ds
        split at e
        · rename_i hc
          cases e
          exact .inr (.inl ⟨p, ds, d1, d2, hc.1, hc.2, rfl⟩)
        · cases e
      · rename_i ds
        split at e
        · rename_i hc
          cases e
          exact .inr (.inr ⟨p, ds, d1, d2, hc.1, hc.2, rfl⟩)
        · cases e
      · cases e
    · cases e
theorem so_notin {G : GT} : SO2 G (fun x y H Q => (∃ i j, x = .str i ∧ y = .str j ∧ Q (.bl (!(!(Builtin.Str.occurrences j i 0 j.length 1).isEmpty))) H) ∨ (rNotInD G.K x y H Q ∨ rNotInT G.K x y H Q)) notinF := by
  intro P ρ H S r1 r2 x y Q ov s h1 h2 e k
  unfold notinF at e
  cases z : inD S r1 r2 with
  | none => rw [z] at e; cases e
  | some b =>
    rw [z] at e
    cases e
    rcases in_cases s h1 h2 z with ⟨i, j, e1, e2, e3⟩ | ⟨d, ds, d1, d2, s1, s2, e3⟩ | ⟨d, ds, d1, d2, s1, s2, e3⟩
    · exact .inl ⟨i, j, e1, e2, e3 ▸ op_d k (.bl _)⟩
    · exact .inr (.inl ⟨d, ds, d1, d2, s1, s2, e3 ▸ op_d k (.bl _)⟩)
    · exact .inr (.inr ⟨d, ds, d1, d2, s1, s2, e3 ▸ op_d k (.bl _)⟩)
section
variable {G : GT} {W : WX} {X : Cx} {a b c : Expr} {ma mb mc : ME} {pos : Pos} {k : Nat}
theorem sb_notin (hr : Room k X.A) (ha : SE G W X a ma) (hb : SE G W X b mb) (hm : behindInMarks .NotIn b = false := by with_unfolding_all rfl) : SB G W X (.Compare a [.NotIn] [b] pos) (bOf (eOp2 notinF ma mb)) :=
  sb_cmp (OpR.or op_notIn_str (OpR.or (op_notInD (Room.u65 hr)) (op_notInT (Room.u65 hr)))) (by rw [ha.k]; exact so_notin) ha hb hm
end
abbrev FM := Store → RV → List RV → Option OV
def tyF (T : String) (S : Store) (x : RV) : Bool := match x with
  | .d (.str _) => T == "str"
  | .d (.int _) => T == "int"
  | x => T == "list" && (lstOf S x).isSome
open Classical in
noncomputable def eMt (T : String) (f : FM) (o : ME) (ms : List ME) : ME := fun es S => (o es S).bind fun x S1 => if tyF T S1 x.weak = true then (eArgs ms es S1).bind fun xs S2 => ofO (f S2 x.weak xs) S2 else .bad
section
variable {G : GT} {W : WX} {X : Cx} {o e : Expr} {as : List Expr} {mo : ME} {ms : List ME} {name : Str} {apos cpos : Pos} {T id : String} {r : V → List V → Hp → VK → Prop} {f : FM}
end
def cntF : FM := fun S x xs => match xs with
  | [y] => match pyR S x, pyR S y with
    | some (.list ds), some d => if SeqAt.shaped (.list ds) = true ∧ SeqAt.shaped d = true then some (.d (.int (ds.countP fun z => PyData.eqv z d : Nat))) else none
    | _, _ => none
  | _ => none
def idxF : FM := fun S x xs => match xs with
  | [y] => match pyR S x, pyR S y with
    | some (.list ds), some d => if SeqAt.shaped (.list ds) = true ∧ SeqAt.shaped d = true then (ds.findIdx? fun z => PyData.eqv z d).map fun j => .d (.int (j : Nat)) else none
    | _, _ => none
  | _ => none
section
variable {G : GT} {W : WX} {X : Cx} {o e : Expr} {as : List Expr} {mo : ME} {ms : List ME} {apos cpos : Pos} {k : Nat}
end
end DM

namespace DM
open PySem PySem.Spec L2

theorem nr {T : Sort _} {a b : T} (h : a = b) : a = b := h
abbrev QX := Nat → List D → Store → Prop
def WR {T : Type} (r : Res T) (Q : T → Store → Prop) (X : QX) : Prop := match r with
  | .ok a S => Q a S
  | .ex c p S => X c p S
  | .bad => False
structure En where
  nx : Env → Store → Prop
  rt : RV → Store → Prop
  bk : Env → Store → Prop
  ct : Env → Store → Prop
  ex : Nat → List D → Env → Store → Prop
def WS (r : SR) (E : En) : Prop := match r with
  | .nx es S => E.nx es S
  | .rt r S => E.rt r S
  | .bk es S => E.bk es S
  | .ct es S => E.ct es S
  | .ex c p es S => E.ex c p es S
  | .bad => False
def QO (o : Option OV) (S : Store) (Q : RV → Store → Prop) : Prop := match o with
  | some ov => Q ov.rv S
  | none => False
def QV (o : Option Slot) (S : Store) (Q : RV → Store → Prop) : Prop := match o with
  | some (.v x) => Q (.d x) S
  | some (.own ds) => Q (.l false ds) S
  | some (.bor ds) => Q (.l false ds) S
  | _ => False
def QI (r : RV) (S : Store) (Q : D → Store → Prop) : Prop := match r with
  | .d x => Q x S
  | .l true ds => Q (.loc S.length) (S ++ [.lst ds])
  | .l false _ => False
def QA (o : Option D) (S : Store) (Q : RV → Store → Prop) : Prop := match o with
  | some d => Q (.d d) S
  | none => False
theorem WR_bind {T U : Type} {r : Res T} {f : T → Store → Res U} {Q : U → Store → Prop} {X : QX} : WR (r.bind f) Q X = WR r (fun a S => WR (f a S) Q X) X := by cases r <;> rfl
theorem WR_mono {T : Type} {r : Res T} {Q Q' : T → Store → Prop} {X X' : QX} (h : WR r Q X) (hq : ∀ a S, Q a S → Q' a S) (hx : ∀ c p S, X c p S → X' c p S) : WR r Q' X' := by
  cases r with
  | ok a S => exact hq _ _ h
  | ex c p S => exact hx _ _ _ h
  | bad => exact h.elim
theorem WR_ofO {o : Option OV} {S : Store} {Q : RV → Store → Prop} {X : QX} : WR (ofO o S) Q X = QO o S Q := by cases o <;> rfl
theorem WR_item {r : RV} {S : Store} {Q : D → Store → Prop} {X : QX} : WR (item r S) Q X = QI r S Q := by
  cases r with
  | d x => rfl
  | l f ds => cases f <;> rfl
theorem WS_bindS {T : Type} {r : Res T} {es : Env} {f : T → Store → SR} {E : En} : WS (bindS r es f) E = WR r (fun a S => WS (f a S) E) (fun c p S => E.ex c p es S) := by cases r <;> rfl
theorem QV_v {x : D} {S : Store} {Q : RV → Store → Prop} : QV (some (.v x)) S Q = Q (.d x) S := nr rfl
theorem QV_own {x : List D} {S : Store} {Q : RV → Store → Prop} : QV (some (.own x)) S Q = Q (.l false x) S := nr rfl
theorem QV_bor {x : List D} {S : Store} {Q : RV → Store → Prop} : QV (some (.bor x)) S Q = Q (.l false x) S := nr rfl
theorem QI_d {x : D} {S : Store} {Q : D → Store → Prop} : QI (.d x) S Q = Q x S := nr rfl
theorem QI_l {ds : List D} {S : Store} {Q : D → Store → Prop} : QI (.l true ds) S Q = Q (.loc S.length) (S ++ [.lst ds]) := nr rfl
theorem QO_d {x : D} {S : Store} {Q : RV → Store → Prop} : QO (some (.d x)) S Q = Q (.d x) S := nr rfl
theorem QO_l {x : List D} {S : Store} {Q : RV → Store → Prop} : QO (some (.l x)) S Q = Q (.l true x) S := nr rfl
theorem QO_ite {c : Prop} [Decidable c] {o : OV} {S : Store} {Q : RV → Store → Prop} : QO (if c then some o else none) S Q = (c ∧ QO (some o) S Q) := by
  by_cases h : c
  · rw [if_pos h]; exact propext ⟨fun q => ⟨h, q⟩, fun q => q.2⟩
  · rw [if_neg h]; exact propext ⟨fun q => q.elim, fun q => (h q.1).elim⟩
theorem QO_A {o : Option D} {S : Store} {Q : RV → Store → Prop} : QO (o.map OV.d) S Q = QA o S Q := by cases o <;> rfl
theorem QA_s {d : D} {S : Store} {Q : RV → Store → Prop} : QA (some d) S Q = Q (.d d) S := nr rfl

section
variable {es : Env} {S : Store} {Q : RV → Store → Prop} {X : QX} {a b c m : ME} {ms : List ME} {f : F2} {g : F1} {h : FN} {t : MB}
theorem w_C {x : D} : WR (eC x es S) Q X = Q (.d x) S := nr rfl
theorem w_var {i : Nat} : WR (eVar i es S) Q X = QV es[i]? S Q := by
  unfold eVar QV
  cases es[i]? with
  | none => rfl
  | some s => cases s <;> rfl
def kA2 (f : F2) (b : ME) (es : Env) (Q : RV → Store → Prop) (X : QX) (x : RV) (S : Store) : Prop := WR (b es S) (fun y S2 => QO (f S2 x.weak y.weak) S2 Q) X
def kB2 (f : F2) (x : RV) (Q : RV → Store → Prop) (y : RV) (S : Store) : Prop := QO (f S x.weak y.weak) S Q
theorem kA2_e {x : RV} : kA2 f b es Q X x S = WR (b es S) (kB2 f x Q) X := nr rfl
theorem kB2_dd {x y : D} : kB2 f (.d x) Q (.d y) S = QO (f S (.d x) (.d y)) S Q := nr rfl
theorem kB2_ld {p : Bool} {x : List D} {y : D} : kB2 f (.l p x) Q (.d y) S = QO (f S (.l false x) (.d y)) S Q := nr rfl
theorem kB2_dl {p : Bool} {y : List D} {x : D} : kB2 f (.d x) Q (.l p y) S = QO (f S (.d x) (.l false y)) S Q := nr rfl
theorem kB2_ll {p q : Bool} {x y : List D} : kB2 f (.l p x) Q (.l q y) S = QO (f S (.l false x) (.l false y)) S Q := nr rfl
theorem w_op2 : WR (eOp2 f a b es S) Q X = WR (a es S) (kA2 f b es Q X) X := by
  unfold eOp2 kA2
  simp only [WR_bind, WR_ofO]
def kA1 (g : F1) (Q : RV → Store → Prop) (x : RV) (S : Store) : Prop := QO (g S x.weak) S Q
theorem kA1_d {x : D} : kA1 g Q (.d x) S = QO (g S (.d x)) S Q := nr rfl
theorem w_op1 : WR (eOp1 g a es S) Q X = WR (a es S) (kA1 g Q) X := by
  unfold eOp1 kA1
  simp only [WR_bind, WR_ofO]
def kArg2 (r : RV) (Q : List RV → Store → Prop) (rs : List RV) (S : Store) : Prop := Q (r.weak :: rs) S
def kArg (ms : List ME) (es : Env) (Q : List RV → Store → Prop) (X : QX) (r : RV) (S : Store) : Prop := WR (eArgs ms es S) (kArg2 r Q) X
theorem kArg_e {Q : List RV → Store → Prop} {r : RV} : kArg ms es Q X r S = WR (eArgs ms es S) (kArg2 r Q) X := nr rfl
theorem kArg2_d {Q : List RV → Store → Prop} {x : D} {rs : List RV} : kArg2 (.d x) Q rs S = Q (.d x :: rs) S := nr rfl
theorem kArg2_l {Q : List RV → Store → Prop} {p : Bool} {x : List D} {rs : List RV} : kArg2 (.l p x) Q rs S = Q (.l false x :: rs) S := nr rfl
theorem w_args0 {Q : List RV → Store → Prop} : WR (eArgs [] es S) Q X = Q [] S := nr rfl
theorem w_args {Q : List RV → Store → Prop} : WR (eArgs (m :: ms) es S) Q X = WR (m es S) (kArg ms es Q X) X := by
  show WR ((m es S).bind _) Q X = _
  simp only [WR_bind]
  rfl
def kOpN (h : FN) (Q : RV → Store → Prop) (rs : List RV) (S : Store) : Prop := QO (h S rs) S Q
theorem kOpN_e {rs : List RV} : kOpN h Q rs S = QO (h S rs) S Q := nr rfl
theorem w_opN : WR (eOpN h ms es S) Q X = WR (eArgs ms es S) (kOpN h Q) X := by
  unfold eOpN kOpN
  simp only [WR_bind, WR_ofO]
def kIt3 (d : D) (Q : List D → Store → Prop) (ds : List D) (S : Store) : Prop := Q (d :: ds) S
def kIt2 (ms : List ME) (es : Env) (Q : List D → Store → Prop) (X : QX) (d : D) (S : Store) : Prop := WR (eItems ms es S) (kIt3 d Q) X
def kIt (ms : List ME) (es : Env) (Q : List D → Store → Prop) (X : QX) (r : RV) (S : Store) : Prop := QI r S (kIt2 ms es Q X)
theorem kIt_e {Q : List D → Store → Prop} {r : RV} : kIt ms es Q X r S = QI r S (kIt2 ms es Q X) := nr rfl
theorem kIt2_e {Q : List D → Store → Prop} {d : D} : kIt2 ms es Q X d S = WR (eItems ms es S) (kIt3 d Q) X := nr rfl
theorem kIt3_e {Q : List D → Store → Prop} {d : D} {ds : List D} : kIt3 d Q ds S = Q (d :: ds) S := nr rfl
theorem w_items0 {Q : List D → Store → Prop} : WR (eItems [] es S) Q X = Q [] S := nr rfl
theorem w_items {Q : List D → Store → Prop} : WR (eItems (m :: ms) es S) Q X = WR (m es S) (kIt ms es Q X) X := by
  show WR (((m es S).bind item).bind _) Q X = _
  simp only [WR_bind, WR_item]
  rfl
def kTup (Q : RV → Store → Prop) (ds : List D) (S : Store) : Prop := ds.length ≤ sizeLine ∧ Q (.d (.tup ds)) S
def kLst (Q : RV → Store → Prop) (ds : List D) (S : Store) : Prop := ds.length ≤ sizeLine ∧ Q (.l true ds) S
theorem kTup_e {ds : List D} : kTup Q ds S = (ds.length ≤ sizeLine ∧ Q (.d (.tup ds)) S) := nr rfl
theorem kLst_e {ds : List D} : kLst Q ds S = (ds.length ≤ sizeLine ∧ Q (.l true ds) S) := nr rfl
theorem WR_ite {T : Type} {c : Prop} {hc : Decidable c} {r : Res T} {Q : T → Store → Prop} : WR (@ite _ c hc r .bad) Q X = (c ∧ WR r Q X) := by
  by_cases h : c
  · rw [if_pos h]; exact propext ⟨fun q => ⟨h, q⟩, fun q => q.2⟩
  · rw [if_neg h]; exact propext ⟨fun q => q.elim, fun q => (h q.1).elim⟩
theorem w_tup : WR (eTup ms es S) Q X = WR (eItems ms es S) (kTup Q) X := by
  unfold eTup kTup
  simp only [WR_bind, WR_ite]
  rfl
theorem w_lst : WR (eLst ms es S) Q X = WR (eItems ms es S) (kLst Q) X := by
  unfold eLst kLst
  simp only [WR_bind, WR_ite]
  rfl
def kB (Q : Bool → Store → Prop) (r : RV) (S : Store) : Prop := match r with
  | .d (.bl b) => Q b S
  | _ => False
theorem kB_e {Q : Bool → Store → Prop} {b : Bool} : kB Q (.d (.bl b)) S = Q b S := nr rfl
theorem w_bOf {Q : Bool → Store → Prop} : WR (bOf m es S) Q X = WR (m es S) (kB Q) X := by
  unfold bOf kB
  simp only [WR_bind]
  congr 1
  funext r S1
  cases r with
  | l _ _ => rfl
  | d x => cases x <;> rfl
def kAnd (t : MB) (es : Env) (Q : Bool → Store → Prop) (X : QX) (x : Bool) (S : Store) : Prop := if x = true then WR (t es S) Q X else Q false S
def kOr (t : MB) (es : Env) (Q : Bool → Store → Prop) (X : QX) (x : Bool) (S : Store) : Prop := if x = true then Q true S else WR (t es S) Q X
def kNot (Q : Bool → Store → Prop) (x : Bool) (S : Store) : Prop := Q (!x) S
theorem kAnd_t {Q : Bool → Store → Prop} : kAnd t es Q X true S = WR (t es S) Q X := nr rfl
theorem kAnd_f {Q : Bool → Store → Prop} : kAnd t es Q X false S = Q false S := nr rfl
theorem kOr_t {Q : Bool → Store → Prop} : kOr t es Q X true S = Q true S := nr rfl
theorem kOr_f {Q : Bool → Store → Prop} : kOr t es Q X false S = WR (t es S) Q X := nr rfl
theorem kNot_e {Q : Bool → Store → Prop} {x : Bool} : kNot Q x S = Q (!x) S := nr rfl
theorem w_bAnd {t u : MB} {Q : Bool → Store → Prop} : WR (bAnd t u es S) Q X = WR (t es S) (kAnd u es Q X) X := by
  unfold bAnd kAnd
  simp only [WR_bind]
  congr 1
  funext x S1
  cases x <;> rfl
theorem w_bOr {t u : MB} {Q : Bool → Store → Prop} : WR (bOr t u es S) Q X = WR (t es S) (kOr u es Q X) X := by
  unfold bOr kOr
  simp only [WR_bind]
  congr 1
  funext x S1
  cases x <;> rfl
theorem w_bNot {Q : Bool → Store → Prop} : WR (bNot t es S) Q X = WR (t es S) (kNot Q) X := by
  unfold bNot kNot
  simp only [WR_bind]
  rfl
theorem w_bYes {Q : Bool → Store → Prop} : WR (bYes es S) Q X = Q true S := nr rfl
theorem kAnd_br {Q : Bool → Store → Prop} {x : Bool} (h1 : x = true → WR (t es S) Q X) (h2 : x = false → Q false S) : kAnd t es Q X x S := by
  cases x with
  | true => exact h1 rfl
  | false => exact h2 rfl
def kEAnd (b : ME) (es : Env) (Q : RV → Store → Prop) (X : QX) (x : Bool) (S : Store) : Prop := if x = true then WR (b es S) Q X else Q (.d (.bl false)) S
def kEOr (b : ME) (es : Env) (Q : RV → Store → Prop) (X : QX) (x : Bool) (S : Store) : Prop := if x = true then Q (.d (.bl true)) S else WR (b es S) Q X
def kENot (Q : RV → Store → Prop) (x : Bool) (S : Store) : Prop := Q (.d (.bl (!x))) S
theorem kEAnd_t : kEAnd b es Q X true S = WR (b es S) Q X := nr rfl
theorem kEAnd_f : kEAnd b es Q X false S = Q (.d (.bl false)) S := nr rfl
theorem kEOr_t : kEOr b es Q X true S = Q (.d (.bl true)) S := nr rfl
theorem kEOr_f : kEOr b es Q X false S = WR (b es S) Q X := nr rfl
theorem kENot_e {x : Bool} : kENot Q x S = Q (.d (.bl (!x))) S := nr rfl
theorem kEAnd_br {x : Bool} (h1 : x = true → WR (b es S) Q X) (h2 : x = false → Q (.d (.bl false)) S) : kEAnd b es Q X x S := by
  cases x with
  | true => exact h1 rfl
  | false => exact h2 rfl
theorem w_eAnd : WR (eAnd a b es S) Q X = WR (a es S) (kB (kEAnd b es Q X)) X := by
  unfold eAnd kB
  simp only [WR_bind]
  congr 1
  funext r S1
  split
  · rfl
  · rfl
  · rename_i h1 h2
    split
    · rename_i b
      cases b
      · exact absurd rfl h2
      · exact absurd rfl h1
    · rfl
theorem w_eOr : WR (eOr a b es S) Q X = WR (a es S) (kB (kEOr b es Q X)) X := by
  unfold eOr kB
  simp only [WR_bind]
  congr 1
  funext r S1
  split
  · rfl
  · rfl
  · rename_i h1 h2
    split
    · rename_i b
      cases b
      · exact absurd rfl h1
      · exact absurd rfl h2
    · rfl
theorem w_eNot : WR (eNot a es S) Q X = WR (a es S) (kB (kENot Q)) X := by
  unfold eNot kB
  simp only [WR_bind]
  congr 1
  funext r S1
  cases r with
  | l _ _ => rfl
  | d x => cases x <;> rfl
def kEIf (a b : ME) (es : Env) (Q : RV → Store → Prop) (X : QX) (x : Bool) (S : Store) : Prop := if x = true then WR (a es S) Q X else WR (b es S) Q X
theorem kEIf_t : kEIf a b es Q X true S = WR (a es S) Q X := nr rfl
theorem kEIf_f : kEIf a b es Q X false S = WR (b es S) Q X := nr rfl
theorem kEIf_br {x : Bool} (h1 : x = true → WR (a es S) Q X) (h2 : x = false → WR (b es S) Q X) : kEIf a b es Q X x S := by
  cases x with
  | true => exact h1 rfl
  | false => exact h2 rfl
theorem w_eIf : WR (eIf t a b es S) Q X = WR (t es S) (kEIf a b es Q X) X := by
  unfold eIf kEIf
  simp only [WR_bind]
  congr 1
  funext x S1
  cases x <;> rfl
def kCall (m : MF) (Q : RV → Store → Prop) (X : QX) (rs : List RV) (S : Store) : Prop := WR (okR (m rs S)) Q X
theorem kCall_e {m : MF} {rs : List RV} : kCall m Q X rs S = WR (okR (m rs S)) Q X := nr rfl
theorem w_call {m : MF} : WR (eCall m ms es S) Q X = WR (eArgs ms es S) (kCall m Q X) X := by
  unfold eCall kCall
  simp only [WR_bind]
theorem okR_d {x : D} : WR (okR (.ok (.d x) S)) Q X = Q (.d x) S := nr rfl
theorem okR_l {x : List D} : WR (okR (.ok (.l true x) S)) Q X = Q (.l true x) S := nr rfl
theorem okR_ex {n : Nat} {p : List D} : WR (okR (.ex n p S)) Q X = X n p S := nr rfl
def kPart2 (f : Option Int → Store → Prop) (r : RV) (S : Store) : Prop := match r with
  | .d (.int i) => f (some i) S
  | _ => False
theorem kPart2_e {f : Option Int → Store → Prop} {i : Int} : kPart2 f (.d (.int i)) S = f (some i) S := nr rfl
theorem w_part0 {Q : Option Int → Store → Prop} : WR (ePart none es S) Q X = Q none S := nr rfl
theorem w_part {Q : Option Int → Store → Prop} : WR (ePart (some m) es S) Q X = WR (m es S) (kPart2 Q) X := by
  unfold ePart kPart2
  simp only [WR_bind]
  congr 1
  funext r S1
  cases r with
  | l _ _ => rfl
  | d x => cases x <;> rfl
def kSl3 (r : RV) (lo : Option Int) (Q : RV → Store → Prop) (hi : Option Int) (S : Store) : Prop := QO (slF S r.weak lo hi) S Q
def kSl2 (r : RV) (hi : Option ME) (es : Env) (Q : RV → Store → Prop) (X : QX) (lo : Option Int) (S : Store) : Prop := WR (ePart hi es S) (kSl3 r lo Q) X
def kSl (lo hi : Option ME) (es : Env) (Q : RV → Store → Prop) (X : QX) (r : RV) (S : Store) : Prop := WR (ePart lo es S) (kSl2 r hi es Q X) X
theorem kSl3_d {x : D} {lo hi : Option Int} : kSl3 (.d x) lo Q hi S = QO (slF S (.d x) lo hi) S Q := nr rfl
theorem kSl3_l {p : Bool} {x : List D} {lo hi : Option Int} : kSl3 (.l p x) lo Q hi S = QO (slF S (.l false x) lo hi) S Q := nr rfl
theorem kSl2_e {r : RV} {hi : Option ME} {lo : Option Int} : kSl2 r hi es Q X lo S = WR (ePart hi es S) (kSl3 r lo Q) X := nr rfl
theorem kSl_e {r : RV} {lo hi : Option ME} : kSl lo hi es Q X r S = WR (ePart lo es S) (kSl2 r hi es Q X) X := nr rfl
theorem w_sl {lo hi : Option ME} : WR (eSl lo hi m es S) Q X = WR (m es S) (kSl lo hi es Q X) X := by
  unfold eSl kSl kSl2 kSl3
  simp only [WR_bind, WR_ofO]
def kCh2 (g : F2) (c : ME) (y : RV) (es : Env) (Q : RV → Store → Prop) (X : QX) (x : Bool) (S : Store) : Prop := if x = true then WR (c es S) (kB2 g y Q) X else Q (.d (.bl false)) S
def kCh1 (f g : F2) (c : ME) (x : RV) (es : Env) (Q : RV → Store → Prop) (X : QX) (y : RV) (S : Store) : Prop := kB2 f x (kB (kCh2 g c y es Q X)) y S
def kCh (f g : F2) (b c : ME) (es : Env) (Q : RV → Store → Prop) (X : QX) (x : RV) (S : Store) : Prop := WR (b es S) (kCh1 f g c x es Q X) X
theorem kCh_e {g : F2} {x : RV} : kCh f g b c es Q X x S = WR (b es S) (kCh1 f g c x es Q X) X := nr rfl
theorem kCh1_e {g : F2} {x y : RV} : kCh1 f g c x es Q X y S = kB2 f x (kB (kCh2 g c y es Q X)) y S := nr rfl
theorem kCh2_t {g : F2} {y : RV} : kCh2 g c y es Q X true S = WR (c es S) (kB2 g y Q) X := nr rfl
theorem kCh2_f {g : F2} {y : RV} : kCh2 g c y es Q X false S = Q (.d (.bl false)) S := nr rfl
theorem w_chain {g : F2} : WR (eChain f g a b c es S) Q X = WR (a es S) (kCh f g b c es Q X) X := by
  unfold eChain kCh kCh1 kCh2 kB2 QO
  simp only [WR_bind]
  congr 1
  funext x S1
  congr 1
  funext y S2
  cases f S2 x.weak y.weak with
  | none => rfl
  | some o =>
    cases o with
    | l _ => rfl
    | d d =>
      cases d <;> try rfl
      rename_i b
      cases b
      · rfl
      · show WR (Res.bind _ _) Q X = _
        simp only [WR_bind, WR_ofO]
        rfl
end
end DM

namespace DM
open PySem PySem.Spec L2

def sCut (m : MS) : MS := m
def eCut (m : ME) : ME := m
def En.seq (E : En) (b : MS) : En := ⟨fun es S => WS (b es S) E, E.rt, E.bk, E.ct, E.ex⟩
def kX (es : Env) (E : En) (c : Nat) (p : List D) (S : Store) : Prop := E.ex c p es S
section
variable {es es0 : Env} {S : Store} {E : En} {a b : MS} {m mi : ME} {t : MB} {i k : Nat}
theorem seq_nx : (E.seq b).nx es S = WS (b es S) E := nr rfl
theorem seq_rt {r : RV} : (E.seq b).rt r S = E.rt r S := nr rfl
theorem seq_bk : (E.seq b).bk es S = E.bk es S := nr rfl
theorem seq_ct : (E.seq b).ct es S = E.ct es S := nr rfl
theorem seq_ex {c : Nat} {p : List D} : (E.seq b).ex c p es S = E.ex c p es S := nr rfl
def En.cut (E : En) (P : Env → Store → Prop) : En := ⟨P, E.rt, E.bk, E.ct, E.ex⟩
theorem cut_nx {P : Env → Store → Prop} : (E.cut P).nx es S = P es S := nr rfl
theorem cut_rt {P : Env → Store → Prop} {r : RV} : (E.cut P).rt r S = E.rt r S := nr rfl
theorem cut_bk {P : Env → Store → Prop} : (E.cut P).bk es S = E.bk es S := nr rfl
theorem cut_ct {P : Env → Store → Prop} : (E.cut P).ct es S = E.ct es S := nr rfl
theorem cut_ex {P : Env → Store → Prop} {c : Nat} {p : List D} : (E.cut P).ex c p es S = E.ex c p es S := nr rfl
theorem w_cut : WS (sCut a es S) E = WS (a es S) E := nr rfl
theorem cut_seq (P : Env → Store → Prop) (h : WS (a es S) (E.cut P)) (k : ∀ es S, P es S → WS (b es S) E) : WS (sCut a es S) (E.seq b) := by
  show WS (a es S) (E.seq b)
  cases e : a es S with
  | nx es' S' => rw [e] at h; exact k _ _ h
  | rt r S' => rw [e] at h; exact h
  | bk es' S' => rw [e] at h; exact h
  | ct es' S' => rw [e] at h; exact h
  | ex c p es' S' => rw [e] at h; exact h
  | bad => rw [e] at h; exact h
theorem w_ecut {Q : RV → Store → Prop} {X : QX} : WR (eCut m es S) Q X = WR (m es S) Q X := nr rfl
theorem kX_e {c : Nat} {p : List D} : kX es E c p S = E.ex c p es S := nr rfl
theorem w_seq : WS (sSeq a b es S) E = WS (a es S) (E.seq b) := by
  unfold sSeq
  cases a es S <;> rfl
theorem w_nop : WS (sNop es S) E = E.nx es S := nr rfl
theorem w_brk : WS (sBrk es S) E = E.bk es S := nr rfl
theorem w_cnt : WS (sCnt es S) E = E.ct es S := nr rfl
def kIf (a b : MS) (es : Env) (E : En) (x : Bool) (S : Store) : Prop := if x = true then WS (a es S) E else WS (b es S) E
theorem kIf_t : kIf a b es E true S = WS (a es S) E := nr rfl
theorem kIf_f : kIf a b es E false S = WS (b es S) E := nr rfl
theorem kIf_br {x : Bool} (h1 : x = true → WS (a es S) E) (h2 : x = false → WS (b es S) E) : kIf a b es E x S := by
  cases x with
  | true => exact h1 rfl
  | false => exact h2 rfl
theorem w_if : WS (sIf t a b es S) E = WR (t es S) (kIf a b es E) (kX es E) := by
  unfold sIf kIf kX
  rw [WS_bindS]
  congr 1
  funext x S1
  cases x <;> rfl
def kRet (E : En) (r : RV) (S : Store) : Prop := match r with
  | .l false _ => False
  | r => E.rt r S
theorem kRet_d {x : D} : kRet E (.d x) S = E.rt (.d x) S := nr rfl
theorem kRet_l {x : List D} : kRet E (.l true x) S = E.rt (.l true x) S := nr rfl
theorem w_ret : WS (sRet m es S) E = WR (m es S) (kRet E) (kX es E) := by
  unfold sRet kRet kX
  rw [WS_bindS]
  congr 1
  funext r S1
  cases r with
  | d _ => rfl
  | l f _ => cases f <;> rfl
theorem w_retN : WS (sRetN es S) E = E.rt (.d .non) S := nr rfl
def QRV (o : Option Slot) (S : Store) (E : En) : Prop := match o with
  | some (.v x) => E.rt (.d x) S
  | some (.own ds) => E.rt (.l true ds) S
  | _ => False
theorem QRV_v {x : D} : QRV (some (.v x)) S E = E.rt (.d x) S := nr rfl
theorem QRV_own {x : List D} : QRV (some (.own x)) S E = E.rt (.l true x) S := nr rfl
theorem w_retV : WS (sRetV i es S) E = QRV es[i]? S E := by
  unfold sRetV QRV
  cases es[i]? with
  | none => rfl
  | some s => cases s <;> rfl
def kDrop (es : Env) (E : En) (_ : RV) (S : Store) : Prop := E.nx es S
theorem kDrop_e {r : RV} : kDrop es E r S = E.nx es S := nr rfl
theorem w_drop : WS (sDrop m es S) E = WR (m es S) (kDrop es E) (kX es E) := by
  unfold sDrop kDrop kX
  rw [WS_bindS]
  rfl
def kSet (i : Nat) (es : Env) (E : En) (r : RV) (S : Store) : Prop := match r with
  | .d x => E.nx (es.set i (.v x)) S
  | .l true ds => E.nx (es.set i (.own ds)) S
  | .l false _ => False
theorem kSet_d {x : D} : kSet i es E (.d x) S = E.nx (es.set i (.v x)) S := nr rfl
theorem kSet_l {x : List D} : kSet i es E (.l true x) S = E.nx (es.set i (.own x)) S := nr rfl
theorem w_set : WS (sSet i m es S) E = WR (m es S) (kSet i es E) (kX es E) := by
  unfold sSet kSet kX
  rw [WS_bindS]
  congr 1
  funext r S1
  cases r with
  | d _ => rfl
  | l f _ => cases f <;> rfl
def kSetS (i : Nat) (es : Env) (E : En) (r : RV) (S : Store) : Prop := QI r S fun x S1 => E.nx (es.set i (.v x)) S1
theorem kSetS_d {x : D} : kSetS i es E (.d x) S = E.nx (es.set i (.v x)) S := nr rfl
theorem kSetS_l {x : List D} : kSetS i es E (.l true x) S = E.nx (es.set i (.v (.loc S.length))) (S ++ [.lst x]) := nr rfl
theorem w_setS : WS (sSetS i m es S) E = WR (m es S) (kSetS i es E) (kX es E) := by
  unfold sSetS kSetS kX
  rw [WS_bindS]
  simp only [WR_bind, WR_item]
  rfl
def QMv (o : Option Slot) (i j : Nat) (es : Env) (S : Store) (E : En) : Prop := match o with
  | some (.own ds) => E.nx ((es.set j .no).set i (.own ds)) S
  | _ => False
theorem QMv_e {ds : List D} {j : Nat} : QMv (some (.own ds)) i j es S E = E.nx ((es.set j .no).set i (.own ds)) S := nr rfl
theorem w_move {j : Nat} : WS (sMove i j es S) E = QMv es[j]? i j es S E := by
  unfold sMove QMv
  cases es[j]? with
  | none => rfl
  | some s => cases s <;> rfl
def QG (o : Option Env) (S : Store) (E : En) : Prop := match o with
  | some es => E.nx es S
  | none => False
theorem QG_e : QG (some es) S E = E.nx es S := nr rfl
theorem tg_name {x : D} : tgName i x es = some (es.set i (.v x)) := nr rfl
theorem tg_tup {n : Nat} {gs : MGs} {ds : List D} : tgTup n gs (.tup ds) es = if ds.length = n then gs ds es else none := nr rfl
theorem tg_tup1 {gs : MGs} {x : D} : tgTup 1 gs (.tup [x]) es = gs [x] es := nr rfl
theorem tg_tup2 {gs : MGs} {x y : D} : tgTup 2 gs (.tup [x, y]) es = gs [x, y] es := nr rfl
theorem tg_tup3 {gs : MGs} {x y z : D} : tgTup 3 gs (.tup [x, y, z]) es = gs [x, y, z] es := nr rfl
theorem tg_tup4 {gs : MGs} {x y z u : D} : tgTup 4 gs (.tup [x, y, z, u]) es = gs [x, y, z, u] es := nr rfl
theorem tg_nil : tgNil [] es = some es := nr rfl
theorem tg_cons {g : MG} {gs : MGs} {d : D} {ds : List D} : tgCons g gs (d :: ds) es = (g d es).bind fun es1 => gs ds es1 := nr rfl
theorem ob_some {T U : Type} {a : T} {f : T → Option U} : (some a).bind f = f a := nr rfl
def kAsg (g : MG) (es : Env) (E : En) (r : RV) (S : Store) : Prop := QI r S fun x S1 => QG (g x es) S1 E
theorem kAsg_d {g : MG} {x : D} : kAsg g es E (.d x) S = QG (g x es) S E := nr rfl
theorem w_asg {g : MG} : WS (sAsg g m es S) E = WR (m es S) (kAsg g es E) (kX es E) := by
  unfold sAsg kAsg kX QG
  rw [WS_bindS]
  simp only [WR_bind, WR_item]
  congr 1
  funext r S1
  congr 1
  funext x S2
  cases g x es <;> rfl
def kPar (i j : Nat) (es : Env) (E : En) (ds : List D) (S : Store) : Prop := match ds with
  | [x, y] => E.nx ((es.set i (.v x)).set j (.v y)) S
  | _ => False
theorem kPar_e {j : Nat} {x y : D} : kPar i j es E [x, y] S = E.nx ((es.set i (.v x)).set j (.v y)) S := nr rfl
theorem w_par {j : Nat} {ms : List ME} : WS (sPar i j ms es S) E = WR (eItems ms es S) (kPar i j es E) (kX es E) := by
  unfold sPar kPar kX
  rw [WS_bindS]
  congr 1
  funext ds S1
  match ds with
  | [] => rfl
  | [_] => rfl
  | [_, _] => rfl
  | _ :: _ :: _ :: _ => rfl
def kSixN (o : Option Nat) (ds : List D) (k : Nat) (x : D) (es : Env) (E : En) (S : Store) : Prop := match o with
  | some j => E.nx (es.set k (.own (ds.set j x))) S
  | none => False
def kSixL (o : Option Nat) (ds : List D) (l : Nat) (x : D) (es : Env) (E : En) (S : Store) : Prop := match o with
  | some j => E.nx es (S.set l (.lst (ds.set j x)))
  | none => False
theorem kSixN_e {j : Nat} {ds : List D} {x : D} : kSixN (some j) ds k x es E S = E.nx (es.set k (.own (ds.set j x))) S := nr rfl
theorem kSixL_e {j l : Nat} {ds : List D} {x : D} : kSixL (some j) ds l x es E S = E.nx es (S.set l (.lst (ds.set j x))) := nr rfl
def QSt (o : Option O) (n : Int) (l : Nat) (x : D) (es : Env) (E : En) (S : Store) : Prop := match o with
  | some (.lst ds) => kSixL (ixN ds.length n) ds l x es E S
  | _ => False
theorem QSt_e {ds : List D} {n : Int} {l : Nat} {x : D} : QSt (some (.lst ds)) n l x es E S = kSixL (ixN ds.length n) ds l x es E S := nr rfl
def kSixO (ds : List D) (k : Nat) (x : D) (es : Env) (E : En) (r : RV) (S : Store) : Prop := match r with
  | .d (.int n) => kSixN (ixN ds.length n) ds k x es E S
  | _ => False
def kSixT (l : Nat) (x : D) (es : Env) (E : En) (r : RV) (S : Store) : Prop := match r with
  | .d (.int n) => QSt S[l]? n l x es E S
  | _ => False
theorem kSixO_e {ds : List D} {x : D} {n : Int} : kSixO ds k x es E (.d (.int n)) S = kSixN (ixN ds.length n) ds k x es E S := nr rfl
theorem kSixT_e {l : Nat} {x : D} {n : Int} : kSixT l x es E (.d (.int n)) S = QSt S[l]? n l x es E S := nr rfl
def QSix (o : Option Slot) (k : Nat) (mi : ME) (es : Env) (x : D) (S : Store) (E : En) : Prop := match o with
  | some (.own ds) => WR (mi es S) (kSixO ds k x es E) (kX es E)
  | some (.v (.loc l)) => WR (mi es S) (kSixT l x es E) (kX es E)
  | _ => False
theorem QSix_o {ds : List D} {x : D} : QSix (some (.own ds)) k mi es x S E = WR (mi es S) (kSixO ds k x es E) (kX es E) := nr rfl
theorem QSix_l {l : Nat} {x : D} : QSix (some (.v (.loc l))) k mi es x S E = WR (mi es S) (kSixT l x es E) (kX es E) := nr rfl
def kSix (k : Nat) (mi : ME) (es : Env) (E : En) (r : RV) (S : Store) : Prop := QI r S fun x S1 => QSix es[k]? k mi es x S1 E
theorem kSix_d {x : D} : kSix k mi es E (.d x) S = QSix es[k]? k mi es x S E := nr rfl
theorem kSix_l {x : List D} : kSix k mi es E (.l true x) S = QSix es[k]? k mi es (.loc S.length) (S ++ [.lst x]) E := nr rfl
theorem w_setix : WS (sSetIx k mi m es S) E = WR (m es S) (kSix k mi es E) (kX es E) := by
  unfold sSetIx kSix kX
  rw [WS_bindS]
  simp only [WR_bind, WR_item]
  congr 1
  funext r S1
  congr 1
  funext x S2
  unfold QSix
  cases es[k]? with
  | none => rfl
  | some s =>
    cases s with
    | no => rfl
    | bor _ => rfl
    | own ds =>
      show WS (bindS _ _ _) E = _
      rw [WS_bindS]
      show WR _ _ _ = WR _ _ _
      congr 1
      funext r S3
      cases r with
      | l _ _ => rfl
      | d y =>
        cases y <;> try rfl
        rename_i n
        show WS (match ixN ds.length n with | some j => _ | none => _) E = kSixN _ _ _ _ _ _ _
        cases ixN ds.length n <;> rfl
    | v y =>
      cases y <;> try rfl
      rename_i l
      show WS (bindS _ _ _) E = _
      rw [WS_bindS]
      show WR _ _ _ = WR _ _ _
      congr 1
      funext r S3
      cases r with
      | l _ _ => rfl
      | d y =>
        cases y <;> try rfl
        rename_i n
        show WS (match S3[l]? with | some (.lst ds) => (match ixN ds.length n with | some j => _ | none => _) | _ => _) E = QSt _ _ _ _ _ _ _
        cases S3[l]? with
        | none => rfl
        | some o =>
          cases o <;> try rfl
          rename_i ds
          show WS (match ixN ds.length n with | some j => _ | none => _) E = kSixL _ _ _ _ _ _ _
          cases ixN ds.length n <;> rfl
def kAppO (ds : List D) (k : Nat) (es : Env) (E : En) (r : RV) (S : Store) : Prop := QI r S fun x S1 => ds.length < sizeLine ∧ E.nx (es.set k (.own (ds ++ [x]))) S1
theorem kAppO_d {ds : List D} {x : D} : kAppO ds k es E (.d x) S = (ds.length < sizeLine ∧ E.nx (es.set k (.own (ds ++ [x]))) S) := nr rfl
theorem kAppO_l {ds : List D} {x : List D} : kAppO ds k es E (.l true x) S = (ds.length < sizeLine ∧ E.nx (es.set k (.own (ds ++ [.loc S.length]))) (S ++ [.lst x])) := nr rfl
def QAppT (o : Option O) (l : Nat) (x : D) (es : Env) (E : En) (S : Store) : Prop := match o with
  | some (.lst ds) => ds.length < sizeLine ∧ E.nx es (S.set l (.lst (ds ++ [x])))
  | _ => False
theorem QAppT_e {ds : List D} {l : Nat} {x : D} : QAppT (some (.lst ds)) l x es E S = (ds.length < sizeLine ∧ E.nx es (S.set l (.lst (ds ++ [x])))) := nr rfl
def kAppT (l : Nat) (es : Env) (E : En) (r : RV) (S : Store) : Prop := QI r S fun x S1 => QAppT S1[l]? l x es E S1
theorem kAppT_d {l : Nat} {x : D} : kAppT l es E (.d x) S = QAppT S[l]? l x es E S := nr rfl
theorem kAppT_l {l : Nat} {x : List D} : kAppT l es E (.l true x) S = QAppT (S ++ [.lst x])[l]? l (.loc S.length) es E (S ++ [.lst x]) := nr rfl
def QApp (o : Option Slot) (k : Nat) (m : ME) (es : Env) (S : Store) (E : En) : Prop := match o with
  | some (.own ds) => WR (m es S) (kAppO ds k es E) (kX es E)
  | some (.v (.loc l)) => (∃ ds, S[l]? = some (.lst ds)) ∧ WR (m es S) (kAppT l es E) (kX es E)
  | _ => False
theorem QApp_o {ds : List D} : QApp (some (.own ds)) k m es S E = WR (m es S) (kAppO ds k es E) (kX es E) := nr rfl
theorem QApp_l {l : Nat} : QApp (some (.v (.loc l))) k m es S E = ((∃ ds, S[l]? = some (.lst ds)) ∧ WR (m es S) (kAppT l es E) (kX es E)) := nr rfl
theorem WS_ite {c : Prop} {hc : Decidable c} {r : SR} : WS (@ite _ c hc r .bad) E = (c ∧ WS r E) := by
  by_cases h : c
  · rw [if_pos h]; exact propext ⟨fun q => ⟨h, q⟩, fun q => q.2⟩
  · rw [if_neg h]; exact propext ⟨fun q => q.elim, fun q => (h q.1).elim⟩
theorem w_app : WS (sApp k m es S) E = QApp es[k]? k m es S E := by
  unfold sApp QApp
  cases es[k]? with
  | none => rfl
  | some s =>
    cases s with
    | no => rfl
    | bor _ => rfl
    | own ds =>
      show WS (bindS _ _ _) E = _
      rw [WS_bindS]
      simp only [WR_bind, WR_item, WS_ite]
      rfl
    | v y =>
      cases y <;> try rfl
      rename_i l
      show WS (match S[l]? with | some (.lst _) => _ | _ => _) E = (_ ∧ _)
      cases e : S[l]? with
      | none => exact propext ⟨fun q => q.elim, fun ⟨⟨_, z⟩, _⟩ => by cases z⟩
      | some o =>
        cases o with
        | dic _ => exact propext ⟨fun q => q.elim, fun ⟨⟨_, z⟩, _⟩ => by cases z⟩
        | ins _ _ => exact propext ⟨fun q => q.elim, fun ⟨⟨_, z⟩, _⟩ => by cases z⟩
        | obj _ _ => exact propext ⟨fun q => q.elim, fun ⟨⟨_, z⟩, _⟩ => by cases z⟩
        | lst d0 =>
          show WS (bindS _ _ _) E = _
          rw [WS_bindS]
          simp only [WR_bind, WR_item]
          refine (propext ⟨fun q => ⟨⟨_, rfl⟩, ?_⟩, fun q => ?_⟩)
          · refine WR_mono q (fun r S1 h => ?_) fun _ _ _ h => h
            unfold kAppT
            have e2 : (fun a S => WS (match S[l]? with | some (O.lst ds) => @ite _ (ds.length < sizeLine) _ (SR.nx es (S.set l (O.lst (ds ++ [a])))) SR.bad | _ => SR.bad) E) = fun x S1 => QAppT S1[l]? l x es E S1 := by
              funext x S2
              unfold QAppT
              cases S2[l]? with
              | none => rfl
              | some o => cases o <;> first | rfl | exact WS_ite
            rw [← e2]
            exact h
          · refine WR_mono q.2 (fun r S1 h => ?_) fun _ _ _ h => h
            unfold kAppT at h
            have e2 : (fun a S => WS (match S[l]? with | some (O.lst ds) => @ite _ (ds.length < sizeLine) _ (SR.nx es (S.set l (O.lst (ds ++ [a])))) SR.bad | _ => SR.bad) E) = fun x S1 => QAppT S1[l]? l x es E S1 := by
              funext x S2
              unfold QAppT
              cases S2[l]? with
              | none => rfl
              | some o => cases o <;> first | rfl | exact WS_ite
            rw [← e2] at h
            exact h
def kExtO (ds : List D) (k : Nat) (es : Env) (E : En) (r : RV) (S : Store) : Prop := match lstOf S r.weak with
  | some ys => ds.length + ys.length ≤ sizeLine ∧ E.nx (es.set k (.own (ds ++ ys))) S
  | none => False
theorem kExtO_l {ds ys : List D} {p : Bool} : kExtO ds k es E (.l p ys) S = (ds.length + ys.length ≤ sizeLine ∧ E.nx (es.set k (.own (ds ++ ys))) S) := nr rfl
def QExt (o : Option Slot) (k : Nat) (m : ME) (es : Env) (S : Store) (E : En) : Prop := match o with
  | some (.own ds) => WR (m es S) (kExtO ds k es E) (kX es E)
  | _ => False
theorem QExt_o {ds : List D} : QExt (some (.own ds)) k m es S E = WR (m es S) (kExtO ds k es E) (kX es E) := nr rfl
end
end DM

namespace DM
open PySem PySem.Spec L2

section
variable {es es0 : Env} {S : Store} {E : En} {a b : MS} {m n : ME} {i : Nat} {X : QX}
abbrev QM := List D × SK → Store → Prop
abbrev QMI := List D × (Store → Prop) → Store → Prop
def QSL (o : Option O) (n : Nat) (S : Store) (Q : QM) : Prop := match o with
  | some (.lst ds) => Q (ds, .s n) S
  | _ => False
def QS (x : D) (S : Store) (Q : QM) : Prop := match x with
  | .tup ds => Q (ds, .t) S
  | .loc n => QSL S[n]? n S Q
  | _ => False
theorem QS_t {ds : List D} {Q : QM} : QS (.tup ds) S Q = Q (ds, .t) S := nr rfl
theorem QS_l {n : Nat} {Q : QM} : QS (.loc n) S Q = QSL S[n]? n S Q := nr rfl
theorem QSL_e {n : Nat} {ds : List D} {Q : QM} : QSL (some (.lst ds)) n S Q = Q (ds, .s n) S := nr rfl
theorem WR_ofSeq {x : D} {Q : QM} : WR (ofSeq x S) Q X = QS x S Q := by
  cases x <;> try rfl
  rename_i n
  show WR (match S[n]? with | some (.lst ds) => _ | _ => _) Q X = QSL S[n]? n S Q
  cases S[n]? with
  | none => rfl
  | some o => cases o <;> rfl
def QQ (o : Option Slot) (S : Store) (Q : QM) : Prop := match o with
  | some (.bor ds) => Q (ds, .p) S
  | some (.v x) => QS x S Q
  | _ => False
theorem QQ_b {ds : List D} {Q : QM} : QQ (some (.bor ds)) S Q = Q (ds, .p) S := nr rfl
theorem QQ_v {x : D} {Q : QM} : QQ (some (.v x)) S Q = QS x S Q := nr rfl
theorem w_qVar {Q : QM} : WR (qVar i es S) Q X = QQ es[i]? S Q := by
  unfold qVar QQ
  cases es[i]? with
  | none => rfl
  | some s => cases s <;> first | rfl | exact WR_ofSeq
def kQE (Q : QM) (r : RV) (S : Store) : Prop := match r with
  | .l true ds => Q (ds, .p) S
  | .d x => QS x S Q
  | _ => False
theorem kQE_l {ds : List D} {Q : QM} : kQE Q (.l true ds) S = Q (ds, .p) S := nr rfl
theorem kQE_d {x : D} {Q : QM} : kQE Q (.d x) S = QS x S Q := nr rfl
theorem w_qE {Q : QM} : WR (qE m es S) Q X = WR (m es S) (kQE Q) X := by
  unfold qE kQE
  rw [WR_bind]
  congr 1
  funext r S1
  cases r with
  | d x => exact WR_ofSeq
  | l f _ => cases f <;> rfl
def kQC (Q : QM) (r : RV) (S : Store) : Prop := match r with
  | .l _ ds => Q (ds, .p) S
  | .d x => QS x S Q
theorem kQC_l {p : Bool} {ds : List D} {Q : QM} : kQC Q (.l p ds) S = Q (ds, .p) S := nr rfl
theorem kQC_d {x : D} {Q : QM} : kQC Q (.d x) S = QS x S Q := nr rfl
theorem w_qC {Q : QM} : WR (qC m es S) Q X = WR (m es S) (kQC Q) X := by
  unfold qC kQC
  rw [WR_bind]
  congr 1
  funext r S1
  cases r with
  | d x => exact WR_ofSeq
  | l f _ => rfl
def kSeq (Q : QMI) (x : List D × SK) (S : Store) : Prop := Q (x.1, chk x.2 x.1) S
theorem kSeq_e {ds : List D} {k : SK} {Q : QMI} : kSeq Q (ds, k) S = Q (ds, chk k ds) S := nr rfl
theorem w_miSeq {q : MQ} {Q : QMI} : WR (miSeq q es S) Q X = WR (q es S) (kSeq Q) X := by
  unfold miSeq
  rw [WR_bind]
  rfl
def kRev (Q : QMI) (x : List D × SK) (S : Store) : Prop := Q (x.1.reverse, chk x.2 x.1) S
theorem kRev_e {ds : List D} {k : SK} {Q : QMI} : kRev Q (ds, k) S = Q (ds.reverse, chk k ds) S := nr rfl
theorem w_miRev {q : MQ} {Q : QMI} : WR (miRev q es S) Q X = WR (q es S) (kRev Q) X := by
  unfold miRev
  rw [WR_bind]
  rfl
def kEnum (Q : QMI) (x : List D × SK) (S : Store) : Prop := isT x.2 = false ∧ Q (enumD x.1, chk x.2 x.1) S
theorem kEnum_e {ds : List D} {k : SK} {Q : QMI} : kEnum Q (ds, k) S = (isT k = false ∧ Q (enumD ds, chk k ds) S) := nr rfl
theorem w_miEnum {q : MQ} {Q : QMI} : WR (miEnum q es S) Q X = WR (q es S) (kEnum Q) X := by
  unfold miEnum
  simp only [WR_bind, WR_ite]
  rfl
def kZip2 (x : List D × SK) (Q : QMI) (y : List D × SK) (S : Store) : Prop := (isT x.2 = isT y.2 ∧ chk x.2 x.1 S) ∧ Q (zipD x.1 y.1, fun S => chk x.2 x.1 S ∧ chk y.2 y.1 S) S
def kZip (q : MQ) (es : Env) (Q : QMI) (X : QX) (x : List D × SK) (S : Store) : Prop := WR (q es S) (kZip2 x Q) X
theorem kZip_e {q : MQ} {x : List D × SK} {Q : QMI} : kZip q es Q X x S = WR (q es S) (kZip2 x Q) X := nr rfl
theorem kZip2_e {ds ds' : List D} {k k' : SK} {Q : QMI} : kZip2 (ds, k) Q (ds', k') S = ((isT k = isT k' ∧ chk k ds S) ∧ Q (zipD ds ds', fun S => chk k ds S ∧ chk k' ds' S) S) := nr rfl
theorem w_miZip {p q : MQ} {Q : QMI} : WR (miZip p q es S) Q X = WR (p es S) (kZip q es Q X) X := by
  unfold miZip
  simp only [WR_bind, WR_ite]
  rfl
def rngD (n : Nat) : List D := (List.range n).map fun (i : Nat) => D.int (i : Int)
def rngD2 (a : Int) (n : Nat) : List D := (List.range n).map fun (i : Nat) => D.int (a + (i : Int))
def rngD3 (a c : Int) (n : Nat) : List D := (List.range n).map fun (i : Nat) => D.int (a + (i : Int) * c)
def kR1 (Q : QMI) (rs : List RV) (S : Store) : Prop := match rs with
  | [.d (.int n)] => (-(2 ^ 62) ≤ n ∧ n < 2 ^ 62) ∧ Q (rngD n.toNat, fun _ => True) S
  | _ => False
theorem kR1_e {z : Int} {Q : QMI} : kR1 Q [.d (.int z)] S = ((-(2 ^ 62) ≤ z ∧ z < 2 ^ 62) ∧ Q (rngD z.toNat, fun _ => True) S) := nr rfl
theorem w_miRng1 {Q : QMI} : WR (miRng1 m es S) Q X = WR (eArgs [m] es S) (kR1 Q) X := by
  unfold miRng1
  rw [WR_bind]
  congr 1
  funext rs S1
  split
  · rw [WR_ite]; rfl
  · rename_i h
    match rs with
    | [] => rfl
    | [.l _ _] => rfl
    | [.d x] => cases x <;> first | rfl | exact (h _ rfl).elim
    | r :: _ :: _ =>
      cases r with
      | l _ _ => rfl
      | d x => cases x <;> rfl
def kR2 (Q : QMI) (rs : List RV) (S : Store) : Prop := match rs with
  | [.d (.int a), .d (.int b)] => (-(2 ^ 62) ≤ a ∧ a < 2 ^ 62 ∧ -(2 ^ 62) ≤ b ∧ b < 2 ^ 62) ∧ Q (rngD2 a (b - a).toNat, fun _ => True) S
  | _ => False
theorem kR2_e {y z : Int} {Q : QMI} : kR2 Q [.d (.int y), .d (.int z)] S = ((-(2 ^ 62) ≤ y ∧ y < 2 ^ 62 ∧ -(2 ^ 62) ≤ z ∧ z < 2 ^ 62) ∧ Q (rngD2 y (z - y).toNat, fun _ => True) S) := nr rfl
def kR3 (Q : QMI) (rs : List RV) (S : Store) : Prop := match rs with
  | [.d (.int a), .d (.int b), .d (.int c)] => RgC a b c (Builtin.Range.rangeSize a b c).toNat ∧ Q (rngD3 a c (Builtin.Range.rangeSize a b c).toNat, fun _ => True) S
  | _ => False
theorem kR3_e {x y z : Int} {Q : QMI} : kR3 Q [.d (.int x), .d (.int y), .d (.int z)] S = (RgC x y z (Builtin.Range.rangeSize x y z).toNat ∧ Q (rngD3 x z (Builtin.Range.rangeSize x y z).toNat, fun _ => True) S) := nr rfl
theorem rngD_get {n j : Nat} {x : D} (h : (rngD n)[j]? = some x) : x = .int j ∧ j < n := by
  unfold rngD at h
  rw [List.getElem?_map] at h
  cases e : (List.range n)[j]? with
  | none => rw [e] at h; cases h
  | some k =>
    rw [e] at h
    have hl := (List.getElem?_eq_some_iff.mp e).1
    rw [List.length_range] at hl
    rw [List.getElem?_range hl] at e
    cases e
    exact ⟨(Option.some.inj h).symm, hl⟩
theorem rngD_len {n : Nat} : (rngD n).length = n := by simp [rngD]
theorem rngD2_len {a : Int} {n : Nat} : (rngD2 a n).length = n := by simp [rngD2]
theorem chk_t {ds : List D} : chk .t ds S = True := nr rfl
theorem chk_p {ds : List D} : chk .p ds S = True := nr rfl
theorem chk_s {k : Nat} {ds : List D} : chk (.s k) ds S = (S[k]? = some (.lst ds)) := nr rfl
theorem isT_t : isT .t = true := nr rfl
theorem isT_p : isT .p = false := nr rfl
theorem isT_s {k : Nat} : isT (.s k) = false := nr rfl

def kFor (g : MG) (b : MS) (es : Env) (E : En) (x : List D × (Store → Prop)) (S : Store) : Prop := WS (forL x.2 g b x.1 es S) E
theorem w_for {mi : MI} {g : MG} : WS (sFor mi g b es S) E = WR (mi es S) (kFor g b es E) (kX es E) := by
  unfold sFor kFor kX
  rw [WS_bindS]
def En.lp (E : En) (I : Env → Store → Prop) : En := ⟨I, E.rt, E.nx, I, E.ex⟩
theorem lp_nx {I : Env → Store → Prop} : (E.lp I).nx es S = I es S := nr rfl
theorem lp_rt {I : Env → Store → Prop} {r : RV} : (E.lp I).rt r S = E.rt r S := nr rfl
theorem lp_bk {I : Env → Store → Prop} : (E.lp I).bk es S = E.nx es S := nr rfl
theorem lp_ct {I : Env → Store → Prop} : (E.lp I).ct es S = I es S := nr rfl
theorem lp_ex {I : Env → Store → Prop} {c : Nat} {p : List D} : (E.lp I).ex c p es S = E.ex c p es S := nr rfl
theorem forL_inv {ck : Store → Prop} {g : MG} {ds : List D} (I : Nat → Env → Store → Prop) (hck : ∀ i es S, I i es S → ck S)
    (step : ∀ i x es S, ds[i]? = some x → I i es S → ∃ es1, g x es = some es1 ∧ WS (b es1 S) (E.lp (I (i + 1)))) (fin : ∀ es S, I ds.length es S → E.nx es S) :
    ∀ (xs : List D) (i : Nat) (es : Env) (S : Store), i + xs.length = ds.length → (∀ j, xs[j]? = ds[i + j]?) → I i es S → WS (forL ck g b xs es S) E
  | [], i, es, S, hl, _, h => by
    show WS (@ite _ (ck S) (Classical.propDecidable _) _ _) E
    rw [WS_ite]
    have e : i = ds.length := hl
    subst e
    exact ⟨hck _ _ _ h, fin _ _ h⟩
  | x :: xs, i, es, S, hl, hj, h => by
    show WS (@ite _ (ck S) (Classical.propDecidable _) _ _) E
    rw [WS_ite]
    refine ⟨hck _ _ _ h, ?_⟩
    obtain ⟨es1, e1, w⟩ := step i x es S ((hj 0).symm.trans rfl) h
    rw [e1]
    have ih : ∀ es S, I (i + 1) es S → WS (forL ck g b xs es S) E := fun es S q =>
      forL_inv I hck step fin xs (i + 1) es S (by simp at hl; omega) (fun j => by have := hj (j + 1); simp at this; rw [this]; congr 1; omega) q
    show WS (match b es1 S with | .nx es2 S2 => _ | .ct es2 S2 => _ | .bk es2 S2 => _ | r => r) E
    cases z : b es1 S with
    | nx es2 S2 => rw [z] at w; exact ih _ _ w
    | ct es2 S2 => rw [z] at w; exact ih _ _ w
    | bk es2 S2 => rw [z] at w; exact w
    | rt r S2 => rw [z] at w; exact w
    | ex c p es2 S2 => rw [z] at w; exact w
    | bad => rw [z] at w; exact w.elim
theorem for_inv {ck : Store → Prop} {g : MG} {ds : List D} (I : Nat → Env → Store → Prop) (h0 : I 0 es S) (hck : ∀ i es S, I i es S → ck S)
    (step : ∀ i x es S, ds[i]? = some x → I i es S → ∃ es1, g x es = some es1 ∧ WS (b es1 S) (E.lp (I (i + 1)))) (fin : ∀ es S, I ds.length es S → E.nx es S) : kFor g b es E (ds, ck) S :=
  forL_inv I hck step fin ds 0 es S (by simp) (fun j => by simp) h0
def En.fl (E : En) (ck : Store → Prop) (g : MG) (b : MS) (xs : List D) : En := ⟨fun es S => WS (forL ck g b xs es S) E, E.rt, E.nx, fun es S => WS (forL ck g b xs es S) E, E.ex⟩
def En.fb (E : En) (ck : Store → Prop) (g : MG) (b : MS) (xs : List D) : En := ⟨fun es S => WS (b es S) (E.fl ck g b xs), E.rt, E.bk, E.ct, E.ex⟩
theorem fb_nx {ck : Store → Prop} {g : MG} {xs : List D} : (E.fb ck g b xs).nx es S = WS (b es S) (E.fl ck g b xs) := nr rfl
theorem fl_nx {ck : Store → Prop} {g : MG} {xs : List D} : (E.fl ck g b xs).nx es S = WS (forL ck g b xs es S) E := nr rfl
theorem fl_ct {ck : Store → Prop} {g : MG} {xs : List D} : (E.fl ck g b xs).ct es S = WS (forL ck g b xs es S) E := nr rfl
theorem fl_bk {ck : Store → Prop} {g : MG} {xs : List D} : (E.fl ck g b xs).bk es S = E.nx es S := nr rfl
theorem fl_rt {ck : Store → Prop} {g : MG} {xs : List D} {r : RV} : (E.fl ck g b xs).rt r S = E.rt r S := nr rfl
theorem fl_ex {ck : Store → Prop} {g : MG} {xs : List D} {c : Nat} {p : List D} : (E.fl ck g b xs).ex c p es S = E.ex c p es S := nr rfl
def frzQ (o : Option Slot) (i : Nat) (es : Env) : Env := match o with
  | some (.own ds) => es.set i (.bor ds)
  | _ => es
theorem frzS_e : frzS i es = frzQ es[i]? i es := nr rfl
theorem frzQ_o {ds : List D} : frzQ (some (.own ds)) i es = es.set i (.bor ds) := nr rfl
theorem frzQ_v {x : D} : frzQ (some (.v x)) i es = es := nr rfl
theorem frzQ_b {ds : List D} : frzQ (some (.bor ds)) i es = es := nr rfl
theorem frzQ_n : frzQ (some .no) i es = es := nr rfl
def unfQ (o o' : Option Slot) (i : Nat) (es : Env) : Env := match o, o' with
  | some (.own ds), some (.bor _) => es.set i (.own ds)
  | _, _ => es
theorem unfS_e : unfS i es0 es = unfQ es0[i]? es[i]? i es := nr rfl
theorem unfQ_o {ds ds' : List D} : unfQ (some (.own ds)) (some (.bor ds')) i es = es.set i (.own ds) := nr rfl
theorem unfQ_v {x : D} {o : Option Slot} : unfQ (some (.v x)) o i es = es := nr rfl
theorem unfQ_b {ds : List D} {o : Option Slot} : unfQ (some (.bor ds)) o i es = es := nr rfl
theorem unfQ_n {o : Option Slot} : unfQ (some .no) o i es = es := nr rfl
def En.unf (E : En) (i : Nat) (es0 : Env) : En := ⟨fun es S => E.nx (unfS i es0 es) S, E.rt, fun es S => E.bk (unfS i es0 es) S, fun es S => E.ct (unfS i es0 es) S, fun c p es S => E.ex c p (unfS i es0 es) S⟩
theorem unf_nx : (E.unf i es0).nx es S = E.nx (unfS i es0 es) S := nr rfl
theorem unf_rt {r : RV} : (E.unf i es0).rt r S = E.rt r S := nr rfl
theorem unf_bk : (E.unf i es0).bk es S = E.bk (unfS i es0 es) S := nr rfl
theorem unf_ct : (E.unf i es0).ct es S = E.ct (unfS i es0 es) S := nr rfl
theorem unf_ex {c : Nat} {p : List D} : (E.unf i es0).ex c p es S = E.ex c p (unfS i es0 es) S := nr rfl
theorem w_frz : WS (sFrz i a es S) E = WS (a (frzS i es) S) (E.unf i es) := by
  unfold sFrz
  cases a (frzS i es) S <;> rfl
theorem WR_noEx {T : Type} {r : Res T} {Q : T → Store → Prop} (h : WR r Q fun _ _ _ => False) : WR (noEx r) Q X := by
  cases r with
  | ok _ _ => exact h
  | ex _ _ _ => exact h.elim
  | bad => exact h
abbrev XF : QX := fun _ _ _ => False
def kComp (g : MG) (t : MB) (m : ME) (vs : List Nat) (es : Env) (Q : RV → Store → Prop) (X : QX) (x : List D × (Store → Prop)) (S : Store) : Prop :=
  x.1.length ≤ sizeLine ∧ WR (noEx (compL x.2 g t m (wipeE es vs) x.1 S)) (fun ds S2 => Q (.l true ds) S2) X
theorem w_comp {mi : MI} {g : MG} {t : MB} {vs : List Nat} {Q : RV → Store → Prop} : WR (eComp mi g t m vs es S) Q X = WR (mi es S) (kComp g t m vs es Q X) X := by
  unfold eComp kComp
  simp only [WR_bind, WR_ite]
  rfl
theorem compL_inv {ck : Store → Prop} {g : MG} {t : MB} {ds : List D} (I : Nat → List D → Store → Prop) (hck : ∀ i ys S, I i ys S → ck S)
    (step : ∀ i x ys S, ds[i]? = some x → I i ys S → ∃ es1, g x es = some es1 ∧ WR (t es1 S) (fun x S1 => (x = true → WR (m es1 S1) (fun r S2 => QI r S2 fun d S3 => I (i + 1) (ys ++ [d]) S3) XF) ∧ (x = false → I (i + 1) ys S1)) XF) :
    ∀ (xs : List D) (i : Nat) (ys : List D) (S : Store), i + xs.length = ds.length → (∀ j, xs[j]? = ds[i + j]?) → I i ys S → WR (compL ck g t m es xs S) (fun zs S1 => I ds.length (ys ++ zs) S1) XF
  | [], i, ys, S, hl, _, h => by
    show WR (@ite _ (ck S) (Classical.propDecidable _) _ _) _ _
    rw [WR_ite]
    have e : i = ds.length := hl
    subst e
    exact ⟨hck _ _ _ h, (by rw [List.append_nil]; exact h : I ds.length (ys ++ []) S)⟩
  | x :: xs, i, ys, S, hl, hj, h => by
    show WR (@ite _ (ck S) (Classical.propDecidable _) _ _) _ _
    rw [WR_ite]
    refine ⟨hck _ _ _ h, ?_⟩
    obtain ⟨es1, e1, w⟩ := step i x ys S ((hj 0).symm.trans rfl) h
    rw [e1]
    show WR (Res.bind _ _) _ _
    rw [WR_bind]
    refine WR_mono w (fun b S1 q => ?_) fun _ _ _ h => h
    have ih := fun ys S q => compL_inv I hck step xs (i + 1) ys S (by simp at hl; omega) (fun j => by have := hj (j + 1); simp at this; rw [this]; congr 1; omega) q
    cases b with
    | false => exact ih ys S1 (q.2 rfl)
    | true =>
      show WR (Res.bind _ _) _ _
      simp only [WR_bind, WR_item]
      refine WR_mono (q.1 rfl) (fun r S2 q => ?_) fun _ _ _ h => h
      cases r with
      | l f _ =>
        cases f with
        | false => exact q.elim
        | true => exact WR_mono (ih _ _ q) (fun zs S3 z => by rw [List.append_assoc] at z; exact z) fun _ _ _ h => h
      | d d => exact WR_mono (ih _ _ q) (fun zs S3 z => by rw [List.append_assoc] at z; exact z) fun _ _ _ h => h
theorem comp_inv {ck : Store → Prop} {g : MG} {t : MB} {ds : List D} {vs : List Nat} {Q : RV → Store → Prop} (I : Nat → List D → Store → Prop) (hl : ds.length ≤ sizeLine) (h0 : I 0 [] S) (hck : ∀ i ys S, I i ys S → ck S)
    (step : ∀ i x ys S, ds[i]? = some x → I i ys S → ∃ es1, g x (wipeE es vs) = some es1 ∧ WR (t es1 S) (fun x S1 => (x = true → WR (m es1 S1) (fun r S2 => QI r S2 fun d S3 => I (i + 1) (ys ++ [d]) S3) XF) ∧ (x = false → I (i + 1) ys S1)) XF)
    (fin : ∀ ys S, I ds.length ys S → Q (.l true ys) S) : kComp g t m vs es Q X (ds, ck) S :=
  ⟨hl, WR_noEx (WR_mono (compL_inv I hck step ds 0 [] S (by simp) (fun j => by simp) h0) (fun zs S1 q => fin _ _ q) fun _ _ _ h => h)⟩
theorem comp_pure {ck : Store → Prop} {g : MG} {t : MB} {ds : List D} {vs : List Nat} {Q : RV → Store → Prop} (p : D → Bool) (f : D → D) (hl : ds.length ≤ sizeLine) (hck : ck S)
    (step : ∀ (i : Nat) x, ds[i]? = some x → ∃ es1, g x (wipeE es vs) = some es1 ∧ WR (t es1 S) (fun y S1 => y = p x ∧ S1 = S) XF ∧ (p x = true → WR (m es1 S) (fun r S1 => r = .d (f x) ∧ S1 = S) XF))
    (fin : Q (.l true ((ds.filter p).map f)) S) : kComp g t m vs es Q X (ds, ck) S := by
  refine comp_inv (fun i ys S1 => S1 = S ∧ ys = ((ds.take i).filter p).map f) hl ⟨rfl, by simp⟩ (fun i ys S1 h => h.1 ▸ hck) (fun i x ys S1 hx h => ?_) (fun ys S1 h => ?_)
  · obtain ⟨rfl, rfl⟩ := h
    obtain ⟨es1, e1, ht, hm⟩ := step i x hx
    have tk : ds.take (i + 1) = ds.take i ++ [x] := by
      rw [List.take_succ, hx]; rfl
    refine ⟨es1, e1, WR_mono ht (fun y S2 h => ?_) fun _ _ _ h => h⟩
    obtain ⟨rfl, rfl⟩ := h
    refine ⟨fun hp => WR_mono (hm hp) (fun r S3 h => ?_) (fun _ _ _ h => h), fun hp => ⟨rfl, ?_⟩⟩
    · obtain ⟨rfl, rfl⟩ := h
      refine ⟨rfl, ?_⟩
      rw [tk, List.filter_append, List.map_append]
      simp [hp]
    · rw [tk, List.filter_append, List.map_append]
      simp [hp]
  · obtain ⟨rfl, rfl⟩ := h
    rw [List.take_length]
    exact fin
theorem comp_map {ck : Store → Prop} {g : MG} {ds : List D} {vs : List Nat} {Q : RV → Store → Prop} (f : D → D) (hl : ds.length ≤ sizeLine) (hck : ck S)
    (step : ∀ (i : Nat) x, ds[i]? = some x → ∃ es1, g x (wipeE es vs) = some es1 ∧ WR (m es1 S) (fun r S1 => r = .d (f x) ∧ S1 = S) XF)
    (fin : Q (.l true (ds.map f)) S) : kComp g bYes m vs es Q X (ds, ck) S :=
  comp_pure (fun _ => true) f hl hck (fun i x hx => let ⟨es1, e1, h⟩ := step i x hx; ⟨es1, e1, ⟨rfl, rfl⟩, fun _ => h⟩) (by rw [List.filter_eq_self.mpr (fun _ _ => rfl)]; exact fin)
end

section
variable {S : Store} {Q : RV → Store → Prop} {X : QX} {rs : List RV} {m n k : Nat} {b : MS}
def EnF (Q : RV → Store → Prop) (X : QX) : En := ⟨fun _ S => Q (.d .non) S, fun r S => match r with
  | .l false _ => False
  | r => Q r S, fun _ _ => False, fun _ _ => False, fun c p _ S => X c p S⟩
theorem EnF_nx {es : Env} : (EnF Q X).nx es S = Q (.d .non) S := nr rfl
theorem EnF_d {x : D} : (EnF Q X).rt (.d x) S = Q (.d x) S := nr rfl
theorem EnF_l {x : List D} : (EnF Q X).rt (.l true x) S = Q (.l true x) S := nr rfl
theorem EnF_ex {es : Env} {c : Nat} {p : List D} : (EnF Q X).ex c p es S = X c p S := nr rfl
theorem fun_w (h : WS (b (startE k rs) S) (EnF Q X)) (hl : rs.length = n := by rfl) : WR (okR (mFun n k b rs S)) Q X := by
  unfold mFun
  rw [if_pos hl]
  cases e : b (startE k rs) S with
  | nx es S' => rw [e] at h; exact h
  | rt r S' =>
    rw [e] at h
    cases r with
    | d x => exact h
    | l f x =>
      cases f with
      | true => exact h
      | false => exact h.elim
  | bk es S' => rw [e] at h; exact h.elim
  | ct es S' => rw [e] at h; exact h.elim
  | ex c p es S' => rw [e] at h; exact h
  | bad => rw [e] at h; exact h.elim
theorem eq_of {f : Res RV} {r : RV} {S' : Store} (h : WR (okR f) (fun a S1 => a = r ∧ S1 = S') XF) : f = .ok r S' := by
  cases f with
  | ok a S1 =>
    cases a with
    | d x => obtain ⟨e1, e2⟩ := h; rw [e1, e2]
    | l p x =>
      cases p with
      | true => obtain ⟨e1, e2⟩ := h; rw [e1, e2]
      | false => exact h.elim
  | ex _ _ _ => exact h.elim
  | bad => exact h.elim
end
theorem startE_1 {k : Nat} {a : RV} : startE (k + 1) [a] = slotOf a :: List.replicate k .no := nr rfl
theorem startE_2 {k : Nat} {a b : RV} : startE (k + 2) [a, b] = slotOf a :: slotOf b :: List.replicate k .no := nr rfl
theorem startE_3 {k : Nat} {a b c : RV} : startE (k + 3) [a, b, c] = slotOf a :: slotOf b :: slotOf c :: List.replicate k .no := nr rfl
theorem startE_4 {k : Nat} {a b c d : RV} : startE (k + 4) [a, b, c, d] = slotOf a :: slotOf b :: slotOf c :: slotOf d :: List.replicate k .no := nr rfl
theorem slot_d {x : D} : slotOf (.d x) = .v x := nr rfl
theorem slot_f {x : List D} : slotOf (.l false x) = .bor x := nr rfl
end DM

namespace DM
open PySem PySem.Spec L2

open Classical in
noncomputable def gd (c : Prop) (o : OV) : Option OV := if c then some o else none
theorem gd_of {c : Prop} {hc : Decidable c} {o : OV} : @ite _ c hc (some o) none = gd c o := by
  unfold gd
  by_cases h : c
  · rw [if_pos h, if_pos h]
  · rw [if_neg h, if_neg h]
theorem QO_gd {c : Prop} {o : OV} {S : Store} {Q : RV → Store → Prop} : QO (gd c o) S Q = (c ∧ QO (some o) S Q) := by
  unfold gd
  by_cases h : c
  · rw [if_pos h]; exact propext ⟨fun q => ⟨h, q⟩, fun q => q.2⟩
  · rw [if_neg h]; exact propext ⟨fun q => q.elim, fun q => (h q.1).elim⟩
section
variable {S : Store} {i j : Int} {x y : Str} {xs ys : List D} {p q : Bool}
theorem add_ii : addF S (.d (.int i)) (.d (.int j)) = some (.d (.int (i + j))) := nr rfl
theorem add_ss : addF S (.d (.str x)) (.d (.str y)) = gd (x.length + y.length ≤ sizeLine) (.d (.str (x ++ y))) := gd_of
theorem add_tt : addF S (.d (.tup xs)) (.d (.tup ys)) = gd (xs.length + ys.length ≤ sizeLine) (.d (.tup (xs ++ ys))) := gd_of
theorem add_ll : addF S (.l p xs) (.l q ys) = gd (xs.length + ys.length ≤ sizeLine) (.l (xs ++ ys)) := gd_of
theorem sub_ii : subF S (.d (.int i)) (.d (.int j)) = some (.d (.int (i - j))) := nr rfl
theorem mul_ii : mulF S (.d (.int i)) (.d (.int j)) = gd (CMul i j ∨ CMulW i j) (.d (.int (i * j))) := gd_of
theorem mul_li : mulF S (.l p xs) (.d (.int j)) = gd (-(2 ^ 63) ≤ j ∧ j < 2 ^ 63 ∧ xs.length * j.toNat ≤ sizeLine) (.l (repL j.toNat xs)) := gd_of
theorem div_ii : fdivF S (.d (.int i)) (.d (.int j)) = gd (CDivW i j) (.d (.int (i / j))) := gd_of
theorem mod_ii : modF S (.d (.int i)) (.d (.int j)) = gd (0 < j) (.d (.int (i % j))) := gd_of
theorem pow_ii : powF S (.d (.int i)) (.d (.int j)) = gd (CPow i j) (.d (.int (i ^ j.toNat))) := gd_of
theorem shl_ii : shlF S (.d (.int i)) (.d (.int j)) = gd (CPow i j) (.d (.int (i * 2 ^ j.toNat))) := gd_of
theorem shr_ii : shrF S (.d (.int i)) (.d (.int j)) = gd (0 ≤ j) (.d (.int (i / 2 ^ j.toNat))) := gd_of
theorem lt_ii : ltF S (.d (.int i)) (.d (.int j)) = some (.d (.bl (decide (i < j)))) := nr rfl
theorem le_ii : leF S (.d (.int i)) (.d (.int j)) = some (.d (.bl (decide (i ≤ j)))) := nr rfl
theorem gt_ii : gtF S (.d (.int i)) (.d (.int j)) = some (.d (.bl (decide (j < i)))) := nr rfl
theorem ge_ii : geF S (.d (.int i)) (.d (.int j)) = some (.d (.bl (decide (j ≤ i)))) := nr rfl
theorem neg_i : negF S (.d (.int i)) = some (.d (.int (-i))) := nr rfl
theorem and_ii : andF S (.d (.int i)) (.d (.int j)) = some (.d (.int (Builtin.bitAnd i j))) := nr rfl
theorem or_ii : orF S (.d (.int i)) (.d (.int j)) = some (.d (.int (Builtin.bitOr i j))) := nr rfl
theorem xor_ii : xorF S (.d (.int i)) (.d (.int j)) = some (.d (.int (Builtin.bitXor i j))) := nr rfl
theorem is_n {r : RV} : isF S r (.d .non) = some (.d (.bl (isNon r))) := nr rfl
theorem isnt_n {r : RV} : isntF S r (.d .non) = some (.d (.bl (!isNon r))) := nr rfl
theorem isNon_n : isNon (.d .non) = true := nr rfl
theorem isNon_b : isNon (.d (.bl p)) = false := nr rfl
theorem isNon_i : isNon (.d (.int i)) = false := nr rfl
theorem isNon_s : isNon (.d (.str x)) = false := nr rfl
theorem isNon_t : isNon (.d (.tup xs)) = false := nr rfl
theorem isNon_o {n : Nat} : isNon (.d (.loc n)) = false := nr rfl
theorem isNon_l : isNon (.l p xs) = false := nr rfl
theorem isNon_e {c : Nat} {ps : List D} : isNon (.d (.exn c ps)) = false := nr rfl
def lstO (o : Option O) : Option (List D) := match o with
  | some (.lst ds) => some ds
  | _ => none
theorem lstO_e : lstO (some (.lst xs)) = some xs := nr rfl
theorem lstOf_l : lstOf S (.l p xs) = some xs := nr rfl
theorem lstOf_o {n : Nat} : lstOf S (.d (.loc n)) = lstO S[n]? := nr rfl
theorem om_some {T U : Type} {a : T} {f : T → U} : (some a).map f = some (f a) := nr rfl
theorem ix_t : ixF S (.d (.tup xs)) (.d (.int i)) = (atI xs i).map OV.d := nr rfl
theorem ix_s : ixF S (.d (.str x)) (.d (.int i)) = if x.length ≤ sizeLine then (atI x.cps.toList i).map fun c => OV.d (.str ⟨#[c]⟩) else none := nr rfl
theorem ix_l : ixF S (.l p xs) (.d (.int i)) = (atI xs i).map OV.d := nr rfl
theorem ix_o {n : Nat} : ixF S (.d (.loc n)) (.d (.int i)) = (lstO S[n]?).bind fun ds => (atI ds i).map OV.d := nr rfl
theorem len_s : lenF S [.d (.str x)] = gd (x.length ≤ sizeLine) (.d (.int (x.length : Nat))) := gd_of
theorem len_t : lenF S [.d (.tup xs)] = some (.d (.int (xs.length : Nat))) := nr rfl
theorem len_l : lenF S [.l p xs] = some (.d (.int (xs.length : Nat))) := nr rfl
theorem len_o {n : Nat} : lenF S [.d (.loc n)] = (lstO S[n]?).map fun ds => .d (.int (ds.length : Nat)) := nr rfl
theorem intsOf_map : ∀ ns : List Int, intsOf (ns.map D.int) = some ns
  | [] => rfl
  | n :: r => by show (intsOf (r.map D.int)).map _ = _; rw [intsOf_map r]; rfl
theorem blsOf_map : ∀ ns : List Bool, blsOf (ns.map D.bl) = some ns
  | [] => rfl
  | n :: r => by show (blsOf (r.map D.bl)).map _ = _; rw [blsOf_map r]; rfl
theorem sum_l : sumF S [.l p xs] = (intsOf xs).bind fun ns => some (.d (.int ns.sum)) := nr rfl
theorem all_l : allF S [.l p xs] = (blsOf xs).bind fun ns => some (.d (.bl (ns.all id))) := nr rfl
theorem any_l : anyF S [.l p xs] = (blsOf xs).bind fun ns => some (.d (.bl (ns.any id))) := nr rfl
theorem max_ii : maxF S [.d (.int i), .d (.int j)] = some (.d (.int (if j > i then j else i))) := nr rfl
theorem min_ii : minF S [.d (.int i), .d (.int j)] = some (.d (.int (if j < i then j else i))) := nr rfl
theorem max_l : maxF S [.l p xs] = (intsOf xs).bind fun ns => gd (ns ≠ []) (.d (.int (maxI ns))) := by
  show (intsOf xs).bind _ = _
  congr 1
  funext ns
  show (if ns = [] then none else some _) = _
  unfold gd
  by_cases h : ns = []
  · rw [if_pos h, if_neg (fun z => z h)]
  · rw [if_neg h, if_pos h]
theorem min_l : minF S [.l p xs] = (intsOf xs).bind fun ns => gd (ns ≠ []) (.d (.int (minI ns))) := by
  show (intsOf xs).bind _ = _
  congr 1
  funext ns
  show (if ns = [] then none else some _) = _
  unfold gd
  by_cases h : ns = []
  · rw [if_pos h, if_neg (fun z => z h)]
  · rw [if_neg h, if_pos h]
theorem tup_t : tupF S [.d (.tup xs)] = some (.d (.tup xs)) := nr rfl
theorem tup_l : tupF S [.l p xs] = some (.d (.tup xs)) := nr rfl
theorem tup_o {n : Nat} : tupF S [.d (.loc n)] = (lstO S[n]?).map fun ds => .d (.tup ds) := nr rfl
theorem list_t : listF S [.d (.tup xs)] = some (.l xs) := nr rfl
theorem list_l : listF S [.l p xs] = some (.l xs) := nr rfl
theorem list_o {n : Nat} : listF S [.d (.loc n)] = (lstO S[n]?).map fun ds => .l ds := nr rfl
theorem int_i : intF S [.d (.int i)] = some (.d (.int i)) := nr rfl
theorem int_b : intF S [.d (.bl p)] = some (.d (.int (if p = true then 1 else 0))) := by cases p <;> rfl
theorem str_i : strF S [.d (.int i)] = gd (i.natAbs.log2 < 1920) (.d (.str (toString i))) := gd_of
theorem sl_t {lo hi : Option Int} : slF S (.d (.tup xs)) lo hi = some (.d (.tup (cutL xs lo hi))) := nr rfl
theorem sl_l {lo hi : Option Int} : slF S (.l p xs) lo hi = some (.l (cutL xs lo hi)) := nr rfl
theorem sl_s {ns : List Int} {lo hi : Option Int} : slF S (.d (.scr ns)) lo hi = some (.l ((cutL ns lo hi).map D.int)) := nr rfl
theorem eq_ii : eqF S (.d (.int i)) (.d (.int j)) = some (.d (.bl (decide (i = j)))) := by
  have e : eqF S (.d (.int i)) (.d (.int j)) = some (OV.d (D.bl (PyData.eqv (.int i) (.int j)))) := rfl
  rw [e]
  congr 3
theorem ne_ii : neF S (.d (.int i)) (.d (.int j)) = some (.d (.bl (!decide (i = j)))) := by
  have e : neF S (.d (.int i)) (.d (.int j)) = some (OV.d (D.bl (!PyData.eqv (.int i) (.int j)))) := rfl
  rw [e]
  congr 3
theorem eq_bb : eqF S (.d (.bl p)) (.d (.bl q)) = some (.d (.bl (p == q))) := by
  cases p <;> cases q <;> rfl
theorem ne_bb : neF S (.d (.bl p)) (.d (.bl q)) = some (.d (.bl (!(p == q)))) := by
  cases p <;> cases q <;> rfl
theorem isi_non_int : isiF S [.d .non, .d (.ty "int")] = some (.d (.bl false)) := nr rfl
theorem isi_non_bool : isiF S [.d .non, .d (.ty "bool")] = some (.d (.bl false)) := nr rfl
theorem isi_non_str : isiF S [.d .non, .d (.ty "str")] = some (.d (.bl false)) := nr rfl
theorem isi_non_tuple : isiF S [.d .non, .d (.ty "tuple")] = some (.d (.bl false)) := nr rfl
theorem isi_non_list : isiF S [.d .non, .d (.ty "list")] = some (.d (.bl false)) := nr rfl
theorem isi_non_tl : isiF S [.d .non, .d (.tup [.ty "tuple", .ty "list"])] = some (.d (.bl false)) := nr rfl
theorem isi_bl_int {b : Bool} : isiF S [.d (.bl b), .d (.ty "int")] = some (.d (.bl true)) := nr rfl
theorem isi_bl_bool {b : Bool} : isiF S [.d (.bl b), .d (.ty "bool")] = some (.d (.bl true)) := nr rfl
theorem isi_bl_str {b : Bool} : isiF S [.d (.bl b), .d (.ty "str")] = some (.d (.bl false)) := nr rfl
theorem isi_bl_tuple {b : Bool} : isiF S [.d (.bl b), .d (.ty "tuple")] = some (.d (.bl false)) := nr rfl
theorem isi_bl_list {b : Bool} : isiF S [.d (.bl b), .d (.ty "list")] = some (.d (.bl false)) := nr rfl
theorem isi_bl_tl {b : Bool} : isiF S [.d (.bl b), .d (.tup [.ty "tuple", .ty "list"])] = some (.d (.bl false)) := nr rfl
theorem isi_int_int {i : Int} : isiF S [.d (.int i), .d (.ty "int")] = some (.d (.bl true)) := nr rfl
theorem isi_int_bool {i : Int} : isiF S [.d (.int i), .d (.ty "bool")] = some (.d (.bl false)) := nr rfl
theorem isi_int_str {i : Int} : isiF S [.d (.int i), .d (.ty "str")] = some (.d (.bl false)) := nr rfl
theorem isi_int_tuple {i : Int} : isiF S [.d (.int i), .d (.ty "tuple")] = some (.d (.bl false)) := nr rfl
theorem isi_int_list {i : Int} : isiF S [.d (.int i), .d (.ty "list")] = some (.d (.bl false)) := nr rfl
theorem isi_int_tl {i : Int} : isiF S [.d (.int i), .d (.tup [.ty "tuple", .ty "list"])] = some (.d (.bl false)) := nr rfl
theorem isi_str_int {x : Str} : isiF S [.d (.str x), .d (.ty "int")] = some (.d (.bl false)) := nr rfl
theorem isi_str_bool {x : Str} : isiF S [.d (.str x), .d (.ty "bool")] = some (.d (.bl false)) := nr rfl
theorem isi_str_str {x : Str} : isiF S [.d (.str x), .d (.ty "str")] = some (.d (.bl true)) := nr rfl
theorem isi_str_tuple {x : Str} : isiF S [.d (.str x), .d (.ty "tuple")] = some (.d (.bl false)) := nr rfl
theorem isi_str_list {x : Str} : isiF S [.d (.str x), .d (.ty "list")] = some (.d (.bl false)) := nr rfl
theorem isi_str_tl {x : Str} : isiF S [.d (.str x), .d (.tup [.ty "tuple", .ty "list"])] = some (.d (.bl false)) := nr rfl
theorem isi_tup_int {ds : List D} : isiF S [.d (.tup ds), .d (.ty "int")] = some (.d (.bl false)) := nr rfl
theorem isi_tup_bool {ds : List D} : isiF S [.d (.tup ds), .d (.ty "bool")] = some (.d (.bl false)) := nr rfl
theorem isi_tup_str {ds : List D} : isiF S [.d (.tup ds), .d (.ty "str")] = some (.d (.bl false)) := nr rfl
theorem isi_tup_tuple {ds : List D} : isiF S [.d (.tup ds), .d (.ty "tuple")] = some (.d (.bl true)) := nr rfl
theorem isi_tup_list {ds : List D} : isiF S [.d (.tup ds), .d (.ty "list")] = some (.d (.bl false)) := nr rfl
theorem isi_tup_tl {ds : List D} : isiF S [.d (.tup ds), .d (.tup [.ty "tuple", .ty "list"])] = some (.d (.bl true)) := nr rfl
theorem isi_l_int {p : Bool} {ds : List D} : isiF S [.l p ds, .d (.ty "int")] = some (.d (.bl false)) := nr rfl
theorem isi_l_bool {p : Bool} {ds : List D} : isiF S [.l p ds, .d (.ty "bool")] = some (.d (.bl false)) := nr rfl
theorem isi_l_str {p : Bool} {ds : List D} : isiF S [.l p ds, .d (.ty "str")] = some (.d (.bl false)) := nr rfl
theorem isi_l_tuple {p : Bool} {ds : List D} : isiF S [.l p ds, .d (.ty "tuple")] = some (.d (.bl false)) := nr rfl
theorem isi_l_list {p : Bool} {ds : List D} : isiF S [.l p ds, .d (.ty "list")] = some (.d (.bl true)) := nr rfl
theorem isi_l_tl {p : Bool} {ds : List D} : isiF S [.l p ds, .d (.tup [.ty "tuple", .ty "list"])] = some (.d (.bl true)) := nr rfl
theorem st_self {n : Nat} {o : O} (h : S[n]? = some o) (x : O) : (S.set n x)[n]? = some x := by
  have := (List.getElem?_eq_some_iff.mp h).1
  rw [List.getElem?_set_self this]
theorem st_ne {n k : Nat} (h : n ≠ k) (x : O) : (S.set n x)[k]? = S[k]? := List.getElem?_set_ne h
theorem st_new {o : O} : (S ++ [o])[S.length]? = some o := by simp
theorem st_old {n : Nat} {o o' : O} (h : S[n]? = some o) : (S ++ [o'])[n]? = some o := by
  have := (List.getElem?_eq_some_iff.mp h).1
  rw [List.getElem?_append_left this, h]
theorem ixN_nat {n j : Nat} (h : j < n) : ixN n (j : Int) = some j := by
  unfold ixN
  rw [if_pos (Int.natCast_nonneg j), if_pos (by omega)]
  rfl
theorem ixN_int {n : Nat} {i : Int} (h : 0 ≤ i) (h2 : i < n) : ixN n i = some i.toNat := by
  unfold ixN
  rw [if_pos h, if_pos h2]
theorem ixN_00 {n : Nat} : ixN (n + 1) 0 = some 0 := by
  unfold ixN
  rw [if_pos (by decide), if_pos (by omega)]
  rfl
theorem ixN_1 {n : Nat} : ixN (n + 2) 1 = some 1 := by
  unfold ixN
  rw [if_pos (by decide), if_pos (by omega)]
  rfl
theorem ixN_2 {n : Nat} : ixN (n + 3) 2 = some 2 := by
  unfold ixN
  rw [if_pos (by decide), if_pos (by omega)]
  rfl
theorem ixN_3 {n : Nat} : ixN (n + 4) 3 = some 3 := by
  unfold ixN
  rw [if_pos (by decide), if_pos (by omega)]
  rfl
theorem atI_0 {a : D} : atI (a :: xs) 0 = some a := by unfold atI; rw [List.length_cons, ixN_00]; rfl
theorem atI_1 {a b : D} : atI (a :: b :: xs) 1 = some b := by unfold atI; rw [List.length_cons, List.length_cons, ixN_1]; rfl
theorem atI_2 {a b c : D} : atI (a :: b :: c :: xs) 2 = some c := by unfold atI; rw [List.length_cons, List.length_cons, List.length_cons, ixN_2]; rfl
theorem atI_3 {a b c d : D} : atI (a :: b :: c :: d :: xs) 3 = some d := by unfold atI; rw [List.length_cons, List.length_cons, List.length_cons, List.length_cons, ixN_3]; rfl
theorem atI_nat {T : Type} {l : List T} {j : Nat} (h : j < l.length) : atI l (j : Int) = l[j]? := by unfold atI; rw [ixN_nat h]; rfl
theorem atI_int {T : Type} {l : List T} {i : Int} (h : 0 ≤ i) (h2 : i < l.length) : atI l i = l[i.toNat]? := by unfold atI; rw [ixN_int h h2]; rfl
theorem atI_map {T U : Type} {l : List T} {f : T → U} {i : Int} : atI (l.map f) i = (atI l i).map f := by
  unfold atI
  rw [List.length_map]
  cases ixN l.length i with
  | none => rfl
  | some j => simp
theorem atI_get {T : Type} {l : List T} {i : Int} (h : 0 ≤ i) (h2 : i < l.length) : ∃ a, atI l i = some a ∧ a ∈ l ∧ l[i.toNat]? = some a := by
  rw [atI_int h h2]
  have : i.toNat < l.length := by omega
  exact ⟨l[i.toNat], List.getElem?_eq_getElem this, List.getElem_mem this, List.getElem?_eq_getElem this⟩
end
end DM

namespace DM
open PySem PySem.Spec L2
section
variable {es : Env} {S : Store} {E : En} {b : MS} {n y c : Nat}
theorem w_raise : WS (sRaise c es S) E = E.ex c [] es S := nr rfl
def En.tr (E : En) (n y : Nat) : En := ⟨E.nx, E.rt, E.bk, E.ct, fun c p es S => match p with
  | [] => E.nx ((es.set y (.v (.exn c []))).set n .no) S
  | [d] => E.nx ((es.set y (.v (.exn c [d]))).set n .no) S
  | _ => False⟩
theorem tr_nx : (E.tr n y).nx es S = E.nx es S := nr rfl
theorem tr_rt {r : RV} : (E.tr n y).rt r S = E.rt r S := nr rfl
theorem tr_bk : (E.tr n y).bk es S = E.bk es S := nr rfl
theorem tr_ct : (E.tr n y).ct es S = E.ct es S := nr rfl
theorem tr_ex : (E.tr n y).ex c [] es S = E.nx ((es.set y (.v (.exn c []))).set n .no) S := nr rfl
theorem w_try : WS (sTry n y b es S) E = WS (b es S) (E.tr n y) := by
  unfold sTry
  cases b es S with
  | ex c p es' S' =>
    cases p with
    | nil => exact (tr_ex).symm
    | cons a r => cases r <;> rfl
  | _ => rfl
end
section
variable {es : Env} {S : Store} {Q : RV → Store → Prop} {X : QX} {ms : List ME} {tbl : Nat → MF} {i n : Nat} {o : ME} {f : FM} {T : String}
def QCL (s : Option Slot) (tbl : Nat → MF) (ms : List ME) (es : Env) (S : Store) (Q : RV → Store → Prop) (X : QX) : Prop := match s with
  | some (.v (.fn n)) => WR (eArgs ms es S) (kCall (tbl n) Q X) X
  | _ => False
theorem QCL_e : QCL (some (.v (.fn n))) tbl ms es S Q X = WR (eArgs ms es S) (kCall (tbl n) Q X) X := nr rfl
theorem w_callL : WR (eCallL i tbl ms es S) Q X = QCL es[i]? tbl ms es S Q X := by
  unfold eCallL QCL
  cases es[i]? with
  | none => rfl
  | some s =>
    cases s with
    | v x =>
      cases x <;> try rfl
      exact w_call
    | _ => rfl
def kMt2 (f : FM) (x : RV) (Q : RV → Store → Prop) (xs : List RV) (S : Store) : Prop := QO (f S x xs) S Q
def kMt (T : String) (f : FM) (ms : List ME) (es : Env) (Q : RV → Store → Prop) (X : QX) (x : RV) (S : Store) : Prop := tyF T S x.weak = true ∧ WR (eArgs ms es S) (kMt2 f x.weak Q) X
theorem kMt2_e {x : RV} {xs : List RV} : kMt2 f x Q xs S = QO (f S x xs) S Q := nr rfl
theorem kMt_l {p : Bool} {ds : List D} : kMt "list" f ms es Q X (.l p ds) S = WR (eArgs ms es S) (kMt2 f (.l false ds) Q) X := nr (propext ⟨fun h => h.2, fun h => ⟨rfl, h⟩⟩)
theorem kMt_s {z : Str} : kMt "str" f ms es Q X (.d (.str z)) S = WR (eArgs ms es S) (kMt2 f (.d (.str z)) Q) X := nr (propext ⟨fun h => h.2, fun h => ⟨rfl, h⟩⟩)
theorem kMt_o {n : Nat} : kMt "list" f ms es Q X (.d (.loc n)) S = ((lstO S[n]?).isSome = true ∧ WR (eArgs ms es S) (kMt2 f (.d (.loc n)) Q) X) := nr (by
  unfold kMt
  congr 1)
theorem w_mt : WR (eMt T f o ms es S) Q X = WR (o es S) (kMt T f ms es Q X) X := by
  unfold eMt kMt
  simp only [WR_bind, WR_ite, WR_ofO]
  rfl
end
end DM

namespace DM
open PySem PySem.Spec L2
section
variable {es : Env} {S : Store} {E : En} {X : QX} {m n k : ME} {i l : Nat}
def QXT (o : Option (List D)) (o' : Option O) (l : Nat) (es : Env) (E : En) (S : Store) : Prop := match o, o' with
  | some ys, some (.lst ds) => ds.length + ys.length ≤ sizeLine ∧ E.nx es (S.set l (.lst (ds ++ ys)))
  | _, _ => False
theorem QXT_e {ys ds : List D} : QXT (some ys) (some (.lst ds)) l es E S = (ds.length + ys.length ≤ sizeLine ∧ E.nx es (S.set l (.lst (ds ++ ys)))) := nr rfl
def kExtT (l : Nat) (es : Env) (E : En) (r : RV) (S : Store) : Prop := QXT (lstOf S r.weak) S[l]? l es E S
theorem kExtT_l {p : Bool} {ys : List D} : kExtT l es E (.l p ys) S = QXT (some ys) S[l]? l es E S := nr rfl
theorem kExtT_d {x : D} : kExtT l es E (.d x) S = QXT (lstOf S (.d x)) S[l]? l es E S := nr rfl
def QExt2 (o : Option Slot) (i : Nat) (m : ME) (es : Env) (S : Store) (E : En) : Prop := match o with
  | some (.own ds) => WR (m es S) (kExtO ds i es E) (kX es E)
  | some (.v (.loc l)) => (∃ ds, S[l]? = some (.lst ds)) ∧ WR (m es S) (kExtT l es E) (kX es E)
  | _ => False
theorem QExt2_o {ds : List D} : QExt2 (some (.own ds)) i m es S E = WR (m es S) (kExtO ds i es E) (kX es E) := nr rfl
theorem QExt2_l : QExt2 (some (.v (.loc l))) i m es S E = ((∃ ds, S[l]? = some (.lst ds)) ∧ WR (m es S) (kExtT l es E) (kX es E)) := nr rfl
theorem exo_e {ds : List D} : (∃ ds', O.lst ds = O.lst ds') = True := nr (propext ⟨fun _ => trivial, fun _ => ⟨ds, rfl⟩⟩)
theorem w_ext2 : WS (sExt i m es S) E = QExt2 es[i]? i m es S E := by
  unfold sExt QExt2
  cases es[i]? with
  | none => rfl
  | some s =>
    cases s with
    | no => rfl
    | bor _ => rfl
    | own ds =>
      show WS (bindS _ _ _) E = _
      rw [WS_bindS]
      congr 1
      funext r S1
      show WS (match lstOf S1 r.weak with | some ys => _ | none => _) E = kExtO ds i es E r S1
      unfold kExtO
      cases lstOf S1 r.weak with
      | none => rfl
      | some ys => exact WS_ite
    | v y =>
      cases y <;> try rfl
      rename_i l
      show WS (match S[l]? with | some (.lst _) => _ | _ => _) E = (_ ∧ _)
      cases e : S[l]? with
      | none => exact propext ⟨fun q => q.elim, fun ⟨⟨_, z⟩, _⟩ => by cases z⟩
      | some o =>
        cases o with
        | dic _ => exact propext ⟨fun q => q.elim, fun ⟨⟨_, z⟩, _⟩ => by cases z⟩
        | ins _ _ => exact propext ⟨fun q => q.elim, fun ⟨⟨_, z⟩, _⟩ => by cases z⟩
        | obj _ _ => exact propext ⟨fun q => q.elim, fun ⟨⟨_, z⟩, _⟩ => by cases z⟩
        | lst d0 =>
          show WS (bindS _ _ _) E = _
          rw [WS_bindS]
          refine Eq.trans (b := WR (m es S) (kExtT l es E) (kX es E)) ?_ (propext ⟨fun q => ⟨⟨_, rfl⟩, q⟩, fun q => q.2⟩)
          congr 1
          funext r S1
          unfold kExtT QXT
          cases lstOf S1 r.weak with
          | none => rfl
          | some ys =>
            cases S1[l]? with
            | none => rfl
            | some o => cases o <;> first | rfl | exact WS_ite
theorem w_rng2 {Q : QMI} : WR (miRng2 m n es S) Q X = WR (eArgs [m, n] es S) (kR2 Q) X := by
  unfold miRng2
  rw [WR_bind]
  congr 1
  funext rs S1
  unfold kR2
  split
  · rw [WR_ite]; rfl
  · rename_i h
    first
      | rfl
      | (split
         · exact (h _ _ rfl).elim
         · rfl)
theorem w_rng3 {Q : QMI} : WR (miRng3 m n k es S) Q X = WR (eArgs [m, n, k] es S) (kR3 Q) X := by
  unfold miRng3
  rw [WR_bind]
  congr 1
  funext rs S1
  unfold kR3
  split
  · rw [WR_ite]; rfl
  · rename_i h
    first
      | rfl
      | (split
         · exact (h _ _ _ rfl).elim
         · rfl)
end
section
variable {G : GT} {W : WX} {X : Cx} {a b c : Expr} {ma mb mc : ME} {pos : Pos}
theorem chain_imp {r r' : R2} {f g : F2} (ho : SO2 G r f) (ho' : SO2 G r' g) (ha : SE G W X a ma) (hb : SE G W X b mb) (hc : SE G W X c mc) {σ : St} {H : Hp} {Q : VK} (h : rdE G W (eChain f g ma mb mc) σ H Q) : tChain r r' (rdE G W ma) (rdE G W mb) (rdE G W mc) σ H Q := by
  obtain ⟨P, ρ, es, S, s, q, h⟩ := h
  have nl : ∀ (x y : RV) (S2 : Store) rv S', (match f S2 x.weak y.weak with
      | some (.d (.bl true)) => (mc es S2).bind fun z S3 => ofO (g S3 y.weak z.weak) S3
      | some (.d (.bl false)) => .ok (.d (.bl false)) S2
      | _ => Res.bad) = .ok rv S' → ∀ ds, rv ≠ .l false ds := by
    intro x y S2 rv S' e
    split at e
    · exact bind_rv (fun _ _ => ofO_rv) rv S' e
    · cases e; intro ds z; cases z
    · cases e
  refine rdE_then s q h fun r1 S1 v ρ1 H1 e1 s1 k1 rr h => ?_
  obtain ⟨P1, hp, s1', rr1⟩ := protect s1 rr
  refine rdE_then s1' ((q.next k1).more hp) (Aft.more hp (bind_rv fun y S2 => nl r1 y S2) h) fun r2 S2 w ρ2 H2 e2 s2 k2 rr2 h2 => ?_
  obtain ⟨P2, hp2, s2', rr2'⟩ := protect s2 rr2
  have h3 := Aft.more hp2 (nl r1 r2 S2) h2
  have sub : ∀ a o, P a = some o → P2 a = some o := fun a o z => hp2 a o (hp a o z)
  split at h3
  · rename_i ef
    refine ho P2 ρ2 H2 S2 r1.weak r2.weak v w _ _ s2' (RR.more (RR.weak_mono k2 rr1) hp2) rr2' ef fun u H3 op => ?_
    obtain ⟨gr, ru⟩ := op
    cases ru
    refine ⟨true, rfl, ?_⟩
    show rdE G W mc σ H3 _
    have s3 := s2'.grow gr
    have tk3 : TK ρ2 H2 ρ2 H3 := TK.same gr
    have q3 := (((q.next k1).next k2).next tk3).more sub
    refine rdE_then s3 q3 (Aft.next tk3 h3) fun r4 S4 z ρ4 H4 e4 s4 k4 rr4 h4 => ?_
    obtain ⟨P4, hp4, s4', rr4'⟩ := protect s4 rr4
    cases eg : g S4 r2.weak r4.weak with
    | none => rw [eg] at h4; exact h4.elim
    | some ov =>
      rw [eg] at h4
      exact ho' P4 ρ4 H4 S4 r2.weak r4.weak w z Q ov s4' (RR.more (RR.weak_mono (tk3.trans k4) rr2') hp4) rr4' eg (op_end s4' hp4 h4)
  · rename_i ef
    refine ho P2 ρ2 H2 S2 r1.weak r2.weak v w _ _ s2' (RR.more (RR.weak_mono k2 rr1) hp2) rr2' ef fun u H3 op => ?_
    obtain ⟨gr, ru⟩ := op
    cases ru
    refine ⟨false, rfl, ?_⟩
    show Q (.bl false) H3
    exact h3 (.bl false) ρ2 H3 (s2'.grow gr) (TK.same gr) (.bl false)
  · exact h3.elim
theorem sb_chain {op op' : CmpOp} {r r' : R2} {f g : F2} (ho : OpR X (compareOp op) r ∧ SO2 G r f) (ho' : OpR X (compareOp op') r' ∧ SO2 G r' g) (ha : SE G W X a ma) (hb : SE G W X b mb) (hc : SE G W X c mc)
    (hm : lastMarks [op, op'] [b, c] = false := by with_unfolding_all rfl) : SB G W X (.Compare a [op, op'] [b, c] pos) (bOf (eChain f g ma mb mc)) :=
  ⟨(se_chain (pos := pos) ho ho' ha hb hc hm).k, PT.of (pt_chain ho.1 ho'.1 ha.pe hb.pe hc.pe hm) fun _ _ _ h => chain_imp ho.2 ho'.2 ha hb hc (rd_bOf h fun b _ q => ⟨b, rfl, q⟩)⟩
end
def isBF : F2 := fun _ a b => match a, b with
  | .d (.bl p), .d (.bl q) => some (.d (.bl (p == q)))
  | _, _ => none
def isntBF : F2 := fun _ a b => match a, b with
  | .d (.bl p), .d (.bl q) => some (.d (.bl (!(p == q))))
  | _, _ => none
section
variable {G : GT} {W : WX} {X : Cx} {a b : Expr} {ma mb : ME} {pos : Pos}
theorem so_isntB : SO2 G rNotB isntBF := by
  intro P ρ H S r1 r2 x y Q ov s h1 h2 e k
  unfold isntBF at e
  split at e
  · rename_i p q
    cases e
    cases h1
    cases h2
    refine ⟨p, q, rfl, rfl, ?_⟩
    have : decide (p = q) = (p == q) := by cases p <;> cases q <;> rfl
    rw [this]
    exact op_d k (.bl _)
  · cases e
theorem sb_isntB (ha : SE G W X a ma) (hb : SE G W X b mb) : SB G W X (.Compare a [.IsNot] [b] pos) (bOf (eOp2 isntBF ma mb)) := sb_cmp op_notBl so_isntB ha hb (nomark _)
theorem isB_bb {S : Store} {p q : Bool} : isBF S (.d (.bl p)) (.d (.bl q)) = some (.d (.bl (p == q))) := nr rfl
theorem isntB_bb {S : Store} {p q : Bool} : isntBF S (.d (.bl p)) (.d (.bl q)) = some (.d (.bl (!(p == q)))) := nr rfl
end
end DM

namespace L2
open PySem PySem.Spec PyProof.Rows
def rReprD (K : PySem.W.Frag) : List V → Hp → VK → Prop := fun xs H Q => ∃ (y : V) (d : PyData), xs = [y] ∧ Dp K H y d ∧ SeqAt.shaped d = true ∧ PyData.showable d = true ∧ (PyData.shown d).length ≤ sizeLine ∧ Q (.str (PyData.shown d)) H
theorem Room.u70 {k : Nat} {A : Around} (r : Room k A) : A.units + 70 < cLine := by have := r.un; omega
theorem call_reprD {X : Cx} (hu : X.A.units + 70 < cLine) (hg : X.A.guards = some []) : CallR X (.builtin "repr") (rReprD X.K) := by
  intro pins s σ H xs us Q I r h
  obtain ⟨y, d, rfl, hd, sh, sw, sz, q⟩ := h
  obtain ⟨u, rfl, ru⟩ : ∃ u, us = [u] ∧ RelV y u := by
    cases r with
    | cons a b => cases b; exact ⟨_, rfl, a⟩
  obtain ⟨as, rd⟩ := Dp.reads I d y u hd ru
  have dp := SeqAt.depth_of_shaped sh
  cases rd with
  | none => exact PySem.P.repr_of_none ⟨.str _, H, I.tok _, ⟨_, rfl⟩, q⟩
  | bool => exact PySem.P.repr_of_bool ⟨.str _, H, I.tok _, ⟨_, rfl⟩, q⟩
  | int => exact PySem.P.repr_of_int (of_decide_eq_true (by simpa only [PyData.showable] using sw)) ⟨.str _, H, I.tok _, ⟨_, rfl⟩, q⟩
  | str => exact PySem.P.repr_of_str ⟨.str _, H, I.tok _, ⟨_, rfl⟩, q⟩ sz
  | list a b c e => exact repr_of_reads' (.list a b c e) sw (PyData.noDict_hsm (PyData.hasDict_of_canLay _ (SeqAt.canLay_of_shaped sh))) hg (by omega) (fun _ _ z => z) (fun h' u' tk kp => ⟨.str _, H, I.kept kp, ⟨_, rfl⟩, q⟩) sz
  | tuple a b c e => exact repr_of_reads' (.tuple a b c e) sw (PyData.noDict_hsm (PyData.hasDict_of_canLay _ (SeqAt.canLay_of_shaped sh))) hg (by omega) (fun _ _ z => z) (fun h' u' tk kp => ⟨.str _, H, I.kept kp, ⟨_, rfl⟩, q⟩) sz
  | dict a b c e f => exact repr_of_reads' (.dict a b c e f) sw (PyData.noDict_hsm (PyData.hasDict_of_canLay _ (SeqAt.canLay_of_shaped sh))) hg (by omega) (fun _ _ z => z) (fun h' u' tk kp => ⟨.str _, H, I.kept kp, ⟨_, rfl⟩, q⟩) sz
end L2
namespace DM
open PySem PySem.Spec L2
def reprP (p : PyData) : Option OV := if SeqAt.shaped p = true ∧ PyData.showable p = true ∧ (PyData.shown p).length ≤ sizeLine then some (.d (.str (PyData.shown p))) else none
def reprF : FN := fun S rs => match rs with
  | [r] => (pyR S r).bind reprP
  | _ => none
theorem so_repr {G : GT} : SON G (rReprD G.K) reprF := by
  intro P ρ H S rs vs Q ov s h e k
  unfold reprF at e
  split at e
  · rename_i r
    obtain ⟨v, rfl, rv⟩ := rrs1 h
    cases z : pyR S r with
    | none => rw [z] at e; cases e
    | some p =>
      rw [z] at e
      have e : reprP p = some ov := e
      unfold reprP at e
      split at e
      · rename_i hc
        cases e
        exact ⟨v, p, rfl, dpR_of s rv z, hc.1, hc.2.1, hc.2.2, op_d k (.str _)⟩
      · cases e
  · cases e
section
variable {G : GT} {W : WX} {X : Cx} {a : Expr} {as : List Expr} {ms : List ME} {p pos : Pos}
theorem se_repr (hu : X.A.units + 70 < cLine) (hgd : X.A.guards = some []) (hg : Gl X "repr") (hm : X.mg "repr" = none) (ha : SA G W X (a :: as) ms) (he : starEach (a :: as) X.env = (false, eval a X.env) :: starEach as X.env := by rfl) (hpl : (backTo pos (starEach as X.env)).any (·.1) = false := by rfl) : SE G W X (.Call (.Name "repr" p) (a :: as) [] pos) (eOpN reprF ms) :=
  se_callB (call_reprD hu hgd) (by rw [ha.k]; exact so_repr) hg hm (by decide +kernel) ha (by decide) (by decide) he hpl
end
def FnC (P : Program) (w : World) (K : PySem.W.Frag) (mg : Str → Option Value) (base : Heap) (k : Nat) (f : Addr) (fd : FuncData) (ps : List Str) (sp : Sp) : Prop :=
  ∀ (s : Shared) (H : Hp) (args : Args) (us : List Value) (vs : List V) (Q : VK) (E : XK), Room k callerA → Env0 P w K mg base callerA [] s H → BindsTo s fd args (ps.zip us) → Vals vs us → sp vs H Q E →
    codeAny (model P w) callerA (.call (.ref f) args) (CR (L2.CX P w) [] P w H s Q E) s
section
variable {P : Program} {w : World} {K : PySem.W.Frag} {mg : Str → Option Value} {base : Heap} {G : GT}
theorem fn_okC {x qual : Str} {st : Stmt} {f : Addr} {fd : FuncData} {N ps : List Str} {k : Nat} {mb : MS} (F : Fun K x qual st f fd) (S : FnScope N ps (defScope st))
    (hb : ∀ (cdv : Value) (s : Shared) (H : Hp) (E : XK), Room k (callerA.deeper (PyProof.Rows.envOfC qual (defScope st) s.heap.objs.size f cdv)) →
      Takes (cxOf (L2.CX P w) P w K mg base N qual (defScope st) f cdv callerA [] s H E) (fun cls d _ H => E cls d H) →
      PassesOwn (model P w) (cxOf (L2.CX P w) P w K mg base N qual (defScope st) f cdv callerA [] s H E).A (cxOf (L2.CX P w) P w K mg base N qual (defScope st) f cdv callerA [] s H E).env (cxOf (L2.CX P w) P w K mg base N qual (defScope st) f cdv callerA [] s H E).xe →
      SPs G (fun cls d _ H => E cls d H) (cxOf (L2.CX P w) P w K mg base N qual (defScope st) f cdv callerA [] s H E) (defBody st) mb) : FnC P w K mg base (k + 1) f fd ps (spM G ps.length (mFun ps.length N.length mb)) := by
  intro s H args us vs Q E hr e0 bnd rv hsp
  obtain ⟨oc, od, kV, doc, pm, an, cdv, ct, osl, rfl, lk, hcd⟩ := F.ex
  have bs1 := fun b o z => (e0.bs b o z).1
  have kin := e0.mod.kin.keeps bs1
  have B := hb cdv s H E (hr.deeper _) (takes_of rfl rfl rfl rfl) (passes_of rfl)
  have hl : vs.length = ps.length := hsp.1
  have kinds : ∀ y ∈ ps.zip us, (defScope st).names.lookup y.1 = some .local ∨ ((defScope st).names.lookup y.1 = some .cell ∧ ((cellsFrom (s.heap.objs.size + 1) (defScope st).names []).lookup y.1).isSome = true) := by
    rintro ⟨n, v⟩ hy
    have hp := S.par n (List.of_mem_zip hy).1
    exact hp.imp id fun q => ⟨q, PySem.W.cellsFrom_some _ _ _ (.inl q)⟩
  refine codeAny_call_function hr.depth (kin _ _ lk) rfl S.co S.gen rfl (PySem.W.codeRec_of kin hcd) (bnd _ _ _ _ (wpAny_newFunctionEnv_cells S.kind kinds ?_))
  rintro env rfl s1 x
  refine ⟨(e0.mod.nolimit.keeps bs1).keeps x.toInCall.keep, codeAny_func ?_⟩
  have inv0 := inv_start (CX := L2.CX P w) (E := E) S hr.hd e0 hl rv x
  have goal : rdS G (fun cls d _ H => E cls d H) mb { nx := fun _ H' => Q .non H', rt := Q } (start N vs) H := by
    obtain ⟨_, Pp, ρ, rs, S0, vs0, rrs, a⟩ := hsp
    refine ⟨Pp, ρ, _, S0, vs0, start_ok rrs, ?_⟩
    unfold mFun at a
    rw [if_pos (by rw [rrs.len]; exact hl)] at a
    cases z : mb (startE N.length rs) S0 with
    | nx es' S' => rw [z] at a; exact fun σ' ρ' H' s' q' t => a .non ρ' H' s' t.tk .non
    | rt r S' =>
      rw [z] at a
      cases r with
      | d x => exact ⟨(fun _ z => by cases z), fun v ρ' H' s' t rr => a v ρ' H' s' t rr⟩
      | l fl ds =>
        cases fl with
        | false => exact a.elim
        | true => exact ⟨(fun _ z => by cases z), fun v ρ' H' s' t rr => a v ρ' H' s' t rr⟩
    | ex c p es' S' => rw [z] at a; exact fun cls d σ' ρ' H' s' q' t rx => a cls d ρ' H' s' t.tk rx
    | bk es' S' => rw [z] at a; exact a.elim
    | ct es' S' => rw [z] at a; exact a.elim
    | bad => rw [z] at a; exact a.elim
  refine wpAny_mono (B.pss.run [] s1 (start N vs) H _ inv0 goal) ?_ fun e s' h => h
  intro fl s' h
  cases fl with
  | ret u => obtain ⟨v, σ', H', J, r', q⟩ := h; exact ⟨v, H', J.os, J.bare, J.base, J.hok, r', q⟩
  | next => obtain ⟨σ', H', J, q⟩ := h; exact ⟨.non, H', J.os, J.bare, J.base, J.hok, rfl, q⟩
  | brk => obtain ⟨_, _, _, q⟩ := h; exact q.elim
  | cont => obtain ⟨_, _, _, q⟩ := h; exact q.elim
theorem law_callC {mb : Str → Option Value} {k : Nat} {fa a : Addr} {fd : FuncData} {x : Str} {sp : Sp} {s₁ : Shared} {vs : List Value} {ns : List Int}
    (KX : K.In s₁.heap) (hns : s₁.heap.Ns mainGlobals mg) (hb : s₁.heap.Ns builtinsNs mb) (hbb : ∀ y : Str, y ≠ "__name__" → mb y = bootBuiltins y)
    (hlim : s₁.heap.NoLimit) (hg : s₁.gens = #[]) (ha : s₁.heap.get? a = some { cls := .type "list", data := .seq vs.toArray }) (hi : PyProof.Rows.IntsAre vs ns) (hl : ns.length ≤ sizeLine)
    (hr : Room k callerA) (F : ∀ b0 : Heap, K.In b0 → b0.Ns mainGlobals mg → FnC P w K mg b0 k fa fd [x] sp) (hbind : ∀ (s : Shared) (u : Value), BindsTo s fd ⟨[u], []⟩ [(x, u)])
    (hsp : ∀ H : Hp, Only H → SqL K H a (ns.map V.int) → sp [.ref a] H (fun v _ => v = .bl true) fun _ _ _ => False) :
    codeAny (model P w) callerA (.call (.ref fa) ⟨[.ref a], []⟩) (fun r s' => r = .ok (.ret (.bool true)) ∧ OldK s₁.heap s'.heap ∧ s'.os = s₁.os ∧ PyProof.Rows.AllBare s'.gens) s₁ := by
  have rv := vals_ints hi
  obtain ⟨mc, l1, l2⟩ := hlim
  have go : ∀ H : Hp, Only H → SqL K H a (ns.map V.int) → HOk P w H s₁.heap → (∀ b, H b = none ∨ b = a) → (H a = none ∨ K.lookup a = none) → codeAny (model P w) callerA (.call (.ref fa) ⟨[.ref a], []⟩)
      (fun r s' => r = .ok (.ret (.bool true)) ∧ OldK s₁.heap s'.heap ∧ s'.os = s₁.os ∧ PyProof.Rows.AllBare s'.gens) s₁ := by
    intro H only sq ok at_a free
    have spare : ∀ {b : Addr} {o : Obj} {es : Array DictEntry} {ep : Nat}, s₁.heap.get? b = some o → o.data = .dict es ep → H b = none := by
      intro b o es ep e d
      rcases at_a b with z | rfl
      · exact z
      · rw [ha] at e
        cases e
        have d : Data.seq vs.toArray _ = Data.dict es ep := d
        cases d
    have lift : ∀ {b : Addr} {m : Str → Option Value}, s₁.heap.Ns b m → (hidT s₁.heap H).Ns b m := by
      rintro b m ⟨o, es, ep, e, d, r⟩
      exact ⟨o, es, ep, hidT_get e (spare e d), d, r⟩
    have kin : K.In (hidT s₁.heap H) := by
      intro b o e
      refine hidT_get (KX b o e) ?_
      rcases at_a b with z | rfl
      · exact z
      · rcases free with z | z
        · exact z
        · rw [z] at e; cases e
    have env : Env0 P w K mg (hidT s₁.heap H) callerA [] s₁ H :=
      ⟨rfl, ⟨kin, lift hns, ⟨mb, lift hb, hbb⟩, ⟨mc, lift l1, l2⟩⟩, fun _ _ e => of_hidT e, Nat.le_of_eq (hidT_size _ _), trivial, (fun b z => nomatch z), ok, .of_eq hg⟩
    refine codeAny_mono (F _ kin (lift hns) s₁ H ⟨[.ref a], []⟩ [.ref a] [.ref a] (fun v _ => v = .bl true) (fun _ _ _ => False) hr env (hbind s₁ (.ref a)) (.cons rfl .nil) (hsp H only sq)) ?_
    intro r s' h
    match r, h with
    | .error e, h => exact (noCX h).elim
    | .ok .next, h => exact (h : False).elim
    | .ok .brk, h => exact (h : False).elim
    | .ok .cont, h => exact (h : False).elim
    | .ok (.ret u), ⟨v, H', os, bare, un, ok', r', q⟩ =>
      have q : v = .bl true := q
      subst q
      cases (show u = Value.bool true from r')
      refine ⟨rfl, OldK.of_keep ?_, os, bare⟩
      intro b o e
      cases zb : H b with
      | none => exact un.keep b o e zb (fun z => by cases z) (fun z => by cases z)
      | some t =>
        rcases only b with z | ⟨ob, xs, z⟩
        · rw [zb] at z; cases z
        · have z2 := un.frzs b ob _ z
          have e1 := (ok b _ z).1
          rw [e] at e1
          cases e1
          exact (ok' b _ z2).1
  cases hk : K.lookup a with
  | some o =>
    have e := KX a o hk
    rw [ha] at e
    cases e
    refine go (fun _ => none) (fun _ => .inl rfl) (.inr ⟨_, vs.toArray, _, hk, rfl, rfl, rfl, ?_, by simpa using rv⟩) (fun b u z => by cases z) (fun _ => .inl rfl) (.inl rfl)
    rw [List.size_toArray, hi.length]
    exact hl
  | none =>
    have here : ∀ b : Addr, (if b = a then some (HO.frz { cls := .type "list", data := .seq vs.toArray } (.lst (ns.map V.int))) else none) = none ∨ b = a := fun b => by
      by_cases z : b = a
      · exact .inr z
      · exact .inl (if_neg z)
    refine go (fun b => if b = a then some (.frz { cls := .type "list", data := .seq vs.toArray } (.lst (ns.map V.int))) else none) (fun b => ?_) (.inl (.inr ⟨_, if_pos rfl⟩)) (fun b u z => ?_) here (.inr hk)
    · rcases here b with z | rfl
      · exact .inl z
      · exact .inr ⟨_, _, if_pos rfl⟩
    · rcases here b with y | rfl
      · cases y.symm.trans z
      · have z := (if_pos rfl).symm.trans z
        cases z
        exact ⟨ha, by rw [List.length_map]; exact hl, vs, _, rv, ha⟩
end
theorem walk_C {l : PySem.W.OpenLaw} {n k : Nat} {q : Program} {loose : List Str} {XP : (Str → Option Value) → Heap → Prop} {YP : World → Heap → Prop} {d : DefRec} {K : Params → PySem.W.Frag} {x : Str} {m : MF}
    (hn : l.most = some n) (hn2 : n ≤ sizeLine) (hdf : d.params.defaults = []) (hr : Room k callerA) (hY : ∀ (w : World) (h : Heap), YP w h → (K w.params).In h)
    (F : ∀ (w : World) (mg : Str → Option Value) (fa : Addr) (h : Heap), (K w.params).In h → h.Ns mainGlobals mg → mg d.name = some (.ref fa) →
      ∃ (cl fns : List Addr) (fd : FuncData), (∀ (s : Shared) (u : Value), BindsTo s fd ⟨[u], []⟩ [(x, u)]) ∧
        ∀ base : Heap, (K w.params).In base → base.Ns mainGlobals mg → FnC l.prog w (K w.params) mg base k fa fd [x] (spM ⟨K w.params, cl, fns, fun _ _ _ _ => False⟩ 1 m))
    (hm : ∀ ns : List Int, ns.length ≤ n → ∃ S', m [.d (.scr ns)] [] = .ok (.d (.bl true)) S') :
    PySem.W.WalkO q loose XP YP l.row.toRowW d [] (fun f vs => PySem.call f vs) := by
  refine Att.attach_call hn hdf ?_
  intro w s₀ s₁ mg mb fa o pm cd doc a vs ns G Y ho hd hcd hmg hobj hints hlen hg
  have KX := hY w _ Y
  obtain ⟨cl, fns, fd, hb, hF⟩ := F w mg fa _ KX G.T.g hmg
  exact law_callC KX G.T.g G.T.b G.T.builtins G.T.nolimit hg hobj hints (Nat.le_trans hlen hn2) hr hF hb fun H hO hS => law_sp hO hS (hm ns hlen)
end DM

namespace PySem
open Sem (wp)
section
variable {prog : Program} {w : World} {A : Around} {E : Value → Shared → Prop} {s : Shared}
end
end PySem
namespace L2
open PySem PySem.Spec PyProof.Rows
end L2
namespace L2
open PySem PySem.Spec PyProof.Rows
section
variable {X : Cx} {a b : Expr} {t : TA} {p p2 pos ppos : Pos}
theorem prg_a1 (hg : Gl X "range") (hm : X.mg "range" = none) (ha : PA X [a] t) (hs : starEach [a] X.env = [(false, eval a X.env)]) : PRg X (.Call (.Name "range" p) [a] [] pos) (fun σ H Q => t σ H fun xs H1 => ∃ n, xs = [.int n] ∧ Q 0 n H1) := by
  intro pins s σ H Q I h
  refine Call_ (ld_blt I hg hm boot_range (PyProof.Rows.callWith_type1 (thn (ha.run pos pins s σ H _ I h) fun us s1 ⟨vs, H1, I1, r1, q1⟩ => ?_) hs rfl))
  obtain ⟨n, e, q⟩ := q1
  subst e
  cases r1 with
  | cons r rr =>
    cases rr
    obtain ⟨t, rfl⟩ := r
    exact call_range_1 ⟨_, 0, n, _, _, _, H1, rfl, IsRange.new _ _ _ _ _ _ _, I1.kept fun b u e => Heap.get?_push_of_some _ e, q⟩
end
def tTupRgK (te : St → Hp → (Int → Int → Hp → Prop) → Prop) : TE := fun σ H Q => te σ H fun a b H1 => RgOk a b ∧ ∀ q o, H1 q = none → Obj.dict o = none → Q (.ref q) (upd H1 q (.frz o (.tup (rgV a b))))
theorem pe_tupRgK {X : Cx} {e : Expr} {te : St → Hp → (Int → Int → Hp → Prop) → Prop} {p pos : Pos} (hc : X.calm = true) (hg : Gl X "tuple") (hm : X.mg "tuple" = none) (he : PRg X e te) (na : starEach [e] X.env = (false, eval e X.env) :: starEach [] X.env := by rfl) : PE X (.Call (.Name "tuple" p) [e] [] pos) (tTupRgK te) := by
  refine ⟨fun pins s σ H Q I h => Call_ (ld_blt I hg hm PyProof.Rows.boot_tuple (PyProof.Rows.callWith_type1 (args_cons (thn (he pins s σ H _ I h) ?_) na) na))⟩
  rintro x s1 ⟨r, a, b, t, u, v, H1, rfl, hr, I1, ⟨b1, b2, b3, b4, b5⟩, q⟩
  refine args_nil (call_tuple_range (n := (b - a).toNat) (I1.ok.hd hc) hr (small_one b1 b2 b3 b4) (rangeSize_nat a b) b5 fun h' tk acc hk hi => ?_)
  have I2 : Inv X pins σ H1 { s1 with heap := h', toks := tk } := I1.kept hk
  have L := DM.laidK (tk := tk) (us := acc.toList) I2 (by rw [rgV_length, sizeLine_eq]; omega) (vals_rg hi)
  rw [Array.toArray_toList] at L
  exact ⟨.ref _, _, L, rfl, q _ _ (I2.hok.fresh (Nat.le_refl _)) rfl⟩
def rTupRg1 : List V → Hp → VK → Prop := fun xs H Q => ∃ n, xs = [.int n] ∧ RgOk 0 n ∧ ∀ q o, H q = none → Obj.dict o = none → Q (.ref q) (upd H q (.frz o (.tup (rgV 0 n))))
end L2
namespace DM
open PySem PySem.Spec L2
def rgD (a b : Int) : List D := (List.range (b - a).toNat).map fun (i : Nat) => D.int (a + (i : Int))
instance {a b : Int} : Decidable (RgOk a b) := by unfold RgOk; infer_instance
def tupRgF : FN := fun _ rs => match rs with
  | [.d (.int n)] => if RgOk 0 n then some (.d (.tup (rgD 0 n))) else none
  | _ => none
theorem reps_map {G : GT} {ρ : List Addr} {H : Hp} {a : Int} : ∀ l : List Nat, Reps G ρ H (l.map fun (i : Nat) => D.int (a + (i : Int))) (l.map fun i => V.int (a + (i : Nat)))
  | [] => .nil
  | _ :: r => .cons (.int _) (reps_map r)
theorem reps_rg {G : GT} {ρ : List Addr} {H : Hp} {a b : Int} : Reps G ρ H (rgD a b) (rgV a b) := reps_map _
theorem so_tupRg {G : GT} : SON G rTupRg1 tupRgF := fun P ρ H S rs vs Q ov s h e k => by
  unfold tupRgF at e
  split at e
  · split at e
    · cases e
      exact ⟨_, rrs_i1 h, by assumption, op_tup k reps_rg⟩
    · cases e
  · cases e
section
variable {G : GT} {W : WX} {X : Cx} {a b : Expr} {ma mb : ME} {p pos p2 pos2 : Pos}
theorem se_tupRg1 (hc : X.calm = true) (hl : Gl X "tuple") (hlm : X.mg "tuple" = none) (hg : Gl X "range") (hm : X.mg "range" = none) (ha : SA G W X [a] [ma]) (hs : starEach [a] X.env = [(false, eval a X.env)] := by rfl)
    (na : starEach [.Call (.Name "range" p2) [a] [] pos2] X.env = (false, eval (.Call (.Name "range" p2) [a] [] pos2) X.env) :: starEach [] X.env := by rfl) : SE G W X (.Call (.Name "tuple" p) [.Call (.Name "range" p2) [a] [] pos2] [] pos) (eOpN tupRgF [ma]) :=
  opN_core so_tupRg ha fun t h => PE.of (pe_tupRgK hc hl hlm (prg_a1 hg hm h hs) na) fun σ H Q q => q
end
theorem tupRg_e {S : Store} {n : Int} (h : 0 ≤ n) (h1 : n ≤ 16777216) : tupRgF S [.d (.int n)] = some (.d (.tup (rngD n.toNat))) := by
  show (if _ then _ else _) = _
  rw [if_pos (RgOk.of_le (by omega) h1 (by omega) h)]
  unfold rgD rngD
  simp
def revF (S : Store) (r : RV) : Option OV := (lstOf S r).map fun ds => .l ds.reverse
def eRev (m : ME) : ME := fun es S => (m es S).bind fun r S1 => ofO (revF S1 r.weak) S1
theorem reps_rev {G : GT} {ρ : List Addr} {H : Hp} : ∀ {ds : List D} {vs : List V}, Reps G ρ H ds vs → Reps G ρ H ds.reverse vs.reverse
  | [], _, h => by cases h; exact .nil
  | d :: ds, _, h => by
    cases h with
    | cons a b =>
      rw [List.reverse_cons, List.reverse_cons]
      exact (reps_rev b).append (.one a)
section
variable {G : GT} {W : WX} {X : Cx} {e : Expr} {m : ME} {p1 p2 p3 pos : Pos} {k : Nat}
end
def kRevE (Q : RV → Store → Prop) (r : RV) (S : Store) : Prop := QO (revF S r.weak) S Q
theorem kRevE_l {Q : RV → Store → Prop} {S : Store} {p : Bool} {x : List D} : kRevE Q (.l p x) S = Q (.l true x.reverse) S := nr rfl
theorem w_revE {Q : RV → Store → Prop} {X : QX} {m : ME} {es : Env} {S : Store} : WR (eRev m es S) Q X = WR (m es S) (kRevE Q) X := by
  unfold eRev kRevE
  simp only [WR_bind, WR_ofO]
open Classical in
noncomputable def sIns0 (k : Nat) (me : ME) : MS := fun es S => match es[k]? with
  | some (.own ds) => bindS ((me es S).bind item) es fun x S1 => if ds.length < sizeLine then .nx (es.set k (.own (x :: ds))) S1 else .bad
  | _ => .bad
section
variable {G : GT} {W : WX} {X : Cx} {e : Expr} {me : ME} {pos : Pos}
end
def kInsO (ds : List D) (k : Nat) (es : Env) (E : En) (r : RV) (S : Store) : Prop := QI r S fun x S1 => ds.length < sizeLine ∧ E.nx (es.set k (.own (x :: ds))) S1
theorem kInsO_d {k : Nat} {es : Env} {E : En} {S : Store} {ds : List D} {x : D} : kInsO ds k es E (.d x) S = (ds.length < sizeLine ∧ E.nx (es.set k (.own (x :: ds))) S) := nr rfl
def QIns (o : Option Slot) (k : Nat) (m : ME) (es : Env) (S : Store) (E : En) : Prop := match o with
  | some (.own ds) => WR (m es S) (kInsO ds k es E) (kX es E)
  | _ => False
theorem QIns_o {k : Nat} {m : ME} {es : Env} {S : Store} {E : En} {ds : List D} : QIns (some (.own ds)) k m es S E = WR (m es S) (kInsO ds k es E) (kX es E) := nr rfl
theorem w_ins0 {k : Nat} {m : ME} {es : Env} {S : Store} {E : En} : WS (sIns0 k m es S) E = QIns es[k]? k m es S E := by
  unfold sIns0 QIns
  cases es[k]? with
  | none => rfl
  | some s =>
    cases s with
    | no => rfl
    | bor _ => rfl
    | own ds =>
      show WS (bindS _ _ _) E = _
      rw [WS_bindS]
      simp only [WR_bind, WR_item, WS_ite]
      rfl
    | v y => rfl
def miEnumA (m : MQ) : MI := fun es S => (m es S).bind fun x S1 => .ok (enumD x.1, chk x.2 x.1) S1
def kEnumA (Q : QMI) (x : List D × SK) (S : Store) : Prop := Q (enumD x.1, chk x.2 x.1) S
theorem kEnumA_e {S : Store} {ds : List D} {k : SK} {Q : QMI} : kEnumA Q (ds, k) S = Q (enumD ds, chk k ds) S := nr rfl
theorem w_miEnumA {S : Store} {es : Env} {X : QX} {q : MQ} {Q : QMI} : WR (miEnumA q es S) Q X = WR (q es S) (kEnumA Q) X := by
  unfold miEnumA
  rw [WR_bind]
  rfl
def popS (S : Store) (x i : RV) : Res RV := match x, i with
  | .d (.loc n), .d (.int j) => (match S[n]? with
    | some (.lst ds) => (match seqIndex? j ds.length with
      | some k => (match ds[k]? with
        | some d => if -(2 ^ 63) ≤ j ∧ j < 2 ^ 63 then .ok (.d d) (S.set n (.lst (ds.eraseIdx k))) else .bad
        | none => .bad)
      | none => .bad)
    | _ => .bad)
  | _, _ => .bad
def ePopAt (mo mi : ME) : ME := fun es S => (mo es S).bind fun x S1 => if tyF "list" S1 x.weak = true then (eArgs [mi] es S1).bind fun is S2 => (match is with
  | [i] => popS S2 x i
  | _ => .bad) else .bad
section
variable {G : GT} {W : WX} {X : Cx} {o e : Expr} {mo mi : ME} {apos cpos : Pos}
end
def kPop2 (x : RV) (Q : RV → Store → Prop) (X : QX) (is : List RV) (S : Store) : Prop := WR (match is with | [i] => popS S x i | _ => .bad) Q X
def kPop (mi : ME) (es : Env) (Q : RV → Store → Prop) (X : QX) (x : RV) (S : Store) : Prop := tyF "list" S x.weak = true ∧ WR (eArgs [mi] es S) (kPop2 x Q X) X
theorem kPop_e {S : Store} {es : Env} {mi : ME} {Q : RV → Store → Prop} {X : QX} {n : Nat} : kPop mi es Q X (.d (.loc n)) S = (tyF "list" S (.d (.loc n)) = true ∧ WR (eArgs [mi] es S) (kPop2 (.d (.loc n)) Q X) X) := nr rfl
theorem kPop2_e {S : Store} {x i : RV} {Q : RV → Store → Prop} {X : QX} : kPop2 x Q X [i] S = WR (popS S x i) Q X := nr rfl
theorem w_popAt {S : Store} {es : Env} {mo mi : ME} {Q : RV → Store → Prop} {X : QX} : WR (ePopAt mo mi es S) Q X = WR (mo es S) (kPop mi es Q X) X := by
  unfold ePopAt kPop kPop2
  rw [WR_bind]
  congr 1
  funext x S1
  by_cases h : tyF "list" S1 x.weak = true
  · rw [if_pos h, WR_bind]; exact propext ⟨fun z => ⟨h, z⟩, fun z => z.2⟩
  · rw [if_neg h]; exact propext ⟨fun z => z.elim, fun z => (h z.1).elim⟩
end DM

namespace L2
open PySem PySem.Spec PyProof.Rows
def metN (ns : List Int) : List Int := PyProof.Rows.firstMet (fun i => ns.getD i 0) ns.length
end L2
namespace DM
open PySem PySem.Spec L2
def sortI (ns : List Int) : List Int := ns.mergeSort fun a b => decide (a ≤ b)
theorem sortI_perm (ns : List Int) : (sortI ns).Perm ns := List.mergeSort_perm ns _
theorem sortI_rises (ns : List Int) : (sortI ns).Pairwise (· ≤ ·) := by
  have h := List.pairwise_mergeSort (le := fun a b : Int => decide (a ≤ b)) (fun a b c h1 h2 => by
    have h1 := of_decide_eq_true h1
    have h2 := of_decide_eq_true h2
    exact decide_eq_true (by omega)) (fun a b => by
    by_cases h : a ≤ b
    · rw [decide_eq_true h]; rfl
    · rw [decide_eq_true (show b ≤ a by omega), Bool.or_true]) ns
  exact h.imp fun {a b} h => of_decide_eq_true h
theorem sortI_eq {ns ns' : List Int} (h : ns'.Perm ns) (r : ns'.Pairwise (· ≤ ·)) : ns' = sortI ns :=
  List.Perm.eq_of_pairwise (fun _ _ _ _ a b => Int.le_antisymm a b) r (sortI_rises ns) (h.trans (sortI_perm ns).symm)
theorem sortI_len {ns : List Int} : (sortI ns).length = ns.length := (sortI_perm ns).length_eq
def sortedF : FN := liF fun ns => some (.l ((sortI ns).map D.int))
theorem repsI {G : GT} {ρ : List Addr} {H : Hp} : ∀ l : List Int, Reps G ρ H (l.map D.int) (l.map V.int)
  | [] => .nil
  | _ :: r => .cons (.int _) (repsI r)
theorem so_sorted {G : GT} : SON G (rSortedI G.K) sortedF := fun P ρ H S rs vs Q ov s h e k => by
  obtain ⟨a, ns, rfl, e1, e2⟩ := li_ok s h e
  cases e2
  refine ⟨a, ns, rfl, SqL.of e1, fun ns' p hp hr hn => ?_⟩
  rw [sortI_eq hp hr]
  exact op_lst k (repsI _) p hn
section
variable {G : GT} {W : WX} {X : Cx} {a : Expr} {as : List Expr} {ms : List ME} {p pos : Pos}
theorem se_sorted (hg : Gl X "sorted") (hm : X.mg "sorted" = none) (ha : SA G W X (a :: as) ms) (he : starEach (a :: as) X.env = (false, eval a X.env) :: starEach as X.env := by rfl) (hpl : (backTo pos (starEach as X.env)).any (·.1) = false := by rfl) : SE G W X (.Call (.Name "sorted" p) (a :: as) [] pos) (eOpN sortedF ms) :=
  se_callB cr_sortedI (by rw [ha.k]; exact so_sorted) hg hm (by decide +kernel) ha (by decide) (by decide) he hpl
end
theorem sorted_e {S : Store} {b : Bool} {ns : List Int} : sortedF S [.l b (ns.map .int)] = some (.l ((sortI ns).map D.int)) := by
  show (intsOf (ns.map D.int)).bind _ = _
  rw [intsOf_map]
  rfl
instance {i j : Int} : Decidable (CDiv i j) := by unfold CDiv; infer_instance
def divmodF : FN := fun _ rs => match rs with
  | [.d (.int i), .d (.int j)] => if CDiv i j then some (.d (.tup [.int (i / j), .int (i % j)])) else none
  | _ => none
section
variable {G : GT} {W : WX} {X : Cx} {a : Expr} {as : List Expr} {ms : List ME} {p pos : Pos}
end
theorem divmod_e {S : Store} {i j : Int} : divmodF S [.d (.int i), .d (.int j)] = gd (CDiv i j) (.d (.tup [.int (i / j), .int (i % j)])) := gd_of
def lenSetF (S : Store) (r : RV) : Option OV := (lstOf S r).bind fun ds => (intsOf ds).bind fun ns => if ns.length ≤ 4000 then some (.d (.int ((metN ns).length : Nat))) else none
def eLenSet (m : ME) : ME := fun es S => (m es S).bind fun r S1 => ofO (lenSetF S1 r.weak) S1
section
variable {G : GT} {W : WX} {X : Cx} {e : Expr} {m : ME} {p p2 q pos : Pos}
end
def kLenSet (Q : RV → Store → Prop) (r : RV) (S : Store) : Prop := QO (lenSetF S r.weak) S Q
theorem kLenSet_l {Q : RV → Store → Prop} {S : Store} {p : Bool} {x : List D} : kLenSet Q (.l p x) S = QO (lenSetF S (.l false x)) S Q := nr rfl
theorem w_lenSet {Q : RV → Store → Prop} {X : QX} {m : ME} {es : Env} {S : Store} : WR (eLenSet m es S) Q X = WR (m es S) (kLenSet Q) X := by
  unfold eLenSet kLenSet
  simp only [WR_bind, WR_ofO]
end DM

namespace DM
open PySem PySem.Spec PyProof.Rows HT L2
section
variable {prog : Program} {w : World} {A : Around} {E : Value → Shared → Prop} {s : Shared}
theorem places_rev (n : Nat) : Builtin.Slice.slicePlaces ((n : Int) - 1) (-1) (-1) = n := by
  unfold Builtin.Slice.slicePlaces
  have h1 : ¬ ((-1 : Int) > 0) := by omega
  simp only [h1, if_false]
  split
  · simp
    try omega
  · simp
    try omega
theorem pick_rev (xs : Array Value) : ((List.range xs.size).filterMap fun (k : Nat) => xs[(((xs.size : Nat) : Int) - 1 + (k : Int) * (-1)).toNat]?).toArray = xs.toList.reverse.toArray := by
  congr 1
  have e : ∀ k ∈ List.range xs.size, xs[(((xs.size : Nat) : Int) - 1 + (k : Int) * (-1)).toNat]? = xs.toList.reverse[k]? := fun k hk => by
    have hk := List.mem_range.mp hk
    rw [List.getElem?_reverse (by rw [Array.length_toList]; exact hk), Array.length_toList]
    have : (((xs.size : Nat) : Int) - 1 + (k : Int) * (-1)).toNat = xs.size - 1 - k := by omega
    rw [this]
    simp
  have e2 : (List.range xs.size).filterMap (fun (k : Nat) => xs[(((xs.size : Nat) : Int) - 1 + (k : Int) * (-1)).toNat]?) = (List.range xs.size).filterMap (fun (k : Nat) => xs.toList.reverse[k]?) := by
    have : ∀ l : List Nat, (∀ k ∈ l, xs[(((xs.size : Nat) : Int) - 1 + (k : Int) * (-1)).toNat]? = xs.toList.reverse[k]?) → l.filterMap (fun (k : Nat) => xs[(((xs.size : Nat) : Int) - 1 + (k : Int) * (-1)).toNat]?) = l.filterMap (fun (k : Nat) => xs.toList.reverse[k]?) := by
      intro l
      induction l with
      | nil => intro _; rfl
      | cons a l ih =>
        intro h
        rw [List.filterMap_cons, List.filterMap_cons, h a List.mem_cons_self, ih (fun k hk => h k (List.mem_cons_of_mem _ hk))]
    exact this _ e
  rw [e2]
  have : ∀ l : List Value, (List.range l.length).filterMap (fun k => l[k]?) = l := by
    intro l
    induction l with
    | nil => rfl
    | cons x l ih =>
      rw [List.length_cons, List.range_succ_eq_map, List.filterMap_cons]
      simp only [List.getElem?_cons_zero]
      rw [List.filterMap_map]
      congr 1
  have h := this xs.toList.reverse
  rw [List.length_reverse, Array.length_toList] at h
  exact h
theorem getItem_tuple_rev {t sl : Addr} {items : Array Value} {vl vu vs : Value} {Q : Value → Shared → Prop} (ht : IsTup s.heap t items) (hs : s.heap.IsSliceOf sl vl vu vs) (pl : IsPart vl none) (pu : IsPart vu none) (ps : IsPart vs (some (-1)))
    (h : Q (.ref s.heap.objs.size) { s with heap := s.heap.push { cls := .type "tuple", data := .seq items.toList.reverse.toArray } })
    (hsz : items.size ≤ sizeLine) : wpAny (model prog w) A (getItem (.ref t) (.ref sl)) Q E s := by
  have hrev : sizeOk (.seq items.toList.reverse.toArray) := by
    show items.toList.reverse.toArray.size ≤ sizeLine
    rw [List.size_toArray, List.length_reverse, Array.length_toList]
    omega
  obtain ⟨os, hos, hcs, hds⟩ := id hs
  have hTs : s.TypeIs (.ref sl) "slice" := ⟨os, hos, hcs⟩
  unfold getItem
  try with_reducible refine wpAny_holding ?_
  first | refine wpAny_bind (wpAny_pure ?_) | skip
  refine wpAny_bind (wpAny_sequenceKey ht.typeIs (by decide) ?_)
  refine wpAny_bind (wpAny_callSpecial?_slot (name := Str.ofString "__getitem__") ht.typeIs PyProof.Rows.slot_tuple_getitem
    (wpAny_call_entry PyProof.Rows.slot_tuple_getitem ht.typeIs entry_tuple_getitem ?_ (args_tuple_getitem _ _)))
  show wpAny _ _ (Builtin.Tuple.tupleItemsOf (.ref t) >>= _) _ _ s
  refine wpAny_bind (tupleItemsOf_ ht ?_)
  refine wpAny_bind (wpAny_typeOf hTs ?_)
  rw [if_pos (by decide)]
  refine wpAny_bind (?_ : wpAny _ _ (Builtin.Slice.sliceApplied (.ref sl) _) _ _ _)
  unfold Builtin.Slice.sliceApplied Builtin.Slice.sliceFields
  refine wpAny_bind (wpAny_bind (wpAny_field hos hds (x := vl) rfl (wpAny_bind (wpAny_field hos hds (x := vu) rfl (wpAny_bind (wpAny_field hos hds (x := vs) rfl (wpAny_pure ?_)))))))
  refine wpAny_bind (slicePart_ ps ?_)
  show wpAny _ _ (if ((-1 : Int) == 0) = true then _ else _) _ _ s
  rw [if_neg (by decide)]
  refine wpAny_bind (slicePart_ pl (wpAny_bind (slicePart_ pu (wpAny_bind (wpAny_pure ?_)))))
  show wpAny _ _ (pure (((items.size : Nat) : Int) - 1, (-1 : Int), Builtin.Slice.slicePlaces (((items.size : Nat) : Int) - 1) (-1) (-1))) _ _ s
  rw [places_rev]
  refine wpAny_pure ?_
  have hno : ¬ ((((items.size : Nat) : Int) - 1 == 0 && (-1 : Int) == 1 && items.size == items.size) = true) := by simp
  show wpAny _ _ (if (((items.size : Nat) : Int) - 1 == 0 && (-1 : Int) == 1 && items.size == items.size) = true then _ else _) _ _ s
  rw [if_neg hno, pick_rev items]
  first
    | exact wpAny_bind (m := Builtin.Tuple.tupleExact _) (wpAny_newObj_type (wpAny_pure ⟨_, rfl, wpAny_pure h⟩) hrev)
    | exact wpAny_bind (m := Builtin.Tuple.tupleExact _) (wpAny_newObj_type (wpAny_bind (wpAny_pure (wpAny_pure ⟨_, rfl, wpAny_pure h⟩))) hrev)
    | exact wpAny_bind (wpAny_bind (m := Builtin.Tuple.tupleExact _) (wpAny_newObj_type (wpAny_pure (wpAny_pure ⟨_, rfl, wpAny_pure h⟩)) hrev))
    | exact wpAny_bind (wpAny_bind (m := Builtin.Tuple.tupleExact _) (wpAny_newObj_type (wpAny_pure ⟨_, rfl, wpAny_pure h⟩) hrev))
end
section
variable {X : Cx}
def tRevA (K : PySem.W.Frag) (te : TE) : TE := fun σ H Q => te σ H fun x H1 => (∃ a xs, x = .ref a ∧ SqL K H1 a xs ∧ ∀ p, H1 p = none → Q (.ref p) (upd H1 p (.lst xs.reverse))) ∨ (∃ a xs, x = .ref a ∧ SqT K H1 a xs ∧ ∀ p o, H1 p = none → Obj.dict o = none → Q (.ref p) (upd H1 p (.frz o (.tup xs.reverse))))
theorem pe_revA {e : Expr} {te : TE} {k : Nat} {p1 p2 p3 pos : Pos} (he : PE X e te) : PE X (.Subscript e (.Slice none none (some (.UnaryOp .USub (.Constant (.int 1) k p1) p2)) p3) pos) (tRevA X.K te) := by
  refine ⟨fun pins s σ H Q I h => ?_⟩
  refine Subscript_ (thn (he.run pins s σ H _ I h) fun v s1 ⟨x, H1, I1, r1, q1⟩ => ?_)
  have hst : PO X (some (.UnaryOp .USub (.Constant (.int 1) k p1) p2)) (tPart (tUn (rU fun i => .int (-i)) (tC (.int 1)))) := po_some (pe_un un_neg pe_int)
  refine wpAny_Slice (thn (po_none.run pins s1 σ H1 (fun o H2 => o = none ∧ H2 = H1) I1 ⟨rfl, rfl⟩) fun vl s2 ⟨l, H2, I2, pl, el, e2⟩ => ?_)
  subst el e2
  refine thn (po_none.run pins s2 σ H2 (fun o H3 => o = none ∧ H3 = H2) I2 ⟨rfl, rfl⟩) fun vu s3 ⟨u, H3, I3, pu, eu, e3⟩ => ?_
  subst eu e3
  refine thn (hst.run pins s3 σ H3 (fun o H4 => o = some (-1) ∧ H4 = H3) I3 ⟨1, rfl, -1, rfl, rfl, rfl⟩) fun vs s4 ⟨o, H4, I4, ps, eo, e4⟩ => ?_
  subst eo e4
  have I5 : Inv X pins σ H4 { s4 with heap := s4.heap.push { cls := .type "slice", data := .fields #[vl, vu, vs] } } := I4.kept (t' := s4.toks) fun b ob q => Heap.get?_push_of_some _ q
  rcases q1 with q1 | q1
  · obtain ⟨a, xs, ex, hx, q⟩ := q1
    subst ex
    cases r1
    obtain ⟨its, r, ht, hz⟩ := I5.list hx
    have hlen := r.length
    show wpAny (model X.prog X.w) X.A (subscriptTail e (.Slice none none (some (.UnaryOp .USub (.Constant (.int 1) k p1) p2)) p3) (.ref a) (.ref s4.heap.objs.size)) (EP X pins σ Q) X.xe { s4 with heap := s4.heap.push { cls := .type "slice", data := .fields #[vl, vu, vs] } }
    refine tail_any (ops := [.ref a, .ref s4.heap.objs.size]) ht.isList.typeIs (PySem.slot_list_getitem.lookup) ?_ (by with_unfolding_all rfl)
    refine wpAny_getItem_list_slice ht.isList (Heap.IsSliceOf.new _ vl vu vs) pl pu ps (by decide) ?_ (by rw [List.size_toArray]; omega)
    rw [PySem.W.krv_pick]
    refine ⟨.ref _, _, I5.laid (t' := s4.toks) (o := .lst xs.reverse) (fun b ob q => Heap.get?_push_of_some _ q) (Nat.le_refl _) ?_, rfl, q _ (I5.hok.fresh (Nat.le_refl _))⟩
    exact ⟨by rw [List.length_reverse]; exact hz, _, 0, r.reverse, Heap.get?_push_size _ rfl⟩
  · obtain ⟨a, xs, ex, hx, q⟩ := q1
    subst ex
    cases r1
    obtain ⟨its, r, ht, hz⟩ := I5.tuple hx
    have hlen := r.length
    show wpAny (model X.prog X.w) X.A (subscriptTail e (.Slice none none (some (.UnaryOp .USub (.Constant (.int 1) k p1) p2)) p3) (.ref a) (.ref s4.heap.objs.size)) (EP X pins σ Q) X.xe { s4 with heap := s4.heap.push { cls := .type "slice", data := .fields #[vl, vu, vs] } }
    refine tail_any (ops := [.ref a, .ref s4.heap.objs.size]) ht.typeIs (PyProof.Rows.slot_tuple_getitem.lookup) ?_ (by with_unfolding_all rfl)
    refine getItem_tuple_rev ht (Heap.IsSliceOf.new _ vl vu vs) pl pu ps ?_ (by rw [List.size_toArray]; omega)
    exact ⟨.ref _, _, laidK (tk := s4.toks) I5 (by rw [List.length_reverse]; exact hz) r.reverse, rfl, q _ _ (I5.hok.fresh (Nat.le_refl _)) rfl⟩
end
end DM
namespace DM
open PySem PySem.Spec L2
def revAF (S : Store) (r : RV) : Option OV := match r with
  | .d (.tup ds) => some (.d (.tup ds.reverse))
  | r => (lstOf S r).map fun ds => .l ds.reverse
def eRevA (m : ME) : ME := fun es S => (m es S).bind fun r S1 => ofO (revAF S1 r.weak) S1
section
variable {G : GT} {W : WX} {X : Cx} {e : Expr} {m : ME} {p1 p2 p3 pos : Pos} {k : Nat}
theorem se_revA (ha : SE G W X e m) : SE G W X (.Subscript e (.Slice none none (some (.UnaryOp .USub (.Constant (.int 1) k p1) p2)) p3) pos) (eRevA m) := by
  refine ⟨ha.k, PE.of (pe_revA ha.pe) fun σ H Q h => ?_⟩
  obtain ⟨P, ρ, es, S, s, q, h⟩ := h
  refine rdE_then s q h fun r S1 v ρ1 H1 e1 s1 k1 rr h => ?_
  obtain ⟨P1, hp, s1', rr1⟩ := protect s1 rr
  cases z : revAF S1 r.weak with
  | none => rw [z] at h; exact h.elim
  | some ov =>
    rw [z] at h
    have kk := op_end s1' hp h
    rw [ha.k]
    unfold revAF at z
    split at z
    · rename_i ds er
      cases z
      rw [er] at rr1
      cases rr1 with
      | tup h1 h2 =>
        exact .inr ⟨_, _, rfl, h1.sq, op_tup kk (reps_rev h2)⟩
    · cases l1 : lstOf S1 r.weak with
      | none => rw [l1] at z; cases z
      | some ds =>
        rw [l1] at z
        cases z
        obtain ⟨a, vs, rfl, e1, q1⟩ := lst_of s1' rr1 l1
        exact .inl ⟨a, vs, rfl, SqL.of e1, op_lst kk (reps_rev q1)⟩
end
def kRevA (Q : RV → Store → Prop) (r : RV) (S : Store) : Prop := QO (revAF S r.weak) S Q
theorem kRevA_l {Q : RV → Store → Prop} {S : Store} {p : Bool} {x : List D} : kRevA Q (.l p x) S = Q (.l true x.reverse) S := nr rfl
theorem kRevA_t {Q : RV → Store → Prop} {S : Store} {x : List D} : kRevA Q (.d (.tup x)) S = Q (.d (.tup x.reverse)) S := nr rfl
theorem kRevA_o {Q : RV → Store → Prop} {S : Store} {n : Nat} : kRevA Q (.d (.loc n)) S = QO ((lstO S[n]?).map fun ds => .l ds.reverse) S Q := nr rfl
theorem w_revA {Q : RV → Store → Prop} {X : QX} {m : ME} {es : Env} {S : Store} : WR (eRevA m es S) Q X = WR (m es S) (kRevA Q) X := by
  unfold eRevA kRevA
  simp only [WR_bind, WR_ofO]
end DM

namespace DM
open PySem PySem.Spec L2
open Classical in
noncomputable def miZipM (m n : MQ) : MI := fun es S => (m es S).bind fun x S1 => (n es S1).bind fun y S2 =>
  if chk x.2 x.1 S2 then .ok (zipD x.1 y.1, fun S => chk x.2 x.1 S ∧ chk y.2 y.1 S) S2 else .bad
theorem si_zipM {G : GT} {W : WX} {X : Cx} {a b : Expr} {p pos : Pos} {Rl : RL} {elts : List Expr} {kk : Nat} {tpos : Pos} {qa qb : MQ} (ha : SQ G W Rl X a qa) (hb : SQ G W Rl X b qb) (hg : Gl X "zip") (hm : X.mg "zip" = none)
    (hs : starEach [a, b] X.env = (false, eval a X.env) :: starEach [b] X.env := by rfl) (hpl : (backTo pos (starEach [b] X.env)).any (·.1) = false := by rfl) (hsb : starEach (b :: []) X.env = (false, eval b X.env) :: starEach [] X.env := by rfl) (lw : Low Rl := by first | exact lowSS | exact lowES) :
    SIt G W Rl X (.Tuple elts kk tpos) (.Call (.Name "zip" p) [a, b] [] pos) (miZipM qa qb) := by
  obtain ⟨k, te, pe, ok⟩ := ha
  obtain ⟨_, te2, pe2, ok2⟩ := hb
  refine ⟨k, _, pi_zipM hg hm (pa_cons pe (pa_cons pe2 pa_nil hsb) hs) hs hpl, fun P ρ H S σ es R s q h => ?_⟩
  refine ok P ρ H S σ es _ s q (AftQ.imp (AftQ.bindOk lw q h) fun x S1 P1 ρ1 H1 e1 hp1 s1 q1 t1 h x' at1 => ?_)
  refine ok2 P1 ρ1 H1 S1 σ es _ s1 q1 (AftQ.imp (AftQ.bindOk lw q1 h) fun y S2 P2 ρ2 H2 e2 hp2 s2 q2 t2 h y' at2 => ?_)
  split at h
  · rename_i hc
    have at1' := at1.next hp2 t2 hc
    have h' := h P2 ρ2 H2 (fun _ _ e => e) s2 q2 (TK.refl _ _)
    rw [k]
    obtain ⟨vs, e, _⟩ := at1'.kind s2
    obtain ⟨ws, e', _⟩ := at2.kind s2
    exact ⟨_, _, x', y', vs, ws, rfl, e, e', h' _ (drv_zipM at1' at2)⟩
  · exact h.elim
def kZipM2 (x : List D × SK) (Q : QMI) (y : List D × SK) (S : Store) : Prop := chk x.2 x.1 S ∧ Q (zipD x.1 y.1, fun S => chk x.2 x.1 S ∧ chk y.2 y.1 S) S
def kZipM (q : MQ) (es : Env) (Q : QMI) (X : QX) (x : List D × SK) (S : Store) : Prop := WR (q es S) (kZipM2 x Q) X
theorem kZipM_e {q : MQ} {es : Env} {S : Store} {X : QX} {x : List D × SK} {Q : QMI} : kZipM q es Q X x S = WR (q es S) (kZipM2 x Q) X := nr rfl
theorem kZipM2_e {S : Store} {ds ds' : List D} {k k' : SK} {Q : QMI} : kZipM2 (ds, k) Q (ds', k') S = (chk k ds S ∧ Q (zipD ds ds', fun S => chk k ds S ∧ chk k' ds' S) S) := nr rfl
theorem w_miZipM {p q : MQ} {es : Env} {S : Store} {X : QX} {Q : QMI} : WR (miZipM p q es S) Q X = WR (p es S) (kZipM q es Q X) X := by
  unfold miZipM kZipM kZipM2
  simp only [WR_bind, WR_ite]
  rfl
open Classical in
noncomputable def appS (S : Store) (x i : RV) : Res RV := match x with
  | .d (.loc n) => (item i S).bind fun d S1 => match S1[n]? with
    | some (.lst ds) => if ds.length < sizeLine then .ok (.d .non) (S1.set n (.lst (ds ++ [d]))) else .bad
    | _ => .bad
  | _ => .bad
noncomputable def eAppD (mo mi : ME) : ME := fun es S => (mo es S).bind fun x S1 => if tyF "list" S1 x.weak = true then (eArgs [mi] es S1).bind fun is S2 => (match is with
  | [.d d] => appS S2 x (.d d)
  | _ => .bad) else .bad
section
variable {G : GT} {W : WX} {X : Cx} {o e : Expr} {mo mi : ME} {apos cpos : Pos}
end
def kAppD2 (x : RV) (Q : RV → Store → Prop) (X : QX) (is : List RV) (S : Store) : Prop := WR (match is with | [.d d] => appS S x (.d d) | _ => .bad) Q X
def kAppD (mi : ME) (es : Env) (Q : RV → Store → Prop) (X : QX) (x : RV) (S : Store) : Prop := tyF "list" S x.weak = true ∧ WR (eArgs [mi] es S) (kAppD2 x Q X) X
theorem kAppD_e {S : Store} {es : Env} {mi : ME} {Q : RV → Store → Prop} {X : QX} {n : Nat} : kAppD mi es Q X (.d (.loc n)) S = (tyF "list" S (.d (.loc n)) = true ∧ WR (eArgs [mi] es S) (kAppD2 (.d (.loc n)) Q X) X) := nr rfl
theorem kAppD2_e {S : Store} {x : RV} {d : D} {Q : RV → Store → Prop} {X : QX} : kAppD2 x Q X [.d d] S = WR (appS S x (.d d)) Q X := nr rfl
theorem w_appD {S : Store} {es : Env} {mo mi : ME} {Q : RV → Store → Prop} {X : QX} : WR (eAppD mo mi es S) Q X = WR (mo es S) (kAppD mi es Q X) X := by
  unfold eAppD kAppD kAppD2
  rw [WR_bind]
  congr 1
  funext x S1
  by_cases h : tyF "list" S1 x.weak = true
  · rw [if_pos h, WR_bind]; exact propext ⟨fun z => ⟨h, z⟩, fun z => z.2⟩
  · rw [if_neg h]; exact propext ⟨fun z => z.elim, fun z => (h z.1).elim⟩
end DM

namespace SrtO
open PySem PyProof.Rows Srt
section
variable {prog : Program} {w : World} {A : Around} {E : Value → Shared → Prop} {s : Shared}
theorem collect_tuple {l : Addr} {vs : List Value} {Q : List Value → Shared → Prop} (hl : s.heap.IsTuple l vs.toArray)
    (h : Q vs { s with heap := (s.heap.push (seqObj "list" #[] 0)).update s.heap.objs.size (Obj.mapSeq (· ++ vs.toArray)) }) (hsz : vs.length ≤ sizeLine) :
    wpAny (model prog w) A (collect (.ref l)) Q E s := by
  obtain ⟨o, ho, hc, n, hd⟩ := id hl
  unfold collect
  refine wpAny_bind (wpAny_runValue (codeAny_builtin entry_proto_collect' ?_))
  show wpAny _ _ (do again (.builtin "list.__iadd__" ⟨[← newList [], .ref l], []⟩)) _ _ s
  refine wpAny_bind (wpAny_newList (wpAny_pure ⟨Code.quiet_builtin _ (by decide +kernel), codeAny_builtin entry_list_iadd' ?_⟩))
  show wpAny _ _ (Builtin.List.listExtendWith (.ref s.heap.objs.size) (.ref l) (.ref s.heap.objs.size)) _ _ { s with heap := s.heap.push (seqObj "list" #[] 0) }
  unfold Builtin.List.listExtendWith
  have ho' : (s.heap.push (seqObj "list" #[] 0)).get? l = some o := Heap.get?_push_of_some _ ho
  refine wpAny_bind (wpAny_typeOf (T := "tuple") ⟨o, ho', hc⟩ ?_)
  have ht : (Value.type "tuple" == Value.type "tuple") = true := by rfl
  rw [if_pos (by rw [ht]; simp)]
  refine wpAny_bind (listItems_at ho' hd ?_)
  refine wpAny_bind (listItems_at (xs := #[]) (n := 0) (Heap.get?_push_size _ rfl) rfl ?_)
  rw [if_neg (by simp)]
  refine wpAny_bind (listUpdate_at (xs := #[]) (n := 0) (Heap.get?_push_size _ rfl) rfl ?_ (Nat.zero_le _) (by show (#[] ++ vs.toArray).size ≤ sizeLine + 1; simp only [Array.size_append, List.size_toArray, List.length_nil]; omega))
  refine wpAny_pure ?_
  show wpAny (model prog w) A (do
      let o ← load s.heap.objs.size
      match o.data with
      | .seq xs _ => pure xs.toList
      | _ => unsupported "internal:collect") Q E { s with heap := (s.heap.push (seqObj "list" #[] 0)).update s.heap.objs.size (Obj.mapSeq (· ++ vs.toArray)) }
  refine wpAny_bind (wpAny_load (get?_update_seq (Heap.get?_push_size _ rfl) _) ?_)
  show wpAny _ _ (pure ((#[] : Array Value) ++ vs.toArray).toList) Q E _
  rw [show ((#[] : Array Value) ++ vs.toArray).toList = vs by simp]
  exact wpAny_pure h
theorem sorted_ordT {l : Addr} {vs : List Value} {ltv : Value → Value → Bool} {Q : Value → Shared → Prop} (O : Swo ltv) (hl : s.heap.IsTuple l vs.toArray) (hz : vs.length ≤ sizeLine)
    (hS : 2 ≤ vs.length → ∀ (h₁ : Heap) (a : Addr), h₁.get? a = some (seqObj "list" vs.toArray 0) → (∀ b o, s.heap.get? b = some o → b ≠ a ∧ h₁.get? b = some o) → SortableO prog w A.in1.in1 { s with heap := h₁ } a vs ltv)
    (h : ∀ out : List Value, Srtd ltv out → Stb ltv out vs → Q (.ref (s.heap.objs.size + 1)) { s with heap := sortedAll s.heap vs out.toArray }) :
    wpAny (model prog w) A (call (.builtin "sorted") [.ref l]) Q E s := by
  refine Calls.call_function_entry kind_sorted plain_sorted entry_sorted (args_sorted1 _) ?_
  unfold Builtin.«sorted»
  refine wpAny_bind (m := checkCount "sorted" 1 1 _) (wpAny_pure ?_)
  refine wpAny_bind (collect_tuple hl ?_ hz)
  refine wpAny_bind (wpAny_newList ?_ hz)
  have hsz : ((s.heap.push (seqObj "list" #[] 0)).update s.heap.objs.size (Obj.mapSeq (· ++ vs.toArray))).objs.size = s.heap.objs.size + 1 := by
    rw [Heap.size_update, size_push']
  have hoL : (((s.heap.push (seqObj "list" #[] 0)).update s.heap.objs.size (Obj.mapSeq (· ++ vs.toArray))).push (seqObj "list" vs.toArray 0)).get? (s.heap.objs.size + 1) = some (seqObj "list" vs.toArray 0) := by
    rw [← hsz]; exact Heap.get?_push_size _ rfl
  have keep : ∀ b o, s.heap.get? b = some o → b ≠ s.heap.objs.size + 1 ∧ (((s.heap.push (seqObj "list" #[] 0)).update s.heap.objs.size (Obj.mapSeq (· ++ vs.toArray))).push (seqObj "list" vs.toArray 0)).get? b = some o := fun b o q => by
    have hlt : b < s.heap.objs.size := Heap.lt_size q
    refine ⟨Nat.ne_of_lt (Nat.lt_succ_of_lt hlt), Heap.get?_push_of_some _ ?_⟩
    rw [Heap.get?_update_ne _ _ _ _ (Nat.ne_of_lt hlt)]
    exact Heap.get?_push_of_some _ q
  show wpAny _ _ _ _ _ { s with heap := ((s.heap.push (seqObj "list" #[] 0)).update s.heap.objs.size (Obj.mapSeq (· ++ vs.toArray))).push (seqObj "list" vs.toArray 0) }
  rw [hsz]
  refine wpAny_bind (wpAny_holding (wpAny_call_entry slot_list_sort ⟨_, hoL, rfl⟩ entry_list_sort (list_sort_ord O hoL hz (fun h2 => hS h2 _ _ hoL keep) fun out hs hb => ⟨_, rfl, ?_⟩) (args_list_sort _)))
  exact wpAny_pure ⟨_, rfl, h out hs hb⟩
end
end SrtO
namespace L2
open PySem PySem.Spec PyProof.Rows
end L2
namespace DM
open PySem PySem.Spec L2
section
variable {G : GT} {W : WX} {X : Cx} {a : Expr} {as : List Expr} {ms : List ME} {p pos : Pos}
end
end DM

namespace DM
open PySem PySem.Spec L2
section
variable {G : GT} {W : WX} {X : Cx} {a : Expr} {ma : ME} {pos pt : Pos} {ts : List Expr} {k : Nat}
end
section
variable {es : Env} {S : Store} {E : En} {m : ME} {n : Nat} {gs : MGs}
end
section
variable {G : GT} {W : WX} {X : Cx} {o : Expr} {mo : ME} {apos cpos : Pos}
end
end DM

namespace DM
open PySem PySem.Spec L2
section
variable {G : GT} {P : Hp} {ρ : List Addr} {H : Hp} {S : Store}
theorem VS.push {a : Addr} {y : HO} {o : O} (s : VS G P ρ H S) (hn : H a = none) (r : ∀ ρ', OR G ρ' (upd H a y) o a) : VS G P (ρ ++ [a]) (upd H a y) (S ++ [o]) := by
  have tk : TK ρ H (ρ ++ [a]) (upd H a y) := TK.new hn
  have hf := s.free hn
  refine ⟨by simp [s.len], ?_, fun n b o' e1 e2 => ?_, fun b o' e => ?_⟩
  · rw [List.nodup_append]
    refine ⟨s.nd, by simp, fun x hx y hy => ?_⟩
    have : y = a := by simpa using hy
    subst this
    exact fun z => hf.1 (z ▸ hx)
  · by_cases hl : n < ρ.length
    · rw [List.getElem?_append_left hl] at e1
      rw [List.getElem?_append_left (by rw [← s.len]; exact hl)] at e2
      have hb : b ≠ a := fun z => hf.1 (z ▸ List.mem_of_getElem? e1)
      exact (s.st n b o' e1 e2).next tk (upd_ne hb)
    · have hn' : n = ρ.length := by
        have := (List.getElem?_eq_some_iff.mp e1).1
        simp at this
        omega
      subst hn'
      rw [List.getElem?_append_right (Nat.le_refl _)] at e1
      rw [s.len, List.getElem?_append_right (Nat.le_refl _)] at e2
      simp at e1 e2
      subst e1 e2
      exact r _
  · obtain ⟨q1, q2⟩ := s.pr b o' e
    have hb : b ≠ a := fun z => by rw [z, hn] at q1; cases q1
    refine ⟨by rw [upd_ne hb]; exact q1, fun m => ?_⟩
    rcases List.mem_append.mp m with m | m
    · exact q2 m
    · exact hb (by simpa using m)
end
def key1 : D → Option Key
  | .int i => some (.inl i)
  | .str x => some (.inr x)
  | _ => none
def keyOf : Bool → D → Option (List Key)
  | true, .tup ds => ds.mapM key1
  | true, _ => none
  | false, d => (key1 d).map fun k => [k]
def valD (kvs : List (List Key × D)) (k : List Key) : Option D := (kvs.find? fun kv => decide (kv.1 = k)).map (·.2)
def putD (kvs : List (List Key × D)) (k : List Key) (v : D) : List (List Key × D) :=
  if (kvs.any fun kv => decide (kv.1 = k)) = true then kvs.map (fun kv => if kv.1 = k then (kv.1, v) else kv) else kvs ++ [(k, v)]
section
variable {G : GT} {P : Hp} {ρ : List Addr} {H : Hp} {S : Store}
theorem key1_rep {d : D} {v : V} {k : Key} (r : Rep G ρ H d v) (e : key1 d = some k) : v = kV k := by
  cases r <;> first | (cases e; rfl) | cases e
def KR (G : GT) (ρ : List Addr) (H : Hp) (kvs : List (List Key × D)) (us : List (List Key × V)) : Prop := kvs.map (·.1) = us.map (·.1) ∧ Reps G ρ H (kvs.map (·.2)) (us.map (·.2))
theorem KR.cons {p : List Key × D} {q : List Key × V} {kvs : List (List Key × D)} {us : List (List Key × V)} (h : KR G ρ H (p :: kvs) (q :: us)) : p.1 = q.1 ∧ Rep G ρ H p.2 q.2 ∧ KR G ρ H kvs us := by
  obtain ⟨h1, h2⟩ := h
  rw [List.map_cons, List.map_cons] at h1 h2
  injection h1 with h1 h3
  cases h2 with
  | cons a b => exact ⟨h1, a, h3, b⟩
theorem KR.mk {p : List Key × D} {q : List Key × V} {kvs : List (List Key × D)} {us : List (List Key × V)} (h1 : p.1 = q.1) (h2 : Rep G ρ H p.2 q.2) (h : KR G ρ H kvs us) : KR G ρ H (p :: kvs) (q :: us) := by
  refine ⟨?_, ?_⟩
  · rw [List.map_cons, List.map_cons, h1, h.1]
  · rw [List.map_cons, List.map_cons]; exact .cons h2 h.2
theorem KR.nil' {us : List (List Key × V)} (h : KR G ρ H [] us) : us = [] := by
  have := h.1
  cases us with
  | nil => rfl
  | cons _ _ => cases this
theorem KR.len : ∀ {kvs : List (List Key × D)} {us : List (List Key × V)}, KR G ρ H kvs us → kvs.length = us.length := fun h => by
  have := congrArg List.length h.1
  simpa using this
theorem KR.val : ∀ {kvs : List (List Key × D)} {us : List (List Key × V)} (k : List Key), KR G ρ H kvs us → match valD kvs k, valV us k with
    | some d, some v => Rep G ρ H d v
    | none, none => True
    | _, _ => False
  | [], us, k, h => by cases h.nil'; trivial
  | p :: kvs, [], k, h => by have := h.1; cases this
  | p :: kvs, q :: us, k, h => by
    obtain ⟨h1, h2, h3⟩ := h.cons
    have ih := KR.val k h3
    by_cases e : p.1 = k
    · have a : valD (p :: kvs) k = some p.2 := by simp [valD, List.find?_cons, e]
      rw [a, valV_pos (h1.symm.trans e)]
      exact h2
    · have a : valD (p :: kvs) k = valD kvs k := by simp [valD, List.find?_cons, e]
      rw [a, valV_neg (fun z => e (h1.trans z))]
      exact ih
theorem KR.any : ∀ {kvs : List (List Key × D)} {us : List (List Key × V)} (k : List Key), KR G ρ H kvs us → (kvs.any fun kv => decide (kv.1 = k)) = (us.any fun kv => decide (kv.1 = k))
  | [], us, k, h => by cases h.nil'; rfl
  | p :: kvs, [], k, h => by have := h.1; cases this
  | p :: kvs, q :: us, k, h => by
    obtain ⟨h1, h2, h3⟩ := h.cons
    rw [List.any_cons, List.any_cons, KR.any k h3, h1]
theorem KR.repl : ∀ {kvs : List (List Key × D)} {us : List (List Key × V)} (k : List Key) {d : D} {v : V}, Rep G ρ H d v → KR G ρ H kvs us →
    KR G ρ H (kvs.map fun kv => if kv.1 = k then (kv.1, d) else kv) (us.map fun kv => if kv.1 = k then (kv.1, v) else kv)
  | [], us, k, d, v, r, h => by cases h.nil'; exact h
  | p :: kvs, [], k, d, v, r, h => by have := h.1; cases this
  | p :: kvs, q :: us, k, d, v, r, h => by
    obtain ⟨h1, h2, h3⟩ := h.cons
    rw [List.map_cons, List.map_cons]
    refine KR.mk ?_ ?_ (KR.repl k r h3)
    · split <;> split <;> exact h1
    · by_cases e : p.1 = k
      · rw [if_pos e, if_pos (h1.symm.trans e)]; exact r
      · rw [if_neg e, if_neg (fun z => e (h1.trans z))]; exact h2
theorem KR.snoc : ∀ {kvs : List (List Key × D)} {us : List (List Key × V)} (k : List Key) {d : D} {v : V}, Rep G ρ H d v → KR G ρ H kvs us → KR G ρ H (kvs ++ [(k, d)]) (us ++ [(k, v)])
  | [], us, k, d, v, r, h => by cases h.nil'; exact KR.mk rfl r h
  | p :: kvs, [], k, d, v, r, h => by have := h.1; cases this
  | p :: kvs, q :: us, k, d, v, r, h => by
    obtain ⟨h1, h2, h3⟩ := h.cons
    exact KR.mk h1 h2 (KR.snoc k r h3)
theorem KR.put {kvs : List (List Key × D)} {us : List (List Key × V)} (k : List Key) {d : D} {v : V} (r : Rep G ρ H d v) (h : KR G ρ H kvs us) : KR G ρ H (putD kvs k d) (putK us k v) := by
  unfold putD putK
  rw [h.any k]
  split
  · exact h.repl k r
  · exact h.snoc k r
theorem KR.mono {ρ' : List Addr} {H' : Hp} {kvs : List (List Key × D)} {us : List (List Key × V)} (h : KR G ρ H kvs us) (k : TK ρ H ρ' H') : KR G ρ' H' kvs us := ⟨h.1, h.2.mono k⟩
def upK (us : List (Key × V)) : List (List Key × V) := us.map fun q => ([q.1], q.2)
theorem upK_val : ∀ (us : List (Key × V)) (k : Key), valV (upK us) [k] = valV us k
  | [], _ => rfl
  | q :: us, k => by
    have ih := upK_val us k
    show valV (([q.1], q.2) :: upK us) [k] = _
    by_cases e : q.1 = k
    · rw [valV_pos (by rw [e]), valV_pos e]
    · rw [valV_neg (by simpa using e), valV_neg e, ih]
theorem upK_any : ∀ (us : List (Key × V)) (k : Key), ((upK us).any fun kv => decide (kv.1 = [k])) = (us.any fun kv => decide (kv.1 = k))
  | [], _ => rfl
  | q :: us, k => by
    show ((([q.1], q.2) :: upK us).any _) = _
    rw [List.any_cons, List.any_cons, upK_any us k]
    congr 1
    exact decide_eq_decide.mpr (by simp)
theorem upK_repl (k : Key) (v : V) : ∀ us : List (Key × V), (upK us).map (fun kv => if kv.1 = [k] then (kv.1, v) else kv) = upK (us.map fun kv => if kv.1 = k then (kv.1, v) else kv)
  | [] => rfl
  | q :: us => by
    have ih := upK_repl k v us
    show (([q.1], q.2) :: upK us).map _ = upK ((if q.1 = k then (q.1, v) else q) :: us.map _)
    rw [List.map_cons, ih]
    by_cases e : q.1 = k
    · rw [if_pos (by rw [e]), if_pos e]; rfl
    · rw [if_neg (by simpa using e), if_neg e]; rfl
theorem upK_put (us : List (Key × V)) (k : Key) (v : V) : putK (upK us) [k] v = upK (putK us k v) := by
  unfold putK
  rw [upK_any]
  split
  · exact upK_repl k v us
  · unfold upK; rw [List.map_append]; rfl
theorem or_dic {t : Bool} {kvs : List (List Key × D)} {a : Addr} (h : OR G ρ H (.dic t kvs) a) : ∃ us, KR G ρ H kvs us ∧ ((t = true ∧ H a = some (.dT us)) ∨ (t = false ∧ ∃ ks, us = upK ks ∧ H a = some (.dK ks))) := by
  cases t with
  | true => obtain ⟨us, e, h1, h2⟩ := h; exact ⟨us, ⟨h1, h2⟩, .inl ⟨rfl, e⟩⟩
  | false =>
    obtain ⟨us, e, h1, h2⟩ := h
    refine ⟨upK us, ⟨?_, ?_⟩, .inr ⟨rfl, us, rfl, e⟩⟩
    · rw [h1]; unfold upK; rw [List.map_map]; rfl
    · unfold upK; rw [List.map_map]; exact h2
theorem dic_or2 {kvs : List (List Key × D)} {us : List (Key × V)} {a : Addr} (k : KR G ρ H kvs (upK us)) (e : H a = some (.dK us)) : OR G ρ H (.dic false kvs) a := by
  obtain ⟨h1, h2⟩ := k
  refine ⟨us, e, ?_, ?_⟩
  · rw [h1]; unfold upK; rw [List.map_map]; rfl
  · unfold upK at h2; rw [List.map_map] at h2; exact h2
theorem or_ins {t : Bool} {kvs : List (List Key × D)} {a : Addr} (h : OR G ρ H (.ins t kvs) a) : ∃ us, KR G ρ H kvs us ∧ ∃ o, ((t = true ∧ H a = some (.frz o (.dT us))) ∨ (t = false ∧ ∃ ks, us = upK ks ∧ H a = some (.frz o (.dK ks)))) := by
  cases t with
  | true => obtain ⟨o, us, e, h1, h2⟩ := h; exact ⟨us, ⟨h1, h2⟩, o, .inl ⟨rfl, e⟩⟩
  | false =>
    obtain ⟨o, us, e, h1, h2⟩ := h
    refine ⟨upK us, ⟨?_, ?_⟩, o, .inr ⟨rfl, us, rfl, e⟩⟩
    · rw [h1]; unfold upK; rw [List.map_map]; rfl
    · unfold upK; rw [List.map_map]; exact h2
end
def dicAt (S : Store) (r : RV) : Option (Nat × Bool × List (List Key × D)) := match r with
  | .d (.loc n) => (match S[n]? with
    | some (.dic t kvs) => some (n, t, kvs)
    | _ => none)
  | _ => none
def dicRd (S : Store) (r : RV) : Option (Nat × Bool × List (List Key × D)) := match r with
  | .d (.loc n) => (match S[n]? with
    | some (.dic t kvs) => some (n, t, kvs)
    | some (.ins t kvs) => some (n, t, kvs)
    | _ => none)
  | _ => none
theorem dicRd_e {S : Store} {n : Nat} {t : Bool} {kvs : List (List Key × D)} (h : S[n]? = some (.dic t kvs)) : dicRd S (.d (.loc n)) = some (n, t, kvs) := by
  unfold dicRd
  simp only [h]
theorem dicRd_of {S : Store} {r : RV} {n : Nat} {t : Bool} {kvs : List (List Key × D)} (h : dicRd S r = some (n, t, kvs)) : r = .d (.loc n) ∧ (S[n]? = some (.dic t kvs) ∨ S[n]? = some (.ins t kvs)) := by
  cases r with
  | l _ _ => cases h
  | d x =>
    cases x <;> first | cases h | skip
    rename_i m
    have h : (match S[m]? with | some (.dic t kvs) => some (m, t, kvs) | some (.ins t kvs) => some (m, t, kvs) | _ => none) = some (n, t, kvs) := h
    split at h
    · rename_i e
      cases h
      exact ⟨rfl, .inl e⟩
    · rename_i e
      cases h
      exact ⟨rfl, .inr e⟩
    · cases h
def dfind (S : Store) (a b : RV) : Option (Option D) := match dicRd S a, b with
  | some (_, t, kvs), .d kd => (keyOf t kd).map fun ks => valD kvs ks
  | _, _ => none
def dgetF : F2 := fun S a b => match dfind S a b with
  | some (some d) => some (.d d)
  | _ => none
def dninF : F2 := fun S b a => (dfind S a b).map fun o => .d (.bl (!o.isSome))
section
variable {G : GT} {P : Hp} {ρ : List Addr} {H : Hp} {S : Store}
end
def eDNew (t : Bool) : ME := fun _ S => .ok (.d (.loc S.length)) (S ++ [.dic t []])
def eDGet2 (md mk mx : ME) : ME := fun es S => (md es S).bind fun a S1 => if (dicAt S1 a).isSome = true then (mk es S1).bind fun b S2 => (mx es S2).bind fun c S3 => (match dfind S3 a b, c with
  | some o, .d x => .ok (.d (o.getD x)) S3
  | _, _ => .bad) else .bad
noncomputable def dputS (S : Store) (es : Env) (x : D) (a b : RV) : SR := match dicAt S a, b with
  | some (n, t, kvs), .d kd => (match keyOf t kd with
    | some ks => @ite _ (kvs.length < sizeLine) (Classical.propDecidable _) (.nx es (S.set n (.dic t (putD kvs ks x)))) .bad
    | none => .bad)
  | _, _ => .bad
noncomputable def sDPut (md mk me : ME) : MS := fun es S => bindS ((me es S).bind item) es fun x S1 => bindS (md es S1) es fun a S2 => bindS (mk es S2) es fun b S3 => dputS S3 es x a b
section
variable {G : GT} {W : WX} {X : Cx} {o i e f : Expr} {mo mi me mf : ME} {pos p3 apos cpos : Pos} {k : Nat}
theorem room_u1 {k : Nat} {A : Around} (r : Room k A) : A.units + 1 < cLine := by have := r.un; omega
end
section
variable {es : Env} {S : Store} {E : En} {Q : RV → Store → Prop} {X : QX} {a b c : ME} {t : Bool} {n : Nat} {kvs : List (List Key × D)} {kd x : D} {ks : List Key}
theorem w_dnew : WR (eDNew t es S) Q X = Q (.d (.loc S.length)) (S ++ [.dic t []]) := nr rfl
theorem dfind_e (h : S[n]? = some (.dic t kvs)) (hk : keyOf t kd = some ks) : dfind S (.d (.loc n)) (.d kd) = some (valD kvs ks) := by
  unfold dfind
  rw [dicRd_e h]
  show (keyOf t kd).map _ = _
  rw [hk]; rfl
theorem dnin_e (h : S[n]? = some (.dic t kvs)) (hk : keyOf t kd = some ks) : dninF S (.d kd) (.d (.loc n)) = some (.d (.bl (!(valD kvs ks).isSome))) := by
  unfold dninF
  rw [dfind_e h hk]; rfl
def kDG3 (a b : RV) (Q : RV → Store → Prop) (X : QX) (c : RV) (S : Store) : Prop := WR (match dfind S a b, c with
  | some o, .d x => .ok (.d (o.getD x)) S
  | _, _ => .bad) Q X
def kDG2 (mx : ME) (es : Env) (a : RV) (Q : RV → Store → Prop) (X : QX) (b : RV) (S : Store) : Prop := WR (mx es S) (kDG3 a b Q X) X
def kDG1 (mk mx : ME) (es : Env) (Q : RV → Store → Prop) (X : QX) (a : RV) (S : Store) : Prop := (dicAt S a).isSome = true ∧ WR (mk es S) (kDG2 mx es a Q X) X
theorem kDG1_e {r : RV} : kDG1 b c es Q X r S = ((dicAt S r).isSome = true ∧ WR (b es S) (kDG2 c es r Q X) X) := nr rfl
theorem kDG2_e {r q : RV} : kDG2 c es r Q X q S = WR (c es S) (kDG3 r q Q X) X := nr rfl
theorem w_dget2 : WR (eDGet2 a b c es S) Q X = WR (a es S) (kDG1 b c es Q X) X := by
  unfold eDGet2 kDG1 kDG2 kDG3
  rw [WR_bind]
  congr 1
  funext r S1
  by_cases h : (dicAt S1 r).isSome = true
  · rw [if_pos h, WR_bind]
    simp only [WR_bind]
    exact propext ⟨fun z => ⟨h, z⟩, fun z => z.2⟩
  · rw [if_neg h]; exact propext ⟨fun z => z.elim, fun z => (h z.1).elim⟩
def kDP3 (x : D) (a : RV) (es : Env) (E : En) (b : RV) (S : Store) : Prop := WS (dputS S es x a b) E
def kDP2 (mk : ME) (x : D) (es : Env) (E : En) (a : RV) (S : Store) : Prop := WR (mk es S) (kDP3 x a es E) (kX es E)
def kDP1 (md mk : ME) (es : Env) (E : En) (r : RV) (S : Store) : Prop := QI r S fun x S1 => WR (md es S1) (kDP2 mk x es E) (kX es E)
theorem kDP1_d {y : D} : kDP1 a b es E (.d y) S = WR (a es S) (kDP2 b y es E) (kX es E) := nr rfl
theorem kDP2_e {y : D} {r : RV} : kDP2 b y es E r S = WR (b es S) (kDP3 y r es E) (kX es E) := nr rfl
theorem w_dput : WS (sDPut a b c es S) E = WR (c es S) (kDP1 a b es E) (kX es E) := by
  unfold sDPut kDP1 kDP2 kDP3 kX
  rw [WS_bindS]
  simp only [WR_bind, WR_item, WS_bindS]
end
end DM

namespace DM
open PySem PySem.Spec L2 PyProof.Rows
section
variable {X : Cx}
end
noncomputable def mulTF : F2 := fun S a b => match a, b with
  | .d (.tup xs), .d (.int j) => if -(2 ^ 63) ≤ j ∧ j ≤ 1000 ∧ xs.length ≤ 1000 then some (.d (.tup (repL j.toNat xs))) else none
  | _, _ => none
section
variable {G : GT} {W : WX} {X : Cx} {a b : Expr} {ma mb : ME} {pos : Pos} {S : Store}
end
end DM

namespace DTW
open PySem PySem.SeqAt PyProof.Rows PySem.W
section
variable {prog : Program} {w : World} {A : Around} {E : Value → Shared → Prop} {s : Shared}
end
end DTW
namespace L2
open PySem PySem.Spec PyProof.Rows PySem.W
section
variable {X : Cx}
end
end L2
namespace DM
open PySem PySem.Spec L2 PyProof.Rows PySem.W
mutual
def backD : PyData → D
  | .none => .non
  | .bool b => .bl b
  | .int i => .int i
  | .str x => .str x
  | .tuple ds => .tup (backL ds)
  | _ => .non
def backL : List PyData → List D
  | [] => []
  | d :: ds => backD d :: backL ds
end
mutual
def tupB : PyData → Bool
  | .none | .bool _ | .int _ | .str _ => true
  | .tuple ds => tupL ds
  | _ => false
def tupL : List PyData → Bool
  | [] => true
  | d :: ds => tupB d && tupL ds
end
section
variable {G : GT} {W : WX} {X : Cx} {a : Expr} {as : List Expr} {ms : List ME} {p pos : Pos} {k : Nat}
end
end DM

namespace L2
open PySem PySem.Spec PyProof.Rows
section
variable {X : Cx} {pins : List (Addr × Obj)} {σ : St} {H : Hp} {s : Shared} {a b : Addr} {u r : Value} {d : V} {k : List Key} {A : Around} {E : Value → Shared → Prop}
end
section
variable {X : Cx} {o e f : Expr} {td ty tx : TE} {apos cpos : Pos}
end
def bestL (ls : List Nat) : Nat := argBest (fun i j => decide (ls.getD j 0 < ls.getD i 0)) (ls.length - 1)
section
variable {X : Cx} {o : Expr} {p pos apos mpos kp lp : Pos} {td : TE}
end
end L2
namespace DM
open PySem PySem.Spec L2
open Classical in
noncomputable def setdS (S : Store) (a b : RV) (x : D) : Res RV := match dicAt S a, b with
  | some (n, true, kvs), .d kd => (match keyOf true kd with
    | some ks => if kvs.length < sizeLine then (match valD kvs ks with
      | some v => .ok (.d v) S
      | none => .ok (.d x) (S.set n (.dic true (putD kvs ks x)))) else .bad
    | none => .bad)
  | _, _ => .bad
noncomputable def eSetD (md mk mx : ME) : ME := fun es S => (md es S).bind fun a S1 => if (dicAt S1 a).isSome = true then (mk es S1).bind fun b S2 => ((mx es S2).bind item).bind fun x S3 => setdS S3 a b x else .bad
section
variable {G : GT} {W : WX} {X : Cx} {o e f : Expr} {mo me mf : ME} {pos apos cpos : Pos} {k : Nat}
end
def lenAt (S : Store) : D → Option Nat
  | .loc l => (match S[l]? with
    | some (.lst ds) => some ds.length
    | _ => none)
  | _ => none
def maxLenD (S : Store) (a : RV) : Option D := match dicAt S a with
  | some (_, true, kvs) => (kvs.mapM fun kv => lenAt S kv.2).bind fun ls => (kvs[bestL ls]?).map (·.2)
  | _ => none
noncomputable def eMaxLen (md : ME) : ME := fun es S => (md es S).bind fun a S1 => (match maxLenD S1 a with
  | some d => .ok (.d d) S1
  | none => .bad)
theorem mapM_len {A B : Type} {f : A → Option B} : ∀ {l : List A} {r : List B}, l.mapM f = some r → r.length = l.length ∧ ∀ (i : Nat) (a : A), l[i]? = some a → ∃ b, f a = some b ∧ r[i]? = some b
  | [], r, e => by
    simp at e
    subst e
    exact ⟨rfl, fun i a h => by simp at h⟩
  | x :: l, r, e => by
    rw [List.mapM_cons] at e
    cases z : f x with
    | none => rw [z] at e; cases e
    | some y =>
      rw [z] at e
      cases z2 : l.mapM f with
      | none => rw [z2] at e; cases e
      | some r2 =>
        rw [z2] at e
        have : y :: r2 = r := by simpa using e
        subst this
        obtain ⟨h1, h2⟩ := mapM_len z2
        refine ⟨by simp [h1], fun i a h => ?_⟩
        cases i with
        | zero => simp at h; subst h; exact ⟨y, z, rfl⟩
        | succ i => simpa using h2 i a (by simpa using h)
section
variable {G : GT} {W : WX} {X : Cx} {o : Expr} {mo : ME} {p pos apos mpos kp lp : Pos}
end
section
variable {es : Env} {S : Store} {Q : RV → Store → Prop} {X : QX} {a b c : ME} {n : Nat} {kvs : List (List Key × D)} {kd x : D} {ks : List Key}
end
end DM

namespace L2
open PySem PySem.Spec PyProof.Rows
def emptyS (w : World) : Obj := { cls := .type "set", dict := none, data := .set #[] 0 (.fresh 0 0 (!w.params.followText "set-order")) }
section
variable {P : Program} {w : World} {A : Around} {E : Value → Shared → Prop} {s : Shared}
set_option maxHeartbeats 8000000 in
theorem set_of_list {l : Addr} {xs : Array Value} {ns : List Int} {Q : Value → Shared → Prop} (hno : A.handled = none) (isl : s.heap.IsList l xs) (hin : IntsAre xs.toList ns) (room : ns.length + 1 < scanBound)
    (fin : ∀ (H' : Heap) (tk c : Nat), SetR w H' s.heap.objs.size (fun j => decide (j ∈ ns)) c → c ≤ ns.length → (∀ b o, s.heap.get? b = some o → H'.get? b = some o) → Q (.ref s.heap.objs.size) { s with heap := H', toks := tk }) : wpAny (model P w) A (call (.type "set") [.ref l]) Q E s := by
  have len : xs.size = ns.length := by have := IntsAre.length hin; rwa [Array.length_toList] at this
  obtain ⟨c, tl, hmro⟩ := F.called_set.mro
  have made := F.called_set.made; have sub := F.called_set.sub
  apply wpAny_call; apply codeAny_of_tree
  show wpAny _ _ (callAny (.type "set") ⟨[.ref l], []⟩) _ _ _
  apply wpAny_pure; refine ⟨Code.quiet_builtin _ (by decide +kernel), ?_⟩; apply codeAny_builtin F.entry_type_call
  rw [Around.under_plain (weight_type_call_type "set" [.ref l] []) (by rfl)]
  have nt := F.called_set.notType; have cc := F.called_set.canCreate; have tc := F.typeCall_set_1 (.ref l)
  repeat any_goals first | assumption | wp_step
  refine codeAny_mono (code_set_led1 (.ref l) (E := E) (Q₁ := fun v t => v = .ref s.heap.objs.size ∧ t = { s with heap := s.heap.push (emptyS w) }) ⟨rfl, rfl⟩) fun r s₁ hr => ?_
  match r, hr with
  | .error _, hr => exact hr
  | .ok (.ret v), ⟨ev, es⟩ =>
    subst ev es
    have gS : (s.heap.push (emptyS w)).get? s.heap.objs.size = some (emptyS w) := Heap.get?_push_size _ rfl
    have tS : Shared.TypeIs { s with heap := s.heap.push (emptyS w) } (.ref s.heap.objs.size) "set" := ⟨_, gS, rfl⟩
    have look := F.called_set.init.lookup; have bind := F.called_set.init.bind (.ref s.heap.objs.size)
    repeat any_goals first | assumption | wp_step
    refine codeAny_mono (codeAny_call_builtin (R := wants (fun r t => r = .none ∧ ∃ H' tk c, t = { s with heap := H', toks := tk } ∧ SetR w H' s.heap.objs.size (fun j => decide (j ∈ ns)) c ∧ c ≤ ns.length ∧ ∀ b o, s.heap.get? b = some o → H'.get? b = some o) E)
      F.called_set.init.plain F.entry_set_init (check_set_init_1 tS ?_)) fun r2 s2 h2 => ?_
    · obtain ⟨⟨oc, od, ot, os⟩, gl, hc, n, hd⟩ := isl
      simp only at hc hd
      subst hc hd
      have gl2 : (s.heap.push (emptyS w)).get? l = some { cls := .type "list", dict := od, data := .seq xs n, slots := os } := Heap.get?_push_of_some _ gl
      have n1 := F.sub_list_set; have n2 := F.sub_list_frozenset
      have n3 : (Value.type "list" == Value.type "dict") = false := by decide
      have il : (s.heap.push (emptyS w)).IsList l xs := ⟨_, gl2, rfl, n, rfl⟩
      unfold Builtin.«set.__init__» noKeywords Builtin.Frozenset.updateFrom
      generalize hit : pyIter = it; wp_walk; subst hit
      apply wpAny_pyIter_list il; apply wpAny_bind; apply wpAny_runValue
      have lS : l < s.heap.objs.size := Heap.lt_size gl
      have no3 : A.in1.in1.in1.handled = none := by simp [hno]
      have zS : (s.heap.push (emptyS w)).objs.size = s.heap.objs.size + 1 := Heap.size_push ..
      have lne : l ≠ (s.heap.push (emptyS w)).objs.size := fun z => by rw [zS] at z; exact absurd z (Nat.ne_of_lt (Nat.lt_succ_of_lt lS))
      have Sno : s.heap.objs.size ∉ [(s.heap.push (emptyS w)).objs.size, l] := by
        intro z; rcases List.mem_cons.mp z with z | z
        · rw [zS] at z; exact absurd z (Nat.ne_of_lt (Nat.lt_succ_self _))
        · exact absurd (List.mem_singleton.mp z) (Nat.ne_of_gt lS)
      have each : ∀ (i : Nat) (v : Value), xs[i]? = some v → ∃ k t, ns[i]? = some k ∧ v = .int k t := fun i v hv => by
        have il : i < ns.length := by have := (Array.getElem?_eq_some_iff.mp hv).1; omega
        obtain ⟨t, e⟩ := IntsAre.int_at hin i v (by rw [Array.getElem?_toList]; exact hv)
        refine ⟨ns[i], t, List.getElem?_eq_getElem il, ?_⟩
        rw [e, List.getD_eq_getElem?_getD, List.getElem?_eq_getElem il]; rfl
      refine set_update_ints ((Walks.list no3 _ l lne xs).toS) s.heap.objs.size Sno ns len room each (xs.size - 0) 0 _ (by omega) (Nat.zero_le _) ⟨⟨_, Heap.get?_push_size _ rfl, rfl, rfl⟩, il.push _⟩ ⟨0, Nat.le_refl 0, setR_new_at (Heap.get?_push_of_some _ gS)⟩ ?_
      rintro ⟨H2, g2, d2, tk2, os2⟩ c2 mv cl R2
      have e1 : g2 = s.gens := mv.gens; have e2 : d2 = s.drawn := mv.drawn; have e3 : os2 = s.os := mv.os
      subst e1 e2 e3
      show wpAny _ _ _ _ _ _
      apply wpAny_pure
      show wpAny _ _ (ret Value.none) _ _ _
      apply wpAny_pure; refine ⟨rfl, H2, tk2, c2, rfl, R2, by rw [← len]; exact cl, fun b o e => ?_⟩
      have bl := Heap.lt_size e
      refine mv.heap b o (fun z => ?_) (Heap.get?_push_of_some _ (Heap.get?_push_of_some _ e))
      rcases List.mem_cons.mp z with z | z
      · exact absurd z (Nat.ne_of_lt bl)
      · rcases List.mem_cons.mp z with z | z
        · rw [zS] at z; exact absurd z (Nat.ne_of_lt (Nat.lt_succ_of_lt bl))
        · cases z
    · match r2, h2 with
      | .error _, h2 => exact h2
      | .ok (.ret v), ⟨ev, H', tk, c, es, R, cl, kp⟩ =>
        subst ev es
        repeat any_goals first | assumption | wp_step
        exact fin _ _ _ R cl kp
      | .ok .next, h2 => exact h2.elim
      | .ok .brk, h2 => exact h2.elim
      | .ok .cont, h2 => exact h2.elim
  | .ok .next, hr => exact hr.elim
  | .ok .brk, hr => exact hr.elim
  | .ok .cont, hr => exact hr.elim
end
end L2

namespace L2
open PySem PySem.Spec PyProof.Rows
def tSortedSet (K : PySem.W.Frag) (ta : TE) : TE := fun σ H Q => ta σ H fun x H1 => ∃ (l : Addr) (ns : List Int), x = .ref l ∧ SqL K H1 l (ns.map V.int) ∧ ns.length < 64 ∧
  ∀ (ms : List Int) (p : Addr), ms.Pairwise (· < ·) → (∀ k : Int, k ∈ ms ↔ k ∈ ns) → H1 p = none → Q (.ref p) (upd H1 p (.lst (ms.map V.int)))
theorem pe_sortedSet {X : Cx} {a : Expr} {ta : TE} {p p2 q pos : Pos} (hc : X.calm = true) (hg : Gl X "sorted") (hm : X.mg "sorted" = none) (hg2 : Gl X "set") (hm2 : X.mg "set" = none) (ha : PE X a ta)
    (hv : bootBuiltins "sorted" = some (.builtin "sorted")) (na : starEach [a] X.env = (false, eval a X.env) :: starEach [] X.env := by rfl) : PE X (.Call (.Name "sorted" p) [.Call (.Name "set" p2) [a] [] q] [] pos) (tSortedSet X.K ta) := by
  refine ⟨fun pins s σ H Q I h => Call_ (ld_blt I hg hm hv ?_)⟩
  refine PyProof.Rows.callWith_builtin1 (PyProof.Rows.args_cons (Call_ (ld_blt I hg2 hm2 boot_set ?_)) rfl) rfl rfl
  refine PyProof.Rows.callWith_type1 (PyProof.Rows.args_cons (thn (ha.run pins s σ H _ I h) fun v s1 ⟨x, H1, I1, r1, q1⟩ => PyProof.Rows.args_nil ?_) na) na rfl
  obtain ⟨l, ns, rfl, hq, hl, q1⟩ := q1
  cases r1
  obtain ⟨its, r, pl, hz⟩ := I1.list hq
  refine set_of_list (ns := ns) (I1.ok.hd hc) pl.isList (by simpa using RZ.intsAre_vals r) (by unfold scanBound; omega) fun Hp tk c R cl kp => PyProof.Rows.args_nil ?_
  have I2 : Inv X pins σ H1 { s1 with heap := Hp, toks := tk } := I1.kept fun b o e => kp b o e
  have R' : SetR X.w ({ s1 with heap := Hp, toks := tk } : Shared).heap s1.heap.objs.size (fun j => decide (j ∈ ns)) c := R
  generalize ({ s1 with heap := Hp, toks := tk } : Shared) = t1 at I2 R' ⊢
  refine sorted_set R' (I1.ok.hd hc) (by omega) fun s2 pp out cc ms kp2 g o2 hp hgt hi hs hmm hlm => ?_
  have sz : (ms.map V.int).length ≤ sizeLine := by rw [List.length_map, hlm, sizeLine_eq]; omega
  have no : H1 pp = none := I2.hok.fresh hp
  have J : Inv X pins σ (upd H1 pp (.lst (ms.map V.int))) { t1 with heap := s2.heap, gens := s2.gens, drawn := s2.drawn, toks := s2.toks } :=
    I2.call (ch := []) (Un.laid kp2 hp no) (I2.hok.laid kp2 hp ⟨sz, out.toList, cc, vals_of_ints hi, hgt⟩) (by rw [g]; exact I2.bare) (fun _ z => nomatch z)
  have e : s2 = { t1 with heap := s2.heap, gens := s2.gens, drawn := s2.drawn, toks := s2.toks } := by
    obtain ⟨z1, z2, z3, z4, z5⟩ := s2
    cases o2
    rfl
  rw [e]
  exact ⟨.ref pp, _, J, rfl, q1 ms pp hs (fun k => by rw [hmm k, decide_eq_true_iff]) no⟩
end L2
namespace DM
open PySem PySem.Spec L2
def uniqI : List Int → List Int
  | [] => []
  | x :: xs => if x ∈ xs then uniqI xs else x :: uniqI xs
theorem uniqI_mem {k : Int} : ∀ {ns : List Int}, k ∈ uniqI ns ↔ k ∈ ns
  | [] => Iff.rfl
  | x :: xs => by
    unfold uniqI
    by_cases h : x ∈ xs
    · rw [if_pos h, uniqI_mem (ns := xs)]
      refine ⟨fun z => List.mem_cons_of_mem _ z, fun z => ?_⟩
      rcases List.mem_cons.mp z with rfl | z
      · exact h
      · exact z
    · rw [if_neg h, List.mem_cons, List.mem_cons, uniqI_mem (ns := xs)]
theorem uniqI_nodup : ∀ (ns : List Int), (uniqI ns).Nodup
  | [] => List.nodup_nil
  | x :: xs => by
    unfold uniqI
    by_cases h : x ∈ xs
    · rw [if_pos h]; exact uniqI_nodup xs
    · rw [if_neg h]; exact List.nodup_cons.mpr ⟨fun z => h (uniqI_mem.mp z), uniqI_nodup xs⟩
def setI (ns : List Int) : List Int := sortI (uniqI ns)
theorem setI_mem {ns : List Int} {k : Int} : k ∈ setI ns ↔ k ∈ ns := by
  unfold setI
  rw [(sortI_perm _).mem_iff, uniqI_mem]
theorem setI_nodup (ns : List Int) : (setI ns).Nodup := (sortI_perm _).nodup_iff.mpr (uniqI_nodup ns)
theorem setI_rises (ns : List Int) : (setI ns).Pairwise (· < ·) :=
  (List.Pairwise.and (sortI_rises _) (setI_nodup ns)).imp fun h => by
    have h1 := h.1
    have h2 := h.2
    omega
theorem setI_eq {ns ms : List Int} (h : ms.Pairwise (· < ·)) (hm : ∀ k : Int, k ∈ ms ↔ k ∈ ns) : ms = setI ns := by
  have nd : ms.Nodup := h.imp fun z => by omega
  refine sortI_eq ?_ (h.imp fun z => by omega)
  exact (List.perm_ext_iff_of_nodup nd (uniqI_nodup ns)).mpr fun k => (hm k).trans uniqI_mem.symm
def sortedSetF (S : Store) (r : RV) : Option OV := (lstOf S r).bind fun ds => (intsOf ds).bind fun ns => if ns.length < 64 then some (.l ((setI ns).map .int)) else none
def eSortedSet (m : ME) : ME := fun es S => (m es S).bind fun r S1 => ofO (sortedSetF S1 r.weak) S1
section
variable {G : GT} {W : WX} {X : Cx} {e : Expr} {m : ME} {p p2 q pos : Pos}
theorem se_sortedSet (hc : X.calm = true) (hg : Gl X "sorted") (hm : X.mg "sorted" = none) (hg2 : Gl X "set") (hm2 : X.mg "set" = none) (ha : SE G W X e m) (na : starEach [e] X.env = (false, eval e X.env) :: starEach [] X.env := by rfl) : SE G W X (.Call (.Name "sorted" p) [.Call (.Name "set" p2) [e] [] q] [] pos) (eSortedSet m) := by
  refine ⟨ha.k, PE.of (pe_sortedSet hc hg hm hg2 hm2 ha.pe (by decide +kernel) na) fun σ H Q h => ?_⟩
  obtain ⟨P, ρ, es, S, s, q, h⟩ := h
  refine rdE_then s q h fun r S1 v ρ1 H1 e1 s1 k1 rr h => ?_
  obtain ⟨P1, hp, s1', rr1⟩ := protect s1 rr
  cases z : sortedSetF S1 r.weak with
  | none => rw [z] at h; exact h.elim
  | some ov =>
    rw [z] at h
    have kk := op_end s1' hp h
    have e' : liF (fun ns => if ns.length < 64 then some (.l ((setI ns).map D.int)) else none) S1 [r.weak] = some ov := z
    obtain ⟨a, ns, ev, e1, e2⟩ := li_ok s1' (.cons rr1 .nil) e'
    have ev : v = .ref a := by simpa using ev
    subst ev
    split at e2
    · cases e2
      rw [ha.k]
      refine ⟨a, ns, rfl, SqL.of e1, by assumption, fun ms p hr hm hn => ?_⟩
      rw [setI_eq hr hm]
      exact op_lst kk (repsI _) p hn
    · cases e2
end
def kSortedSet (Q : RV → Store → Prop) (r : RV) (S : Store) : Prop := QO (sortedSetF S r.weak) S Q
theorem kSortedSet_l {Q : RV → Store → Prop} {S : Store} {p : Bool} {x : List D} : kSortedSet Q (.l p x) S = QO (sortedSetF S (.l false x)) S Q := nr rfl
theorem w_sortedSet {Q : RV → Store → Prop} {X : QX} {m : ME} {es : Env} {S : Store} : WR (eSortedSet m es S) Q X = WR (m es S) (kSortedSet Q) X := by
  unfold eSortedSet kSortedSet
  simp only [WR_bind, WR_ofO]
theorem sortedSet_e {S : Store} {b : Bool} {ns : List Int} (h : ns.length < 64) : sortedSetF S (.l b (ns.map .int)) = some (.l ((setI ns).map D.int)) := by
  show (intsOf (ns.map D.int)).bind _ = _
  rw [intsOf_map]
  exact if_pos h
end DM

namespace DM
open PySem PySem.Spec L2
def KO (G : GT) (ρ : List Addr) (H : Hp) : Bool → List (List Key × D) → HO → Prop
  | true, kvs, u => ∃ us : List (List Key × V), u = .dT us ∧ kvs.map (·.1) = us.map (·.1) ∧ Reps G ρ H (kvs.map (·.2)) (us.map (·.2))
  | false, kvs, u => ∃ us : List (Key × V), u = .dK us ∧ kvs.map (·.1) = us.map (fun q => [q.1]) ∧ Reps G ρ H (kvs.map (·.2)) (us.map (·.2))
def DicU (u : HO) : Prop := (∃ us, u = .dT us) ∨ ∃ us, u = .dK us
section
variable {G : GT} {P P' : Hp} {ρ ρ' : List Addr} {H H' : Hp} {S S' : Store} {t : Bool} {kvs : List (List Key × D)} {a : Addr} {u : HO} {od : Obj}
theorem KO.dic (h : KO G ρ H t kvs u) : DicU u := by
  cases t with
  | true => obtain ⟨us, e, _⟩ := h; exact .inl ⟨us, e⟩
  | false => obtain ⟨us, e, _⟩ := h; exact .inr ⟨us, e⟩
theorem ko_of (h : OR G ρ H (.dic t kvs) a) : ∃ u, H a = some u ∧ KO G ρ H t kvs u := by
  cases t with
  | true => obtain ⟨us, e, x⟩ := h; exact ⟨_, e, us, rfl, x⟩
  | false => obtain ⟨us, e, x⟩ := h; exact ⟨_, e, us, rfl, x⟩
theorem ko_ofL (h : OR G ρ H (.ins t kvs) a) : ∃ od u, H a = some (.frz od u) ∧ KO G ρ H t kvs u := by
  cases t with
  | true => obtain ⟨o, us, e, x⟩ := h; exact ⟨o, _, e, us, rfl, x⟩
  | false => obtain ⟨o, us, e, x⟩ := h; exact ⟨o, _, e, us, rfl, x⟩
theorem KO.or (h : KO G ρ H t kvs u) (e : H a = some u) : OR G ρ H (.dic t kvs) a := by
  cases t with
  | true => obtain ⟨us, rfl, x⟩ := h; exact ⟨us, e, x⟩
  | false => obtain ⟨us, rfl, x⟩ := h; exact ⟨us, e, x⟩
theorem KO.orL (h : KO G ρ H t kvs u) (e : H a = some (.frz od u)) : OR G ρ H (.ins t kvs) a := by
  cases t with
  | true => obtain ⟨us, rfl, x⟩ := h; exact ⟨od, us, e, x⟩
  | false => obtain ⟨us, rfl, x⟩ := h; exact ⟨od, us, e, x⟩
theorem KO.mono (h : KO G ρ H t kvs u) (k : TK ρ H ρ' H') : KO G ρ' H' t kvs u := by
  cases t with
  | true => obtain ⟨us, e, x, y⟩ := h; exact ⟨us, e, x, y.mono k⟩
  | false => obtain ⟨us, e, x, y⟩ := h; exact ⟨us, e, x, y.mono k⟩
theorem ne_dic {b : Addr} {o : HO} (h : H a = some (.frz od u)) (e : H b = some o) (hn : ∀ od, o ≠ .frz od u) : b ≠ a := fun z => by
  rw [z, h] at e
  cases e
  exact hn _ rfl
section
variable (h : H a = some (.frz od u)) (hu : DicU u)
include h hu
mutual
theorem Rep.unl : ∀ {d : D} {v : V}, Rep G ρ H d v → Rep G ρ (upd H a u) d v
  | _, _, .non => .non
  | _, _, .bl b => .bl b
  | _, _, .int i => .int i
  | _, _, .str x => .str x
  | _, _, .tup e r => .tup (e.elim fun o e => ⟨o, by
      rw [upd_ne (ne_dic h e.1 fun _ z => by
        cases z
        rcases hu with ⟨_, z⟩ | ⟨_, z⟩ <;> cases z)]
      exact e.1, e.2⟩) (Reps.unl r)
  | _, _, .loc e => .loc e
  | _, _, .ty n => .ty n
  | _, _, .cls e => .cls e
  | _, _, .fn e => .fn e
  | _, _, .scr e => .scr (e.elim (fun ⟨o, e⟩ => .inl ⟨o, by
      rw [upd_ne (ne_dic h e fun _ z => by
        cases z
        rcases hu with ⟨_, z⟩ | ⟨_, z⟩ <;> cases z)]
      exact e⟩) .inr)
  | _, _, .exn hC e z f => .exn hC (by
      rw [upd_ne (ne_dic h e fun _ z => by
        unfold ExK at z
        cases z
        rcases hu with ⟨_, z⟩ | ⟨_, z⟩ <;> cases z)]
      exact e) z f
  | _, _, .exo hC e z f hd r => .exo hC (by
      rw [upd_ne (ne_dic h e fun _ z => by
        unfold ExK at z
        cases z
        rcases hu with ⟨_, z⟩ | ⟨_, z⟩ <;> cases z)]
      exact e) z f (by
      rw [upd_ne (ne_of hd h (by intro z; cases z))]
      exact hd) (Rep.unl r)
theorem Reps.unl : ∀ {ds : List D} {vs : List V}, Reps G ρ H ds vs → Reps G ρ (upd H a u) ds vs
  | _, _, .nil => .nil
  | _, _, .cons e r => .cons (Rep.unl e) (Reps.unl r)
end
theorem KO.unl {t2 : Bool} {kvs2 : List (List Key × D)} {u2 : HO} (x : KO G ρ H t2 kvs2 u2) : KO G ρ (upd H a u) t2 kvs2 u2 := by
  cases t2 with
  | true => obtain ⟨us, e, x, y⟩ := x; exact ⟨us, e, x, y.unl h hu⟩
  | false => obtain ⟨us, e, x, y⟩ := x; exact ⟨us, e, x, y.unl h hu⟩
theorem OR.unl {o : O} {b : Addr} (q : OR G ρ H o b) (hb : b ≠ a) : OR G ρ (upd H a u) o b := by
  cases o with
  | lst ds => obtain ⟨vs, e, r⟩ := q; exact ⟨vs, by rw [upd_ne hb]; exact e, r.unl h hu⟩
  | dic t kvs => obtain ⟨x, e, r⟩ := ko_of q; exact (r.unl h hu).or (by rw [upd_ne hb]; exact e)
  | ins t kvs => obtain ⟨o, x, e, r⟩ := ko_ofL q; exact (r.unl h hu).orL (by rw [upd_ne hb]; exact e)
  | obj c fs => obtain ⟨C, dx, us, z, e, y, r⟩ := q; exact ⟨C, dx, us, z, by rw [upd_ne hb]; exact e, y, r.unl h hu⟩
theorem RR.unl {r : RV} {v : V} (q : RR G P ρ H r v) : RR G P ρ (upd H a u) r v := by
  cases r with
  | d x => exact Rep.unl h hu q
  | l f ds =>
    cases f with
    | true =>
      obtain ⟨b, vs, rfl, e, r, y, z⟩ := q
      exact ⟨b, vs, rfl, by rw [upd_ne (ne_dic h e fun _ z => nomatch z)]; exact e, r.unl h hu, y, z⟩
    | false => obtain ⟨b, vs, rfl, e, r⟩ := q; exact ⟨b, vs, rfl, e, r.unl h hu⟩
theorem VS.unl {n : Nat} {o : O} (s : VS G P ρ H S) (hn : ρ[n]? = some a) (r : OR G ρ (upd H a u) o a) : VS G P ρ (upd H a u) (S.set n o) := by
  refine ⟨by rw [List.length_set]; exact s.len, s.nd, fun m b o' e1 e2 => ?_, fun b o' e => ?_⟩
  · by_cases hm : m = n
    · subst hm
      rw [hn] at e1
      have eb : a = b := Option.some.inj e1
      subst eb
      have hl : m < S.length := by rw [← s.len]; exact (List.getElem?_eq_some_iff.mp hn).1
      rw [List.getElem?_set_self hl] at e2
      cases e2
      exact r
    · rw [List.getElem?_set_ne (Ne.symm hm)] at e2
      refine (s.st m b o' e1 e2).unl h hu fun z => hm ?_
      subst z
      have h1 := (List.getElem?_eq_some_iff.mp e1)
      have h2 := (List.getElem?_eq_some_iff.mp hn)
      exact (List.getElem_inj s.nd).mp (h1.2.trans h2.2.symm)
  · obtain ⟨q1, q2⟩ := s.pr b o' e
    have hb : b ≠ a := fun z => q2 (z ▸ List.mem_of_getElem? hn)
    rw [upd_ne hb]
    exact ⟨q1, q2⟩
theorem SS.unl {σ : St} {es : Env} (q : SS G P ρ H σ es) : SS G P ρ (upd H a u) σ es := by
  refine ⟨q.len, fun j e z => ?_, fun j ds z => ?_, fun j ds z => ?_, q.dis⟩
  · obtain ⟨x, y1, y2⟩ := q.val j e z
    exact ⟨x, y1, y2.unl h hu⟩
  · obtain ⟨c, us, y1, y2, y3⟩ := q.bor j ds z
    exact ⟨c, us, y1, y2, y3.unl h hu⟩
  · obtain ⟨c, us, y1, y2, y3, y4, y5⟩ := q.own j ds z
    exact ⟨c, us, y1, by rw [upd_ne (ne_dic h y2 fun _ z => nomatch z)]; exact y2, y3.unl h hu, y4, y5⟩
end
end
def unlR (n : Nat) (o : O) : Res RV → Res RV
  | .ok x S' => .ok x (S'.set n o)
  | _ => .bad
def dicV (i : Nat) (es : Env) (S : Store) : Option (Nat × Bool × List (List Key × D)) := match es[i]? with
  | some (.v (.loc n)) => (match S[n]? with
    | some (.dic t kvs) => some (n, t, kvs)
    | _ => none)
  | _ => none
def eLk (i : Nat) (m : ME) : ME := fun es S => match dicV i es S with
  | some (n, t, kvs) => unlR n (.dic t kvs) (m es (S.set n (.ins t kvs)))
  | none => .bad
section
variable {G : GT} {W : WX} {X : Cx} {e : Expr} {m : ME} {st : Stmt} {ms : MS}
end
def keyD1 : Key → D
  | .inl i => .int i
  | .inr x => .str x
def keyD : Bool → List Key → D
  | true, ks => .tup (ks.map keyD1)
  | false, [k] => keyD1 k
  | false, _ => .non
def keysD (t : Bool) (kvs : List (List Key × D)) : List D := kvs.map fun kv => keyD t kv.1
def miKeys (i : Nat) : MI := fun es S => match es[i]? with
  | some (.v (.loc n)) => (match S[n]? with
    | some (.ins t kvs) => .ok (keysD t kvs, fun _ => True) S
    | _ => .bad)
  | _ => .bad
section
variable {G : GT} {P : Hp} {ρ : List Addr} {H : Hp} {S : Store}
end
abbrev QMI2 := List D × (Store → Prop) → Store → Prop
section
variable {es : Env} {S : Store} {Q : RV → Store → Prop} {X : QX} {E : En} {m : ME} {ms : MS} {n i : Nat} {t : Bool} {kvs : List (List Key × D)}
theorem set_at {o o' : O} (h : S[n]? = some o) : (S.set n o')[n]? = some o' := List.getElem?_set_self (List.getElem?_eq_some_iff.mp h).1
end
end DM
namespace L2
open PySem PySem.Spec PyProof.Rows
end L2
namespace DM
open PySem PySem.Spec L2
section
variable {G : GT} {W : WX} {X : Cx} {a : Expr} {as : List Expr} {ms : List ME} {p pos : Pos} {k : Nat}
end
section
variable {G : GT} {W : WX} {X : Cx} {o : Expr} {mo : ME} {apos cpos : Pos}
end
end DM
namespace L2
open PySem PySem.Spec PyProof.Rows PySem.W
end L2
namespace DM
open PySem PySem.Spec L2 PyProof.Rows PySem.W
theorem Room.u70 {k : Nat} {A : Around} (r : Room k A) : A.units + 70 < cLine := by have := r.un; omega
section
variable {G : GT} {W : WX} {X : Cx} {a : Expr} {as : List Expr} {ms : List ME} {p pos : Pos} {k : Nat}
end
end DM

namespace EBW
open PySem
open Sem (wp)
section
variable {prog : Program} {w : World} {K : Type} [DecidableEq K] {knd : HeapKind prog w K} {A : Around} {E : Value → Shared → Prop} {s : Shared}
end
end EBW
namespace L2
open PySem PySem.Spec PyProof.Rows PySem.W
section
variable {X : Cx}
end
end L2
namespace DM
open PySem PySem.Spec L2 PyProof.Rows PySem.W
section
variable {G : GT} {W : WX} {X : Cx} {kx vx : Expr} {mk mv : ME} {pos : Pos} {k : Nat}
end
section
variable {G : GT} {W : WX} {X : Cx} {a : Expr} {as : List Expr} {ms : List ME} {p pos : Pos} {k : Nat}
end
section
variable {es : Env} {S : Store} {Q : RV → Store → Prop} {X : QX} {a b : ME}
end
end DM

namespace DM
open PySem PySem.Spec L2
def pairKV : D → Option (Key × D)
  | .tup [kd, x] => (key1 kd).map fun k => (k, x)
  | _ => none
def mergeD (acc : List (List Key × D)) (kvs : List (Key × D)) : List (List Key × D) := kvs.foldl (fun acc kv => putD acc [kv.1] kv.2) acc
def dictPS (r : RV) (S : Store) : Res RV := match (lstOf S r).bind fun ds => ds.mapM pairKV with
  | some kvs => .ok (.d (.loc S.length)) (S ++ [.dic false (mergeD [] kvs)])
  | none => .bad
def eDictP (ms : List ME) : ME := fun es S => (eArgs ms es S).bind fun rs S1 => match rs with
  | [r] => dictPS r S1
  | _ => .bad
section
variable {G : GT} {P : Hp} {ρ : List Addr} {H : Hp} {S : Store}
theorem VS.pushR {a : Addr} {y : HO} {o : O} (s : VS G P ρ H S) (hn : H a = none) (r : OR G (ρ ++ [a]) (upd H a y) o a) : VS G P (ρ ++ [a]) (upd H a y) (S ++ [o]) := by
  have tk : TK ρ H (ρ ++ [a]) (upd H a y) := TK.new hn
  have hf := s.free hn
  refine ⟨by simp [s.len], ?_, fun n b o' e1 e2 => ?_, fun b o' e => ?_⟩
  · rw [List.nodup_append]
    refine ⟨s.nd, by simp, fun x hx y hy => ?_⟩
    have : y = a := by simpa using hy
    subst this
    exact fun z => hf.1 (z ▸ hx)
  · by_cases hl : n < ρ.length
    · rw [List.getElem?_append_left hl] at e1
      rw [List.getElem?_append_left (by rw [← s.len]; exact hl)] at e2
      have hb : b ≠ a := fun z => hf.1 (z ▸ List.mem_of_getElem? e1)
      exact (s.st n b o' e1 e2).next tk (upd_ne hb)
    · have hn' : n = ρ.length := by
        have := (List.getElem?_eq_some_iff.mp e1).1
        simp at this
        omega
      subst hn'
      rw [List.getElem?_append_right (Nat.le_refl _)] at e1
      rw [s.len, List.getElem?_append_right (Nat.le_refl _)] at e2
      simp at e1 e2
      subst e1 e2
      exact r
  · obtain ⟨q1, q2⟩ := s.pr b o' e
    have hb : b ≠ a := fun z => by rw [z, hn] at q1; cases q1
    refine ⟨by rw [upd_ne hb]; exact q1, fun m => ?_⟩
    rcases List.mem_append.mp m with m | m
    · exact q2 m
    · exact hb (by simpa using m)
theorem pairs_rep : ∀ {ds : List D} {vs : List V} {kvs : List (Key × D)}, Reps G ρ H ds vs → ds.mapM pairKV = some kvs → ∃ (ps : List Addr) (us : List (Key × V)), vs = ps.map V.ref ∧ Paired (fun p (kv : Key × V) => SqT G.K H p [kV kv.1, kv.2]) ps us ∧ us.map (·.1) = kvs.map (·.1) ∧ Reps G ρ H (kvs.map (·.2)) (us.map (·.2))
  | [], _, kvs, r, e => by
    cases r
    have : kvs = [] := by simpa using e.symm
    subst this
    exact ⟨[], [], rfl, .nil, rfl, .nil⟩
  | d :: ds, _, kvs, r, e => by
    cases r with
    | cons h t =>
      rw [List.mapM_cons] at e
      cases z : pairKV d with
      | none => rw [z] at e; cases e
      | some kx =>
        rw [z] at e
        cases z2 : ds.mapM pairKV with
        | none => rw [z2] at e; cases e
        | some qs =>
          rw [z2] at e
          have e : kx :: qs = kvs := by simpa using e
          subst e
          obtain ⟨ps, us, rfl, pr, ek, er⟩ := pairs_rep t z2
          unfold pairKV at z
          split at z
          · rename_i kd x
            cases z3 : key1 kd with
            | none => rw [z3] at z; cases z
            | some k =>
              rw [z3] at z
              cases z
              obtain ⟨a, vs, rfl, e1, q1⟩ := rep_tup h
              cases q1 with
              | cons h1 t1 =>
                cases t1 with
                | cons h2 t2 =>
                  cases t2
                  have := key1_rep h1 z3
                  subst this
                  exact ⟨a :: ps, (k, _) :: us, rfl, .cons (e1.sq) pr, by rw [List.map_cons, List.map_cons, ek], .cons h2 er⟩
          · cases z
theorem merge_rep : ∀ {kvs : List (Key × D)} {us : List (Key × V)} {acc : List (List Key × D)} {accV : List (Key × V)}, us.map (·.1) = kvs.map (·.1) → Reps G ρ H (kvs.map (·.2)) (us.map (·.2)) → KR G ρ H acc (upK accV) → KR G ρ H (mergeD acc kvs) (upK (mergeK accV us))
  | [], [], _, _, _, _, h => h
  | [], _ :: _, _, _, e, _, _ => by cases e
  | _ :: _, [], _, _, e, _, _ => by cases e
  | kx :: kvs, u :: us, acc, accV, e, r, h => by
    rw [List.map_cons, List.map_cons] at e
    injection e with e1 e2
    cases r with
    | cons h1 t1 =>
      have this := h.put [u.1] h1
      rw [upK_put] at this
      have e3 : putD acc [u.1] kx.2 = putD acc [kx.1] kx.2 := by rw [e1]
      rw [e3] at this
      exact merge_rep (acc := putD acc [kx.1] kx.2) (accV := putK accV u.1 u.2) e2 t1 this
end
section
variable {G : GT} {W : WX} {X : Cx} {a : Expr} {as : List Expr} {ms : List ME} {p pos : Pos}
end
section
variable {G : GT} {W : WX} {X : Cx} {o i : Expr} {mo mi : ME} {pos : Pos} {k : Nat}
end
end DM

namespace L2
open PySem PySem.Spec PyProof.Rows
end L2
namespace DM
open PySem PySem.Spec L2
section
variable {G : GT} {W : WX} {X : Cx} {e : Expr} {m : ME} {p p2 q pos : Pos}
end
end DM

namespace DM
open PySem PySem.Spec L2
def strsOf : List D → Option (List Str)
  | [] => some []
  | .str x :: ds => (strsOf ds).map (x :: ·)
  | _ => none
def joinF : FM := fun S x xs => match x, xs with
  | .d (.str a), [r] => (match (match r with
    | .d (.tup ds) => strsOf ds
    | r => (lstOf S r).bind strsOf) with
    | some ys => if (ys.map (·.length)).sum + ys.length * a.length ≤ 16777216 then some (.d (.str (Txt.join a ys))) else none
    | none => none)
  | _, _ => none
def splitF : FM := fun _ x xs => match x, xs with
  | .d (.str a), [.d (.str b)] => if (b.length == 0) = false ∧ a.length + 2 ≤ sizeLine then some (.l ((Txt.split a b).map D.str)) else none
  | _, _ => none
section
variable {G : GT} {W : WX} {X : Cx} {o e : Expr} {as : List Expr} {mo : ME} {ms : List ME} {apos cpos : Pos}
end
end DM

namespace EGW
open PySem
open Sem (wp)
section
variable {prog : Program} {w : World} {A : Around} {E : Value → Shared → Prop} {s : Shared} {z TI TO i1 i2 T : Addr} {fp1 fp2 : List Addr} {n1 n2 i : Nat} {P1 P2 : Nat → Value → Prop} {St1 St2 : Nat → Heap → Prop} {f : Bool} {oT : Obj}
def Slot (h : Heap) (z TI TO i1 i2 S : Addr) : Prop := IsZip h z TI TO .none ∨ ∃ T f oT, IsZipHeld h z TI TO T f ∧ h.get? T = some oT ∧ T ≠ z ∧ T ≠ TO ∧ T ≠ i1 ∧ T ≠ i2 ∧ T ≠ S
theorem Slot.there {h : Heap} {z TI TO i1 i2 S : Addr} (q : Slot h z TI TO i1 i2 S) : ∃ f0, IsZip h z TI TO f0 ∨ ∃ T f, IsZipHeld h z TI TO T f := by
  rcases q with q | ⟨T, f, _, q, _⟩
  · exact ⟨.none, .inl q⟩
  · exact ⟨.none, .inr ⟨T, f, q⟩⟩
abbrev IsTup (h : Heap) (c : Addr) (x y : Value) : Prop := IsTupOf2 h c x y
structure Out (P1 P2 : Nat → Value → Prop) (lo : Addr) (h : Heap) (as : List Addr) : Prop where
  rise : as.Pairwise (· < ·)
  above : ∀ a ∈ as, lo < a
  pairs : ∀ (j : Nat) (a : Addr), as[j]? = some a → ∃ x y, P1 j x ∧ P2 j y ∧ IsTupOf2 h a x y
theorem Out.there {lo : Addr} {h : Heap} {as : List Addr} (g : Out P1 P2 lo h as) {a : Addr} (ha : a ∈ as) : a < h.objs.size := by
  obtain ⟨j, hj⟩ := List.mem_iff_getElem?.mp ha
  obtain ⟨_, _, _, _, e⟩ := g.pairs j a hj
  exact Heap.lt_size e
end
section
variable {prog : Program} {w : World} {A : Around} {E : Value → Shared → Prop} {s : Shared} {R : Result → Shared → Prop} {z TI TO i1 i2 : Addr} {fp1 fp2 : List Addr} {n : Nat} {P1 P2 : Nat → Value → Prop} {St1 St2 : Nat → Heap → Prop}
theorem Slot.keep {h h' : Heap} {S : Addr} (q : Slot h z TI TO i1 i2 S) (hk : ∀ b o, b ≠ S → h.get? b = some o → h'.get? b = some o) (hz : z ≠ S) : Slot h' z TI TO i1 i2 S := by
  rcases q with q | ⟨T, f, oT, q, hT, tz, tO, t1, t2, tS⟩
  · exact .inl (hk _ _ hz q)
  · exact .inr ⟨T, f, oT, hk _ _ hz q, hk _ _ tS hT, tz, tO, t1, t2, tS⟩
end
end EGW
namespace L2
open PySem PySem.Spec PyProof.Rows PySem.W DM
end L2
namespace L2
open PySem PySem.Spec PyProof.Rows PySem.W DM
end L2
namespace DM
open PySem PySem.Spec L2 PyProof.Rows PySem.W
section
variable {G : GT} {W : WX} {X : Cx} {a b : Expr} {ma mb : ME} {p p2 q pos : Pos} {k : Nat}
end
section
variable {G : GT} {W : WX} {X : Cx} {e : Expr} {m : ME} {p p2 q pos : Pos} {k : Nat}
end
end DM

namespace L2
open PySem PySem.Spec PyProof.Rows
section
variable {X : Cx} {CX : CXT} {k : Nat} {f C : Addr} {fd : FuncData} {ps : List Str} {sp : Sp} {E : St → XK} {x m : Str} {p pos apos : Pos} {e o : Expr} {es : List Expr} {ta : TE} {t : TA}
end
end L2
namespace DM
open PySem PySem.Spec L2
section
variable {G : GT} {P : Program} {w : World} {K : PySem.W.Frag} {mg : Str → Option Value} {base : Heap} {k n c : Nat} {x qual : Str} {st : Stmt} {C f : Addr} {fd : FuncData} {ps N : List Str} {m : MF}
end
def objAt (S : Store) (c : Nat) : RV → Option (Nat × List (Str × D))
  | .d (.loc n) => match S[n]? with
    | some (.obj c' fs) => if c' = c then some (n, fs) else none
    | _ => none
  | _ => none
def fldS (c : Nat) (f : Str) (S : Store) (r : RV) : Res RV := match objAt S c r with
  | some (_, fs) => match fs.lookup f with
    | some d => .ok (.d d) S
    | none => .bad
  | none => .bad
def eFld (c : Nat) (f : Str) (m : ME) : ME := fun es S => (m es S).bind fun r S1 => fldS c f S1 r
def putO (f : Str) (y : D) : List (Str × D) → List (Str × D)
  | [] => [(f, y)]
  | (g, x) :: r => if g = f then (g, y) :: r else (g, x) :: putO f y r
def putS (c : Nat) (f : Str) (es : Env) (x : D) (S : Store) (r : RV) : SR := match objAt S c r with
  | some (n, fs) => if fs.length < 1000 then .nx es (S.set n (.obj c (putO f x fs))) else .bad
  | none => .bad
def sFld (c : Nat) (f : Str) (mo mv : ME) : MS := fun es S => bindS ((mv es S).bind item) es fun x S1 => bindS (mo es S1) es fun r S2 => putS c f es x S2 r
def eMeth (c : Nat) (x : Str) (m : MF) (mo : ME) (ms : List ME) : ME := fun es S => (mo es S).bind fun r S1 => match objAt S1 c r with
  | some (n, fs) => match fs.lookup x with
    | none => (eArgs ms es S1).bind fun rs S2 => okR (m (.d (.loc n) :: rs) S2)
    | some _ => .bad
  | none => .bad
def mkS (n : Nat) (r : Res RV) : Res RV := match r with
  | .ok (.d .non) S => .ok (.d (.loc n)) S
  | _ => .bad
def eMake (c : Nat) (m : MF) : ME := fun _ S => mkS S.length (m [.d (.loc S.length)] (S ++ [.obj c []]))
def appF (S : Store) (n : Nat) (d : D) : Res RV := match S[n]? with
  | some (.lst ds) => if ds.length < sizeLine then .ok (.d .non) (S.set n (.lst (ds ++ [d]))) else .bad
  | _ => .bad
noncomputable def eAppF (mo mi : ME) : ME := fun es S => (mo es S).bind fun x S1 => match x with
  | .d (.loc n) => if tyF "list" S1 x.weak = true then ((mi es S1).bind item).bind fun d S2 => appF S2 n d else .bad
  | _ => .bad
section
variable {G : GT} {W : WX} {X : Cx} {o e : Expr} {as : List Expr} {ms : List ME} {mo me mi : ME} {m : MF} {f x : Str} {p pos pos' apos cpos : Pos} {k n c : Nat}
theorem PE.and {t t' : TE} (h : PE X e t) (k : ∀ σ H Q, t' σ H Q → t σ H Q) : PE X e t' := PE.of h k
end
section
variable {es : Env} {S : Store} {E : En} {Q : RV → Store → Prop} {X : QX} {a b mo mi : ME} {ms : List ME} {m : MF} {f x : Str} {n c : Nat} {fs : List (Str × D)} {d y : D}
end
end DM

namespace L2
open PySem PySem.Spec PyProof.Rows
section
variable {X : Cx} {pins : List (Addr × Obj)} {σ : St} {H : Hp} {s : Shared}
end
structure BaseC (K : PySem.W.Frag) (C : Addr) : Prop where
  kC : PySem.W.keepIn K (.ref C) = true
  rd : PySem.W.readsIn K C (.type "type") = true
  ga : PySem.W.specialIn K (.ref C) "__getattribute__" = some (some (.builtin "type.__getattribute__"))
  ini : PySem.W.findCls K (.ref C) (.type "type") "__init__" = some (.val (.builtin "ValueError.__init__"))
section
variable {X : Cx} {e : Expr} {es : List Expr} {ta : TA} {x : Str} {p1 p2 pos : Pos}
end
end L2
namespace DM
open PySem PySem.Spec L2
def sRaiseA (m : ME) : MS := fun es S => bindS ((m es S).bind item) es fun d S1 => .ex 6 [d] es S1
section
variable {G : GT} {W : WX} {X : Cx} {e : Expr} {me : ME} {m : MS} {x n y : Str} {p pos pos' pos2 np yp ep fp ap : Pos} {i j c : Nat} {body : List Stmt}
end
section
variable {es : Env} {S : Store} {E : En} {Q : RV → Store → Prop} {X : QX} {me : ME} {b : MS} {i j c : Nat} {d : D}
end
end DM

namespace DM
open PySem PySem.Spec L2
def signsD (x : Str) : List D := x.cps.toList.map fun c => D.str ⟨#[c]⟩
def strS (S : Store) : RV → Res (List D × (Store → Prop))
  | .d (.str x) => .ok (signsD x, fun _ => True) S
  | _ => .bad
def miStr (m : ME) : MI := fun es S => (m es S).bind fun r S1 => strS S1 r
section
variable {G : GT} {W : WX} {X : Cx} {tg e : Expr} {m : ME}
end
section
variable {G : GT} {W : WX} {X : Cx} {o e a : Expr} {as : List Expr} {mo : ME} {ms : List ME} {apos cpos p pos : Pos}
end
section
variable {G : GT} {W : WX} {X : Cx} {a : Expr} {as : List Expr} {ms : List ME} {p pos : Pos}
end
end DM

namespace DM
open PySem PySem.Spec L2
structure GDict (K : PySem.W.Frag) (w : World) (mg : Str → Option Value) (nm : Str) (tab : List (Str × Int)) : Prop where
  ex : ∃ (a : Addr) (es : Array DictEntry) (n : Nat), mg nm = some (.ref a) ∧ KDict K w a es n ∧ ∀ z, ∃ r, PySem.W.nsIn K a z = some r ∧ (match tab.lookup z with | none => r = none | some i => ∃ t, r = some (.int i t))
def inGF (tab : List (Str × Int)) : Store → RV → Option OV := fun _ r => match r with
  | .d (.str z) => some (.d (.bl (tab.lookup z).isSome))
  | _ => none
def atGF (tab : List (Str × Int)) : Store → RV → Option OV := fun _ r => match r with
  | .d (.str z) => (tab.lookup z).map fun i => .d (.int i)
  | _ => none
def getGF (tab : List (Str × Int)) : F2 := fun _ a b => match a, b with
  | .d (.str z), .d (.int d) => some (.d (.int ((tab.lookup z).getD d)))
  | _, _ => none
section
variable {X : Cx} {d : Addr} {es : Array DictEntry} {n : Nat} {G : GT}
end
section
variable {X : Cx} {G : GT} {W : WX} {nm : Str} {tab : List (Str × Int)} {a b : Expr} {ma mb : ME} {p pos : Pos}
end
section
variable {S : Store} {tab : List (Str × Int)} {z : Str} {i : Int}
end
end DM

namespace L2
open PySem PySem.Spec PyProof.Rows PySem.W
section
variable {X : Cx} {pins : List (Addr × Obj)} {σ : St} {H : Hp} {s : Shared} {a b : Addr} {A : Around} {E : Value → Shared → Prop} {kvs more : List (Key × V)}
end
section
variable {X : Cx} {o e : Expr} {apos cpos : Pos} {td ty : TE}
end
end L2
namespace DM
open PySem PySem.Spec L2 PyProof.Rows PySem.W
def mrgD (kvs more : List (List Key × D)) : List (List Key × D) := more.foldl (fun acc kv => putD acc kv.1 kv.2) kvs
section
variable {G : GT} {P : Hp} {ρ : List Addr} {H : Hp} {S : Store}
theorem KR.merge : ∀ {more : List (List Key × D)} {rs : List (List Key × V)} {kvs : List (List Key × D)} {us : List (List Key × V)}, KR G ρ H more rs → KR G ρ H kvs us → KR G ρ H (mrgD kvs more) (rs.foldl (fun acc kv => putK acc kv.1 kv.2) us)
  | [], rs, _, _, r, h => by rw [KR.nil' r]; exact h
  | p :: more, [], _, _, r, _ => by have := r.len; simp at this
  | p :: more, q :: rs, kvs, us, r, h => by
    obtain ⟨e, rp, rr⟩ := r.cons
    have := KR.put p.1 rp h
    rw [e] at this
    show KR G ρ H (mrgD (putD kvs p.1 p.2) more) (rs.foldl _ (putK us q.1 q.2))
    rw [e]
    exact KR.merge rr this
end
inductive LitP (G : GT) (W : WX) (X : Cx) : List (Option Expr) → List Expr → List (Str × Int) → Prop
  | nil : LitP G W X [] [] []
  | cons {kx vx : Expr} {x : Str} {i : Int} {ks : List (Option Expr)} {vs : List Expr} {l : List (Str × Int)} (hk : SE G W X kx (eC (.str x))) (hv : SE G W X vx (eC (.int i))) (h : LitP G W X ks vs l) : LitP G W X (some kx :: ks) (vx :: vs) ((x, i) :: l)
section
variable {G : GT} {W : WX} {X : Cx} {pos : Pos} {ks : List (Option Expr)} {vs : List Expr} {l : List (Str × Int)}
end
section
variable {G : GT} {W : WX} {X : Cx} {o e : Expr} {mo me : ME} {apos cpos : Pos}
end
section
variable {es : Env} {S : Store} {Q : RV → Store → Prop} {X : QX} {a b : ME}
end
end DM

namespace DM
open PySem PySem.Spec PyProof.Rows L2
section
variable {X : Cx}
theorem pairsV_of {pins : List (Addr × Obj)} {σ : L2.St} {H : Hp} {s : Shared} (I : Inv X pins σ H s) : ∀ {ps : List Addr} {kvs : List (Key × V)}, Paired (fun p kv => SqT X.K H p [kV kv.1, kv.2]) ps kvs →
    ∃ (prs : List (Key × Value)) (vps : List (Value × Value)), KV kvs prs ∧ prs.length = ps.length ∧ vps.length = ps.length ∧ ∀ (j : Nat) (k v : Value), vps[j]? = some (k, v) → ∃ (b : Addr) (q : Key), ps[j]? = some b ∧ IsTup s.heap b #[k, v] ∧ prs[j]? = some (q, v) ∧ keyIs q k = true
  | _, _, .nil => ⟨[], [], .nil, rfl, rfl, fun j k v e => by simp at e⟩
  | _, _, .cons (a := p) (b := kv) h t => by
    obtain ⟨prs, vps, r, l1, l2, hp⟩ := pairsV_of I t
    obtain ⟨us, rv, ht, _⟩ := I.tuple h
    obtain ⟨u, y, ei, ru, ry⟩ := vals2 rv
    subst ei
    refine ⟨(kv.1, y) :: prs, (u, y) :: vps, .cons ⟨rfl, ry⟩ r, by simp [l1], by simp [l2], fun j k v e => ?_⟩
    cases j with
    | zero =>
      simp only [List.getElem?_cons_zero, Option.some.injEq, Prod.mk.injEq] at e
      obtain ⟨rfl, rfl⟩ := e
      exact ⟨p, kv.1, rfl, ht, rfl, kV_is (P := X.prog) (w := X.w) ru⟩
    | succ j =>
      obtain ⟨b, q, e1, e2, e3, e4⟩ := hp j k v (by simpa using e)
      exact ⟨b, q, by simpa using e1, e2, by simpa using e3, e4⟩
theorem call_dictT (hcalm : X.calm = true) : CallR X (.type "dict") (fun xs H Q => ∃ (a : Addr) (ps : List Addr) (kvs : List (Key × V)), xs = [.ref a] ∧ KT H a (ps.map V.ref) ∧ Paired (fun p kv => SqT X.K H p [kV kv.1, kv.2]) ps kvs ∧
    ∀ p, H p = none → Q (.ref p) (upd H p (.dK (mergeK [] kvs)))) := by
  rintro pins s σ H xs us Q I r ⟨a, ps, kvs, rfl, ⟨ob, hk, hd⟩, hp, q⟩
  obtain ⟨u, rfl, rx⟩ := vals1 r
  cases rx
  obtain ⟨e0, hz, us, rv, ⟨o2, g2, hc, n, hdat⟩⟩ := I.hok a _ hk
  have e0 : s.heap.get? a = some ob := e0
  rw [e0] at g2
  cases g2
  have ei := refs_at rv
  subst ei
  rw [List.length_map] at hz
  obtain ⟨prs, vps, rel, l1, l2, hpr⟩ := pairsV_of I hp
  have hI : PySem.PairItems s.heap (ps.map Value.ref).toArray (fun j => ps.getD j 0) vps := by
    refine ⟨by simp [l2], fun j k v e => ?_⟩
    obtain ⟨b, w, e1, e2, _, _⟩ := hpr j k v e
    have e3 : ps.getD j 0 = b := by rw [List.getD_eq_getElem?_getD, e1]; rfl
    refine ⟨by simp [e1], .inl ?_⟩
    show s.heap.IsTuple (ps.getD j 0) _
    rw [e3]
    exact e2
  refine PySem.call_dict_pairs (knd := mixKind X.prog X.w) (kvs := prs) (PySem.PairArg.tuple a (ps.map Value.ref).toArray (fun j => ps.getD j 0) vps) (I.ok.hd hcalm) ⟨⟨ob, n, e0, hc, hd, hdat⟩, hI⟩ ⟨by rw [l1, l2], fun j k v e => ?_⟩ (by rw [l2]; exact hz) fun h' tk hd' k => ?_
  · obtain ⟨b, q, _, _, e3, e4⟩ := hpr j k v e
    exact ⟨q, e3, e4⟩
  · have hm : (s.heap.objs.size == sysModules) = false := beq_eq_false_iff_ne.mpr (Nat.ne_of_gt I.big)
    have hlen : (mergeK [] kvs).length ≤ sizeLine := by
      have h1 := length_mergeK kvs []
      have h2 := rel.length
      simp only [List.length_nil, Nat.zero_add] at h1
      omega
    exact ⟨.ref s.heap.objs.size, upd H s.heap.objs.size (.dK (mergeK [] kvs)), I.laid (t' := tk) (fun b o e => k b o (by simp) e) (Nat.le_refl _) (show ObjOk X.prog X.w _ _ _ (.dK (mergeK [] kvs)) from ⟨hlen, hm, merged [] prs, KV.merge rel .nil, hd'⟩), rfl, q _ (I.hok.fresh (Nat.le_refl _))⟩
end
def dictTS (r : RV) (S : Store) : Res RV := match r with
  | .d (.tup ds) => (match ds.mapM pairKV with
    | some kvs => .ok (.d (.loc S.length)) (S ++ [.dic false (mergeD [] kvs)])
    | none => .bad)
  | _ => .bad
def eDictT (m : ME) : ME := fun es S => (m es S).bind fun r S1 => dictTS r S1
section
variable {G : GT} {W : WX} {X : Cx} {a : Expr} {ma : ME} {p pos : Pos}
theorem se_dictT (hc : X.calm = true) (hg : Gl X "dict") (hm : X.mg "dict" = none) (ha : SE G W X a ma) (he : starEach [a] X.env = (false, eval a X.env) :: starEach [] X.env := by rfl) (hpl : (backTo pos (starEach [] X.env)).any (·.1) = false := by rfl) : SE G W X (.Call (.Name "dict" p) [a] [] pos) (eDictT ma) := by
  refine ⟨ha.k, PE.of (pe_callTy (call_dictT hc) hg hm (by decide +kernel) (pa_cons ha.pe pa_nil he) (by decide) (by decide) he hpl) fun σ H Q h => ?_⟩
  obtain ⟨P, ρ, es, S, s, q, h⟩ := h
  refine rdE_then s q h fun r S1 v ρ1 H1 e1 s1 k1 rr h => ?_
  unfold dictTS at h
  split at h
  · rename_i ds
    split at h
    · rename_i kvs ek
      obtain ⟨b, us, rfl, e2, q2⟩ := rep_tup (show Rep G ρ1 H1 (.tup ds) v from rr)
      obtain ⟨ps, ws, rfl, pr, e3, e4⟩ := pairs_rep q2 ek
      refine ⟨b, ps, ws, rfl, e2, by rw [ha.k]; exact pr, fun x hx => ?_⟩
      have tk : TK ρ1 H1 (ρ1 ++ [x]) (upd H1 x (.dK (mergeK [] ws))) := TK.new hx
      have kr : KR G ρ1 H1 (mergeD [] kvs) (upK (mergeK [] ws)) := merge_rep e3 e4 ⟨rfl, .nil⟩
      refine h (.ref x) (ρ1 ++ [x]) _ (s1.pushR hx (dic_or2 (kr.mono tk) upd_same)) tk (.loc ?_)
      rw [← s1.len, List.getElem?_append_right (Nat.le_refl _), Nat.sub_self]; rfl
    · exact h.elim
  · exact h.elim
end
def kDictT (Q : RV → Store → Prop) (r : RV) (S : Store) : Prop := WR (dictTS r S) Q fun _ _ _ => False
theorem w_dictT {es : Env} {S : Store} {Q : RV → Store → Prop} {X : QX} {m : ME} : WR (eDictT m es S) Q X = WR (m es S) (kDictT Q) X := by
  unfold eDictT kDictT
  rw [WR_bind]
  congr 1
  funext r S1
  unfold dictTS
  split
  · split <;> rfl
  · rfl
theorem kDictT_t {S : Store} {Q : RV → Store → Prop} {ds : List D} {kvs : List (Key × D)} (h : ds.mapM pairKV = some kvs) : kDictT Q (.d (.tup ds)) S = Q (.d (.loc S.length)) (S ++ [.dic false (mergeD [] kvs)]) := by
  unfold kDictT dictTS
  simp only [h]
  rfl
def dninKF : F2 := fun S b a => match dicRd S a with
  | some (_, false, _) => dninF S b a
  | _ => none
section
variable {G : GT} {P : Hp} {ρ : List Addr} {H : Hp} {S : Store}
theorem dget_rdK {kvs : List (List Key × D)} {n : Nat} {a : Addr} {kd : D} {y : V} {ks : List Key} (s : VS G P ρ H S) (hn : ρ[n]? = some a) (hS : S[n]? = some (.dic false kvs) ∨ S[n]? = some (.ins false kvs)) (ry : Rep G ρ H kd y) (ek : keyOf false kd = some ks) :
    ∃ o : Option V, DGet H a y o ∧ (valD kvs ks).isSome = o.isSome := by
  have hh : ∃ us, KR G ρ H kvs us ∧ ∃ ks, us = upK ks ∧ Rd H a (.dK ks) := by
    rcases hS with hS | hS
    · obtain ⟨us, kr, h⟩ := or_dic (s.st n a _ hn hS)
      rcases h with ⟨h, _⟩ | ⟨_, ks, b, c⟩
      · cases h
      · exact ⟨us, kr, ks, b, .inl c⟩
    · obtain ⟨us, kr, o, h⟩ := or_ins (s.st n a _ hn hS)
      rcases h with ⟨h, _⟩ | ⟨_, ks, b, c⟩
      · cases h
      · exact ⟨us, kr, ks, b, .inr ⟨o, c⟩⟩
  obtain ⟨us, kr, vs, rfl, e⟩ := hh
  have kv := kr.val ks
  have ek : (key1 kd).map (fun k => [k]) = some ks := ek
  cases e1 : key1 kd with
  | none => rw [e1] at ek; cases ek
  | some k =>
    rw [e1] at ek
    cases ek
    rw [key1_rep ry e1]
    rw [upK_val] at kv
    refine ⟨valV vs k, .inl ⟨vs, k, e, rfl, rfl⟩, ?_⟩
    cases h1 : valD kvs [k] <;> cases h2 : valV vs k <;> rw [h1, h2] at kv <;> first | rfl | exact kv.elim
theorem so_dninK : SO2 G (fun y x H Q => ∃ a o, x = .ref a ∧ DGet H a y o ∧ Q (.bl (!o.isSome)) H) dninKF := fun P ρ H S r1 r2 x y Q ov s h1 h2 e k => by
  unfold dninKF at e
  split at e
  · rename_i n kvs hd
    obtain ⟨rfl, hS⟩ := dicRd_of hd
    unfold dninF dfind at e
    rw [hd] at e
    cases r1 with
    | l _ _ => cases e
    | d kd =>
      dsimp only at e
      cases ek : keyOf false kd with
      | none => rw [ek] at e; cases e
      | some ks =>
        rw [ek] at e
        cases e
        cases h2 with
        | loc hn =>
          obtain ⟨o, g, m⟩ := dget_rdK s hn hS (show Rep G ρ H kd x from h1) ek
          exact ⟨_, o, rfl, g, by rw [← m]; exact k _ H ⟨fun _ _ e => e, .bl _⟩⟩
  · cases e
end
section
variable {G : GT} {W : WX} {X : Cx} {o i : Expr} {mo mi : ME} {pos : Pos} {k : Nat}
theorem sb_dninK (hr : Room k X.A) (hi : SE G W X i mi) (ho : SE G W X o mo) (h1 : behindInMarks .NotIn o = false := by with_unfolding_all rfl) : SB G W X (.Compare i [.NotIn] [o] pos) (bOf (eOp2 dninKF mi mo)) :=
  ⟨ho.k, PT.of (pt_cmp (pc_dnotin (room_u1 hr) hi.pe ho.pe) h1) fun σ H Q h => by
    have := op2_core (Q := fun v H1 => ∃ b, v = V.bl b ∧ Q b H1) so_dninK (rd_bOf h fun b H1 q => ⟨b, rfl, q⟩)
    exact this⟩
end
theorem dninK_e {S : Store} {n : Nat} {kvs : List (List Key × D)} {kd : D} {k : Key} (h : S[n]? = some (.dic false kvs)) (hk : key1 kd = some k) : dninKF S (.d kd) (.d (.loc n)) = some (.d (.bl (!(valD kvs [k]).isSome))) := by
  unfold dninKF
  rw [dicRd_e h]
  dsimp only
  refine dnin_e h ?_
  show (key1 kd).map _ = _
  rw [hk]
  rfl
end DM

namespace SrtO
open PySem PyProof.Rows Srt
section
variable {prog : Program} {w : World} {A : Around} {E : Value → Shared → Prop} {s : Shared}
def IsPV (h : Heap) (v : Value) (x : Int) : Prop := ∃ (a : Addr) (o : Obj) (t : Tok) (y : Value) (n : Nat), v = .ref a ∧ h.get? a = some o ∧ o.cls = .type "tuple" ∧ o.data = .seq #[.int x t, y] n
theorem IsPV.keeps {h h' : Heap} {v : Value} {x : Int} (p : IsPV h v x) (k : ∀ b o, h.get? b = some o → o.cls = .type "tuple" → h'.get? b = some o) : IsPV h' v x :=
  let ⟨a, o, t, y, n, e, ho, hc, hd⟩ := p
  ⟨a, o, t, y, n, e, k _ _ ho hc, hc, hd⟩
theorem pv_firsts {h : Heap} : ∀ {vs : List Value}, (∀ v ∈ vs, ∃ x, IsPV h v x) → ∃ fs : List Value, PySem.W.KatTups h vs fs ∧ fs.length = vs.length ∧ ∀ f ∈ fs, ∃ x t, f = Value.int x t
  | [], _ => ⟨[], PySem.W.KatTups.nil, rfl, fun _ hm => nomatch hm⟩
  | v :: vs, hp => by
    obtain ⟨fs, k1, k2, k3⟩ := pv_firsts (vs := vs) fun u hm => hp u (List.mem_cons_of_mem _ hm)
    obtain ⟨x, a, o, t, y, n, rfl, ho, hc, hd⟩ := hp v List.mem_cons_self
    exact ⟨.int x t :: fs, PySem.W.KatTups.cons ho hc hd rfl k1, by simp [k2], fun f hm => (List.mem_cons.mp hm).elim (fun e => ⟨x, t, e⟩) (k3 f)⟩
theorem pv_cmp {vs : List Value} {k : Value → Int} (hp : ∀ v ∈ vs, IsPV s.heap v (k v)) (inj : ∀ v ∈ vs, ∀ u ∈ vs, k v = k u → v = u) : Cmp prog w A s (tuples' true) (fun p => p.1 ∈ vs) (lt2 fun v u => decide (k v < k u)) := by
  intro p q hm hm'
  have h1 := hp _ hm
  have h2 := hp _ hm'
  have ij := inj _ hm _ hm'
  show wpAny (model prog w) A (keyLt' (tuples' true) p.1 q.1) (fun r s' => s' = s ∧ r = decide (k p.1 < k q.1)) (fun _ _ => False) s
  generalize k p.1 = x at h1 ij ⊢
  generalize k q.1 = x' at h2 ij ⊢
  obtain ⟨a, o, t, y, n, e, ho, hc, hd⟩ := h1
  obtain ⟨a', o', t', y', n', e', ho', hc', hd'⟩ := h2
  rw [e, e'] at ij ⊢
  refine PySem.W.kat_lt ho hd ho' hd' ?_
  show PySem.W.KatLex prog w A true (decide (2 < 2)) _ [(.int x t, .int x' t'), (y, y')] 0 s
  refine PySem.W.kat_cons (SeqAt.EqAt.int_int x t x' t' prog w _ _ (PySem.W.kat_go (fun e1 => ?_) (fun e1 => ?_)))
  · have ex : x = x' := eq_of_beq e1
    cases ij ex
    rw [ho] at ho'
    cases ho'
    rw [hd] at hd'
    cases hd'
    have e3 : decide (x < x) = false := decide_eq_false (Int.lt_irrefl x)
    refine PySem.W.kat_yes (PySem.W.kat_cons (SeqAt.EqAt.same y prog w _ _ (PySem.W.kat_go (fun _ => PySem.W.kat_yes (PySem.W.kat_nil ⟨rfl, e3.symm⟩)) (fun e2 => nomatch e2))))
  · exact PySem.W.kat_no (oneLt_int ⟨rfl, rfl⟩)
theorem pv_sortable {a : Addr} {vs : List Value} {k : Value → Int} (h0 : 0 < vs.length) (hp : ∀ v ∈ vs, IsPV s.heap v (k v)) (inj : ∀ v ∈ vs, ∀ u ∈ vs, k v = k u → v = u) (ha : ∀ o, s.heap.get? a = some o → o.cls ≠ .type "tuple") : SortableO prog w A s a vs fun v u => decide (k v < k u) := fun h' keep => by
  have hp' : ∀ v ∈ vs, IsPV h' v (k v) := fun v hm => (hp v hm).keeps fun b o e c => keep b o (fun z => ha o (z ▸ e) c) e
  obtain ⟨fs, k1, k2, k3⟩ := pv_firsts fun v hm => ⟨_, hp' v hm⟩
  refine ⟨tuples' true, fun Q E hq => PySem.W.kat_kind (T := .type "int") k1 (by omega) (fun f hm => ?_) (by rfl) ?_, pv_cmp hp' inj⟩
  · obtain ⟨x, t, rfl⟩ := k3 f hm
    exact PySem.W.Looks.now
  · have e : (Value.type "int" != Value.type "tuple") = true := by first | decide +kernel | rfl | decide
    rw [e]
    exact hq
theorem swo_key (k : Value → Int) : Swo fun v u => decide (k v < k u) :=
  ⟨fun x y h => decide_eq_false (by have := of_decide_eq_true h; omega), fun x y z h1 h2 => decide_eq_false (by have := of_decide_eq_false h1; have := of_decide_eq_false h2; omega)⟩
end
end SrtO
namespace L2
open PySem PySem.Spec PyProof.Rows
def rSortTP (K : PySem.W.Frag) : List V → Hp → VK → Prop := fun vs H Q => ∃ (a : Addr) (ps : List (Addr × Int)), vs = [V.ref a] ∧ SqT K H a (ps.map fun p => V.ref p.1) ∧ (∀ p ∈ ps, ∃ w, SqT K H p.1 [.int p.2, w]) ∧ (ps.map (·.2)).Nodup ∧
  ∀ (qs : List (Addr × Int)) (d : Addr), qs.Perm ps → qs.Pairwise (fun x y => x.2 < y.2) → H d = none → Q (.ref d) (upd H d (.lst (qs.map fun p => V.ref p.1)))
theorem vals_refsP : ∀ qs : List (Addr × Int), Vals (qs.map fun p => V.ref p.1) (qs.map fun p => Value.ref p.1)
  | [] => .nil
  | _ :: qs => .cons rfl (vals_refsP qs)
theorem cr_sortTP {X : Cx} : CallR X (.builtin "sorted") (rSortTP X.K) := by
  rintro pins s σ H vs us Q I r ⟨a, ps, rfl, hs, hp, nd, q⟩
  obtain ⟨its, rv, hl, hz⟩ := I.tuple hs
  have e0 : (ps.map fun p => V.ref p.1) = (ps.map (·.1)).map V.ref := by rw [List.map_map]; rfl
  rw [e0] at rv
  have ei := refs_at rv
  rw [List.map_map] at ei
  subst ei
  rw [Vals.ref1 r]
  rw [List.length_map] at hz
  let k : Value → Int := fun v => open Classical in if h : ∃ n : Int, ∃ (b : Addr) (w : V), v = .ref b ∧ SqT X.K H b [.int n, w] then Classical.choose h else 0
  have kk : ∀ p ∈ ps, k (.ref p.1) = p.2 := fun p hm => by
    obtain ⟨w, sq⟩ := hp p hm
    have hE : ∃ n : Int, ∃ (b : Addr) (w : V), Value.ref p.1 = .ref b ∧ SqT X.K H b [.int n, w] := ⟨p.2, p.1, w, rfl, sq⟩
    have ek : k (.ref p.1) = Classical.choose hE := dif_pos hE
    rw [ek]
    obtain ⟨b, w', e1, e2⟩ := Classical.choose_spec hE
    cases e1
    have := I.tuple_inj e2 sq
    injection this with t1 t2
    injection t1
  have mem : ∀ v, v ∈ ps.map (Value.ref ∘ fun x => x.1) → ∃ p ∈ ps, v = .ref p.1 := fun v hm => by
    obtain ⟨p, h1, h2⟩ := List.mem_map.mp hm
    exact ⟨p, h1, h2.symm⟩
  have hpv : ∀ v ∈ ps.map (Value.ref ∘ fun x => x.1), SrtO.IsPV s.heap v (k v) := fun v hm => by
    obtain ⟨p, h1, rfl⟩ := mem v hm
    obtain ⟨w, sq⟩ := hp p h1
    obtain ⟨us, rv', ⟨o, ho, hc, n, hd⟩, _⟩ := I.tuple sq
    obtain ⟨u1, u2, e, r1, r2⟩ := vals2 rv'
    subst e
    obtain ⟨t, rfl⟩ := r1
    rw [kk p h1]
    exact ⟨p.1, o, t, u2, n, rfl, ho, hc, hd⟩
  have inj : ∀ v ∈ ps.map (Value.ref ∘ fun x => x.1), ∀ u ∈ ps.map (Value.ref ∘ fun x => x.1), k v = k u → v = u := fun v hv u hu e => by
    obtain ⟨p, h1, rfl⟩ := mem v hv
    obtain ⟨p', h2, rfl⟩ := mem u hu
    rw [kk p h1, kk p' h2] at e
    have : p = p' := by
      obtain ⟨i, hi, ei⟩ := List.mem_iff_getElem.mp h1
      obtain ⟨j, hj, ej⟩ := List.mem_iff_getElem.mp h2
      have hij : i = j := (List.getElem_inj (h₀ := by simpa using hi) (h₁ := by simpa using hj) nd).mp (by simp [ei, ej, e])
      subst hij
      exact ei.symm.trans ej
    rw [this]
  generalize k = k at kk hpv inj
  refine SrtO.sorted_ordT (SrtO.swo_key k) hl (by rw [List.length_map]; exact hz) (fun h2 h₁ a' ha keep => SrtO.pv_sortable (s := { s with heap := h₁ }) (by omega) (fun v hm => (hpv v hm).keeps fun b o e _ => (keep b o e).2) inj fun o e => ?_) fun out h1 h2 => ?_
  · have e' : some o = _ := e.symm.trans ha
    cases e'
    intro c
    exact absurd (Value.type.inj c) (by decide)
  obtain ⟨qs, hqs⟩ : ∃ qs : List (Addr × Int), qs = out.map fun v => ((match v with | .ref b => b | _ => 0), k v) := ⟨_, rfl⟩
  have pm := h2.perm
  have e1 : qs.Perm ps := by
    have z := pm.map (fun v => ((match v with | .ref b => b | _ => 0 : Addr), k v))
    rw [← hqs, List.map_map] at z
    have e : ps.map ((fun v => ((match v with | .ref b => b | _ => 0 : Addr), k v)) ∘ (Value.ref ∘ fun x => x.1)) = ps := by
      refine (List.map_congr_left fun p hm => ?_).trans (List.map_id ps)
      show (p.1, k (.ref p.1)) = p
      rw [kk p hm]
    rw [e] at z
    exact z
  have e2 : out = qs.map fun p => Value.ref p.1 := by
    rw [hqs, List.map_map]
    refine ((List.map_congr_left fun v hm => ?_).trans (List.map_id out)).symm
    obtain ⟨p, _, rfl⟩ := mem v (pm.mem_iff.mp hm)
    rfl
  have e3 : qs.Pairwise (fun x y => x.2 < y.2) := by
    have nq : (qs.map (·.2)).Nodup := ((e1.map (·.2)).nodup_iff).mpr nd
    have n1 : qs.Pairwise (fun x y => x.2 ≠ y.2) := List.pairwise_map.mp nq
    have s1 : qs.Pairwise (fun x y => x.2 ≤ y.2) := by
      rw [hqs, List.pairwise_map]
      exact h1.imp fun {x y} h => Int.not_lt.mp (of_decide_eq_false (p := k y < k x) h)
    exact (s1.and n1).imp fun {x y} h => by omega
  have vq : Vals (qs.map fun p => V.ref p.1) out := by
    rw [e2]
    exact vals_refsP qs
  have lq : (qs.map fun p => V.ref p.1).length ≤ sizeLine := by rw [List.length_map, e1.length_eq]; exact hz
  obtain ⟨ep, he'⟩ := PyProof.Rows.sortedAll_at s.heap (ps.map (Value.ref ∘ fun x => x.1)) out.toArray
  exact ⟨.ref _, upd H (s.heap.objs.size + 1) (.lst (qs.map fun p => V.ref p.1)), I.laid (t' := s.toks) (fun _ _ => PyProof.Rows.sortedAll_old) (Nat.le_succ _) ⟨lq, out, ep, vq, he'⟩, rfl, q _ _ e1 e3 (I.hok.fresh (Nat.le_succ _))⟩
end L2
namespace DM
open PySem PySem.Spec L2
theorem uniqK {A : Type} {l1 l2 : List (A × Int)} (h : l1.Perm l2) (h1 : l1.Pairwise (fun x y => x.2 < y.2)) (h2 : l2.Pairwise (fun x y => x.2 < y.2)) : l1 = l2 :=
  List.Perm.eq_of_pairwise (le := fun x y => x.2 < y.2) (fun a b _ _ x y => absurd x (by omega)) h1 h2 h
def sortK {A : Type} (l : List (A × Int)) : List (A × Int) := l.mergeSort fun x y => decide (x.2 ≤ y.2)
theorem sortK_perm {A : Type} (l : List (A × Int)) : (sortK l).Perm l := List.mergeSort_perm _ _
theorem sortK_lt {A : Type} {l : List (A × Int)} (nd : (l.map (·.2)).Nodup) : (sortK l).Pairwise (fun x y => x.2 < y.2) := by
  have h := List.pairwise_mergeSort (le := fun x y : A × Int => decide (x.2 ≤ y.2)) (fun a b c h1 h2 => by
    have := of_decide_eq_true h1
    have := of_decide_eq_true h2
    exact decide_eq_true (by omega)) (fun a b => by
    rcases Int.le_total a.2 b.2 with z | z
    · rw [decide_eq_true z]; rfl
    · rw [decide_eq_true z, Bool.or_true]) l
  have nq : ((sortK l).map (·.2)).Nodup := (((sortK_perm l).map (·.2)).nodup_iff).mpr nd
  exact ((show (sortK l).Pairwise _ from h).and (List.pairwise_map.mp nq)).imp fun {x y} h => by
    have := of_decide_eq_true h.1
    have := h.2
    omega
def firstI : D → Option Int
  | .tup [.int n, _] => some n
  | _ => none
def sortFI (ds : List D) (ns : List Int) : List D := (sortK (ds.zip ns)).map (·.1)
def sortTPS (r : RV) (S : Store) : Res RV := match r with
  | .d (.tup ds) => (match ds.mapM firstI with
    | some ns => if ns.Nodup then .ok (.l true (sortFI ds ns)) S else .bad
    | none => .bad)
  | _ => .bad
def eSortTP (m : ME) : ME := fun es S => (m es S).bind fun r S1 => sortTPS r S1
section
variable {G : GT} {ρ : List Addr} {H : Hp}
theorem firsts_rep : ∀ {ds : List D} {vs : List V} {ns : List Int}, Reps G ρ H ds vs → ds.mapM firstI = some ns → ∃ L : List ((D × Addr) × Int), ds = L.map (·.1.1) ∧ vs = L.map (fun x => V.ref x.1.2) ∧ ns = L.map (·.2) ∧ ∀ x ∈ L, Rep G ρ H x.1.1 (.ref x.1.2) ∧ ∃ w, KT H x.1.2 [.int x.2, w]
  | [], _, ns, r, e => by
    cases r
    have : ns = [] := by simpa using e.symm
    exact ⟨[], rfl, rfl, this, fun _ h => nomatch h⟩
  | d :: ds, _, ns, .cons h t, e => by
    rw [List.mapM_cons] at e
    cases z : firstI d with
    | none => rw [z] at e; cases e
    | some n =>
      rw [z] at e
      cases z2 : ds.mapM firstI with
      | none => rw [z2] at e; cases e
      | some ms =>
        rw [z2] at e
        have e : n :: ms = ns := by simpa using e
        subst e
        obtain ⟨L, e1, e2, e3, e4⟩ := firsts_rep t z2
        subst e1 e2 e3
        unfold firstI at z
        split at z
        · rename_i m d2
          cases z
          obtain ⟨a, us, rfl, k1, q1⟩ := rep_tup h
          cases q1 with
          | cons h1 t1 =>
            cases t1 with
            | cons h2 t2 =>
              cases t2
              cases h1
              exact ⟨((.tup [.int n, d2], a), n) :: L, rfl, rfl, rfl, fun x hx => (List.mem_cons.mp hx).elim (fun z => by subst z; exact ⟨h, _, k1⟩) (e4 x)⟩
        · cases z
theorem reps_ofL : ∀ {L : List ((D × Addr) × Int)}, (∀ x ∈ L, Rep G ρ H x.1.1 (.ref x.1.2)) → Reps G ρ H (L.map (·.1.1)) (L.map fun x => V.ref x.1.2)
  | [], _ => .nil
  | x :: L, h => .cons (h x List.mem_cons_self) (reps_ofL fun y hy => h y (List.mem_cons_of_mem _ hy))
end
theorem zip_maps {A B C : Type} (f : A → B) (g : A → C) : ∀ L : List A, (L.map f).zip (L.map g) = L.map fun x => (f x, g x)
  | [] => rfl
  | x :: L => by rw [List.map_cons, List.map_cons, List.zip_cons_cons, zip_maps f g L]; rfl
section
variable {G : GT} {W : WX} {X : Cx} {a : Expr} {ma : ME} {p pos : Pos} {k : Nat}
theorem se_sortTP (hr : Room k X.A) (hc : X.calm = true) (hg : Gl X "sorted") (hm : X.mg "sorted" = none) (ha : SE G W X a ma) (he : starEach [a] X.env = (false, eval a X.env) :: starEach [] X.env := by rfl) (hpl : (backTo pos (starEach [] X.env)).any (·.1) = false := by rfl) : SE G W X (.Call (.Name "sorted" p) [a] [] pos) (eSortTP ma) := by
  refine ⟨ha.k, PE.of (pe_callB cr_sortTP hg hm (by decide +kernel) (pa_cons ha.pe pa_nil he) (by decide) (by decide) he hpl) fun σ H Q h => ?_⟩
  obtain ⟨P, ρ, es, S, s, q, h⟩ := h
  refine rdE_then s q h fun r S1 v ρ1 H1 e1 s1 k1 rr h => ?_
  unfold sortTPS at h
  split at h
  · rename_i ds
    split at h
    · rename_i ns ek
      split at h
      · rename_i nd
        obtain ⟨b, us, rfl, e2, q2⟩ := rep_tup (show Rep G ρ1 H1 (.tup ds) v from rr)
        obtain ⟨L, rfl, rfl, rfl, hL⟩ := firsts_rep q2 ek
        have sq := e2.sq (K := X.K)
        have ep : (L.map fun x => V.ref x.1.2) = (L.map fun x => (x.1.2, x.2)).map fun p => V.ref p.1 := by rw [List.map_map]; rfl
        rw [ep] at sq
        have en : (L.map fun x => (x.1.2, x.2)).map (·.2) = L.map (·.2) := by rw [List.map_map]; rfl
        refine ⟨b, L.map fun x => (x.1.2, x.2), rfl, sq, fun p hp => ?_, by rw [en]; exact nd, fun qs d pm pw hd => ?_⟩
        · obtain ⟨x, hx, rfl⟩ := List.mem_map.mp hp
          obtain ⟨_, w, kt⟩ := hL x hx
          exact ⟨w, kt.sq⟩
        · have pL := sortK_perm L
          have wL := sortK_lt nd
          have eq1 : qs = (sortK L).map fun x => (x.1.2, x.2) := uniqK (pm.trans (pL.map _).symm) pw (List.pairwise_map.mpr wL)
          have eq2 : sortFI (L.map (·.1.1)) (L.map (·.2)) = (sortK L).map (·.1.1) := by
            unfold sortFI
            rw [zip_maps]
            have e5 : (L.map fun x => (x.1.1, x.2)).map (·.2) = L.map (·.2) := by rw [List.map_map]; rfl
            have e4 : sortK (L.map fun x => (x.1.1, x.2)) = (sortK L).map fun x => (x.1.1, x.2) := uniqK ((sortK_perm _).trans (pL.map _).symm) (sortK_lt (by rw [e5]; exact nd)) (List.pairwise_map.mpr wL)
            rw [e4, List.map_map]
            rfl
          have eq3 : (qs.map fun p => V.ref p.1) = (sortK L).map fun x => V.ref x.1.2 := by rw [eq1, List.map_map]; rfl
          have rs : Reps G ρ1 H1 ((sortK L).map (·.1.1)) ((sortK L).map fun x => V.ref x.1.2) := reps_ofL fun x hx => (hL x (pL.mem_iff.mp hx)).1
          rw [eq3]
          have g : ∀ c u, H1 c = some u → upd H1 d (.lst ((sortK L).map fun x => V.ref x.1.2)) c = some u := fun c u z => by rw [upd_ne (ne_of_none z hd)]; exact z
          rw [eq2] at h
          exact h (.ref d) ρ1 _ (s1.grow g) (TK.same g) ⟨d, _, rfl, upd_same, rs.mono (TK.same g), s1.free hd⟩
      · exact h.elim
    · exact h.elim
  · exact h.elim
end
def kSortTP (Q : RV → Store → Prop) (r : RV) (S : Store) : Prop := WR (sortTPS r S) Q fun _ _ _ => False
theorem w_sortTP {es : Env} {S : Store} {Q : RV → Store → Prop} {X : QX} {m : ME} : WR (eSortTP m es S) Q X = WR (m es S) (kSortTP Q) X := by
  unfold eSortTP kSortTP
  rw [WR_bind]
  congr 1
  funext r S1
  unfold sortTPS
  split
  · split
    · split <;> rfl
    · rfl
  · rfl
theorem kSortTP_t {S : Store} {Q : RV → Store → Prop} {ds : List D} {ns : List Int} (h : ds.mapM firstI = some ns) (nd : ns.Nodup) : kSortTP Q (.d (.tup ds)) S = Q (.l true (sortFI ds ns)) S := by
  unfold kSortTP sortTPS
  simp only [h, if_pos nd]
  rfl
theorem sortFI_perm {ds : List D} {ns : List Int} (h : ds.length = ns.length) : (sortFI ds ns).Perm ds := by
  have := (sortK_perm (ds.zip ns)).map (·.1)
  rw [List.map_fst_zip (by omega)] at this
  exact this
end DM

namespace LM
open PySem PySem.Spec L2 DM
noncomputable def mb_is_whole : MS := (sRet (eAnd (eOpN isiF [(eVar 0), (eC (.ty "int"))]) (eNot (eOpN isiF [(eVar 0), (eC (.ty "bool"))]))))
noncomputable def m_is_whole : MF := mFun 1 1 (mb_is_whole)
noncomputable def mb_common : MS := (sSeq (sWhile (bOf (eOp2 gtF (eVar 1) (eC (.int 0)))) (sPar 0 1 [(eVar 1), (eOp2 modF (eVar 0) (eVar 1))]) 10000000000000000000000000000000000000000)
    (sRetV 0))
noncomputable def m_common : MF := mFun 2 2 (mb_common)
noncomputable def mb_part_of : MS := (sSeq (sSet 2 (eCall m_common [(eVar 0), (eVar 1)]))
    (sRet (eTup [(eOp2 fdivF (eVar 0) (eVar 2)), (eOp2 fdivF (eVar 1) (eVar 2))])))
noncomputable def m_part_of : MF := mFun 2 3 (mb_part_of)
noncomputable def mb_things_of : MS := (sRet (eOpN lenF [(eOp2 ixF (eOp2 ixF (eVar 0) (eC (.int 1))) (eC (.int 0)))]))
noncomputable def m_things_of : MF := mFun 1 1 (mb_things_of)
noncomputable def mb_need_things : MS := (sFrz 1 (sFor (miSeq (qVar 1)) (tgName 2) (sIf (bOr (bNot (bOf (eCall m_is_whole [(eVar 2)]))) (bNot (bOf (eChain leF ltF (eC (.int 0)) (eVar 2) (eCall m_things_of [(eVar 0)]))))) (sRaise 4) sNop)))
noncomputable def m_need_things : MF := mFun 2 3 (mb_need_things)
noncomputable def mb_meets : MS := (sSeq (sDrop (eCall m_need_things [(eVar 0), (eTup [(eVar 1), (eVar 2)])]))
    (sSeq (sIf (bOf (eOp2 eqF (eVar 1) (eVar 2))) (sRaise 4) sNop)
    (sRet (eOpN lenF [(eComp (miSeq (qC (eOp2 ixF (eVar 0) (eC (.int 1))))) (tgName 3) (bOf (eOp2 eqF (eOp2 ixF (eVar 3) (eVar 1)) (eOp2 ixF (eVar 3) (eVar 2)))) (eVar 3) [3])]))))
noncomputable def m_meets : MF := mFun 3 4 (mb_meets)
noncomputable def mb_choose : MS := (sSeq (sSet 2 (eC (.int 1)))
    (sSeq (sFor (miRng1 (eVar 1)) (tgName 3) (sSet 2 (eOp2 fdivF (eOp2 mulF (eVar 2) (eOp2 subF (eVar 0) (eVar 3))) (eOp2 addF (eVar 3) (eC (.int 1))))))
    (sRetV 2)))
noncomputable def m_choose : MF := mFun 2 4 (mb_choose)
noncomputable def mb_need_pairs : MS := (sIf (bOf (eOp2 ltF (eCall m_things_of [(eVar 0)]) (eC (.int 2)))) (sRaise 1) sNop)
noncomputable def m_need_pairs : MF := mFun 1 1 (mb_need_pairs)
noncomputable def mb_pairs_of : MS := (sSeq (sSet 1 (eLst []))
    (sSeq (sFor (miRng1 (eVar 0)) (tgName 2) (sExt 1 (eComp (miRng2 (eOp2 addF (eVar 2) (eC (.int 1))) (eVar 0)) (tgName 3) bYes (eTup [(eVar 2), (eVar 3)]) [3])))
    (sRetV 1)))
noncomputable def m_pairs_of : MF := mFun 1 4 (mb_pairs_of)
noncomputable def mb_worst_pairs : MS := (sSeq (sDrop (eCall m_need_pairs [(eVar 0)]))
    (sSeq (sSet 1 (eComp (miSeq (qC (eCall m_pairs_of [(eCall m_things_of [(eVar 0)])]))) (tgName 3) bYes (eTup [(eCall m_meets [(eVar 0), (eOp2 ixF (eVar 3) (eC (.int 0))), (eOp2 ixF (eVar 3) (eC (.int 1)))]), (eVar 3)]) [3]))
    (sSeq (sSet 2 (eOpN maxF [(eComp (miSeq (qC (eVar 1))) (tgTup 2 (tgCons (tgName 4) (tgCons (tgName 3) tgNil))) bYes (eVar 4) [4, 3])]))
    (sRet (eTup [(eCall m_part_of [(eVar 2), (eOpN lenF [(eOp2 ixF (eVar 0) (eC (.int 1)))])]), (eComp (miSeq (qC (eVar 1))) (tgTup 2 (tgCons (tgName 4) (tgCons (tgName 3) tgNil))) (bOf (eOp2 eqF (eVar 4) (eVar 2))) (eVar 3) [4, 3])])))))
noncomputable def m_worst_pairs : MF := mFun 1 5 (mb_worst_pairs)
noncomputable def mb_is_prime : MS := (sSeq (sIf (bOf (eOp2 ltF (eVar 0) (eC (.int 2)))) (sRet (eC (.bl false))) sNop)
    (sSeq (sSet 1 (eC (.int 2)))
    (sSeq (sWhile (bOf (eOp2 leF (eOp2 mulF (eVar 1) (eVar 1)) (eVar 0))) (sSeq (sIf (bOf (eOp2 eqF (eOp2 modF (eVar 0) (eVar 1)) (eC (.int 0)))) (sRet (eC (.bl false))) sNop)
    (sSet 1 (eOp2 addF (eVar 1) (eC (.int 1))))) 10000000000000000000000000000000000000000)
    (sRet (eC (.bl true))))))
noncomputable def m_is_prime : MF := mFun 1 2 (mb_is_prime)
noncomputable def mb_need_prime : MS := (sIf (bNot (bOf (eCall m_is_prime [(eVar 0)]))) (sRaise 3) sNop)
noncomputable def m_need_prime : MF := mFun 1 1 (mb_need_prime)
noncomputable def mb_need_room : MS := (sIf (bOf (eOp2 gtF (eVar 0) (eC (.int 600)))) (sRaise 2) sNop)
noncomputable def m_need_room : MF := mFun 1 1 (mb_need_room)
noncomputable def mb_by_rests : MS := (sSeq (sDrop (eCall m_need_prime [(eVar 0)]))
    (sSeq (sDrop (eCall m_need_room [(eOp2 mulF (eVar 0) (eOp2 subF (eVar 0) (eC (.int 1))))]))
    (sSeq (sSet 3 (eLst []))
    (sSeq (sFor (miRng2 (eC (.int 1)) (eVar 0)) (tgName 4) (sFor (miRng1 (eVar 0)) (tgName 5) (sApp 3 (eOpN tupF [(eComp (miRng1 (eVar 2)) (tgName 6) bYes (eOp2 modF (eOp2 modF (eOp2 addF (eOp2 mulF (eVar 4) (eVar 6)) (eVar 5)) (eVar 0)) (eVar 1)) [6])]))))
    (sRet (eTup [(eVar 1), (eOpN tupF [(eVar 3)])]))))))
noncomputable def m_by_rests : MF := mFun 3 7 (mb_by_rests)
noncomputable def mb_rows_of_numbers : MS := (sSeq (sSet 2 (eLst [(eTup [])]))
    (sSeq (sFor (miRng1 (eVar 0)) (tgName 3) (sSeq (sSetS 4 (eLst []))
    (sSeq (sFrz 2 (sFor (miSeq (qVar 2)) (tgName 5) (sExt 4 (eComp (miRng1 (eVar 1)) (tgName 6) bYes (eOp2 addF (eVar 5) (eTup [(eVar 6)])) [6]))))
    (sSet 2 (eVar 4)))))
    (sRetV 2)))
noncomputable def m_rows_of_numbers : MF := mFun 2 7 (mb_rows_of_numbers)
noncomputable def mb_box_of_one : MS := (sSeq (sSet 2 (eC (.int 0)))
    (sSeq (sFrz 0 (sFor (miRev (qVar 0)) (tgName 3) (sSet 2 (eOp2 addF (eOp2 mulF (eC (.int 2)) (eVar 2)) (eOpN intF [(eOp2 gtF (eOp2 andF (eVar 3) (eVar 1)) (eC (.int 0)))])))))
    (sRetV 2)))
noncomputable def m_box_of_one : MF := mFun 2 4 (mb_box_of_one)
noncomputable def mb_row_by : MS := (sSeq (sSet 2 (eLst [(eC (.int 0))]))
    (sSeq (sFor (miRng2 (eC (.int 1)) (eVar 1)) (tgName 3) (sSeq (sSet 4 (eOp2 andF (eVar 3) (eOp2 xorF (eVar 3) (eOp2 subF (eVar 3) (eC (.int 1))))))
    (sIf (bOf (eOp2 ltF (eVar 4) (eVar 3))) (sApp 2 (eOp2 xorF (eOp2 ixF (eVar 2) (eOp2 subF (eVar 3) (eVar 4))) (eOp2 ixF (eVar 2) (eVar 4)))) (sApp 2 (eCall m_box_of_one [(eVar 0), (eVar 3)])))))
    (sRet (eOpN tupF [(eVar 2)]))))
noncomputable def m_row_by : MF := mFun 2 5 (mb_row_by)
noncomputable def mb_by_bits : MS := (sSeq (sSet 2 (eOp2 shlF (eC (.int 1)) (eVar 0)))
    (sSeq (sDrop (eCall m_need_room [(eOp2 shlF (eC (.int 1)) (eOp2 mulF (eVar 0) (eVar 1)))]))
    (sRet (eTup [(eOp2 shlF (eC (.int 1)) (eVar 1)), (eOpN tupF [(eComp (miSeq (qC (eCall m_rows_of_numbers [(eVar 1), (eVar 2)]))) (tgName 3) bYes (eCall m_row_by [(eVar 3), (eVar 2)]) [3])])]))))
noncomputable def m_by_bits : MF := mFun 2 4 (mb_by_bits)
noncomputable def mb_by_slides : MS := (sSeq (sSet 2 (eOp2 shlF (eC (.int 1)) (eVar 0)))
    (sSeq (sDrop (eCall m_need_room [(eOp2 shlF (eC (.int 1)) (eOp2 subF (eOp2 addF (eVar 0) (eVar 1)) (eC (.int 1))))]))
    (sSeq (sSet 3 (eLst []))
    (sSeq (sFor (miRng1 (eOp2 shlF (eC (.int 1)) (eOp2 subF (eOp2 addF (eVar 0) (eVar 1)) (eC (.int 1))))) (tgName 4) (sApp 3 (eCall m_row_by [(eComp (miRng1 (eVar 1)) (tgName 5) bYes (eOp2 modF (eOp2 shrF (eVar 4) (eVar 5)) (eVar 2)) [5]), (eVar 2)])))
    (sRet (eTup [(eOp2 shlF (eC (.int 1)) (eVar 1)), (eOpN tupF [(eVar 3)])]))))))
noncomputable def m_by_slides : MF := mFun 2 6 (mb_by_slides)
noncomputable def mb_rising_tuples : MS := (sSeq (sSet 2 (eLst [(eTup [])]))
    (sSeq (sFor (miRng1 (eVar 1)) (tgName 3) (sSeq (sSetS 4 (eLst []))
    (sSeq (sFrz 2 (sFor (miSeq (qVar 2)) (tgName 5) (sSeq (sSet 6 (eCut (eIf (bOf (eOp2 gtF (eOpN lenF [(eVar 5)]) (eC (.int 0)))) (eOp2 addF (eOp2 ixF (eVar 5) (eOp1 negF (eC (.int 1)))) (eC (.int 1))) (eC (.int 0)))))
    (sExt 4 (eComp (miRng2 (eVar 6) (eVar 0)) (tgName 7) bYes (eOp2 addF (eVar 5) (eTup [(eVar 7)])) [7])))))
    (sSet 2 (eVar 4)))))
    (sRetV 2)))
noncomputable def m_rising_tuples : MF := mFun 2 8 (mb_rising_tuples)
noncomputable def mb_times_itself : MS := (sSeq (sSet 2 (eC (.int 1)))
    (sSeq (sFor (miRng1 (eVar 1)) (tgName 3) (sSet 2 (eOp2 mulF (eVar 2) (eVar 0))))
    (sRetV 2)))
noncomputable def m_times_itself : MF := mFun 2 4 (mb_times_itself)
noncomputable def mb_need_tuples : MS := (sSeq (sIf (bOf (eOp2 ltF (eVar 0) (eVar 1))) (sRaise 1) sNop)
    (sIf (bOf (eOp2 gtF (eCall m_choose [(eVar 0), (eVar 1)]) (eC (.int 1000)))) (sRaise 2) sNop))
noncomputable def m_need_tuples : MF := mFun 2 2 (mb_need_tuples)
noncomputable def mb_by_planes : MS := (sSeq (sDrop (eCall m_need_prime [(eVar 0)]))
    (sSeq (sIf (bOf (eOp2 gtF (eVar 0) (eC (.int 7)))) (sRaise 2) sNop)
    (sSeq (sSet 1 (eLst []))
    (sSeq (sFor (miRng1 (eVar 0)) (tgName 2) (sApp 1 (eOpN tupF [(eComp (miRng1 (eOp2 mulF (eVar 0) (eVar 0))) (tgName 3) bYes (eOp2 modF (eOp2 subF (eVar 3) (eOp2 mulF (eVar 2) (eOp2 fdivF (eVar 3) (eVar 0)))) (eVar 0)) [3])])))
    (sSeq (sApp 1 (eOpN tupF [(eComp (miRng1 (eOp2 mulF (eVar 0) (eVar 0))) (tgName 3) bYes (eOp2 fdivF (eVar 3) (eVar 0)) [3])]))
    (sRet (eTup [(eVar 0), (eOpN tupF [(eVar 1)])])))))))
noncomputable def m_by_planes : MF := mFun 1 4 (mb_by_planes)
noncomputable def mb_parted_by : MS := (sSeq (sDrop (eCall m_need_pairs [(eVar 0)]))
    (sRet (eOp2 subF (eOpN lenF [(eOp2 ixF (eVar 0) (eC (.int 1)))]) (eOpN maxF [(eComp (miSeq (qC (eCall m_pairs_of [(eCall m_things_of [(eVar 0)])]))) (tgTup 2 (tgCons (tgName 1) (tgCons (tgName 2) tgNil))) bYes (eCall m_meets [(eVar 0), (eVar 1), (eVar 2)]) [1, 2])]))))
noncomputable def m_parted_by : MF := mFun 1 3 (mb_parted_by)
noncomputable def mb_are_things : MS := (sSeq (sIf (bOr (bNot (bOf (eOpN isiF [(eVar 1), (eC (.ty "tuple"))]))) (bNot (bOf (eOpN allF [(eComp (miSeq (qC (eVar 1))) (tgName 2) bYes (eCall m_is_whole [(eVar 2)]) [2])])))) (sRet (eC (.bl false))) sNop)
    (sSeq (sIf (bAnd (bOf (eOp2 gtF (eOpN lenF [(eVar 1)]) (eC (.int 0)))) (bOr (bOf (eOp2 ltF (eOp2 ixF (eVar 1) (eC (.int 0))) (eC (.int 0)))) (bOf (eOp2 geF (eOp2 ixF (eVar 1) (eOp1 negF (eC (.int 1)))) (eVar 0))))) (sRet (eC (.bl false))) sNop)
    (sRet (eOpN allF [(eComp (miZip (qC (eVar 1)) (qC (eSl (some (eC (.int 1))) none (eVar 1)))) (tgTup 2 (tgCons (tgName 2) (tgCons (tgName 3) tgNil))) bYes (eOp2 ltF (eVar 2) (eVar 3)) [2, 3])]))))
noncomputable def m_are_things : MF := mFun 2 4 (mb_are_things)
noncomputable def mb_need_rising : MS := (sIf (bOr (bNot (bOf (eCall m_are_things [(eCall m_things_of [(eVar 0)]), (eVar 1)]))) (bOf (eOp2 ltF (eOpN lenF [(eVar 1)]) (eVar 2)))) (sRaise 4) sNop)
noncomputable def m_need_rising : MF := mFun 3 3 (mb_need_rising)
noncomputable def mb_is_apart : MS := (sRet (eOp2 eqF (eLenSet (eComp (miSeq (qC (eVar 1))) (tgName 2) bYes (eOp2 ixF (eVar 0) (eVar 2)) [2])) (eOpN lenF [(eVar 1)])))
noncomputable def m_is_apart : MF := mFun 2 3 (mb_is_apart)
noncomputable def mb_all_tuples : MS := (sSeq (sDrop (eCall m_need_tuples [(eCall m_things_of [(eVar 0)]), (eVar 1)]))
    (sRet (eCall m_rising_tuples [(eCall m_things_of [(eVar 0)]), (eVar 1)])))
noncomputable def m_all_tuples : MF := mFun 2 2 (mb_all_tuples)
noncomputable def mb_first_missed : MS := (sSeq (sFor (miSeq (qE (eCall m_all_tuples [(eVar 0), (eVar 1)]))) (tgName 2) (sIf (bNot (bOf (eOpN anyF [(eComp (miSeq (qC (eOp2 ixF (eVar 0) (eC (.int 1))))) (tgName 3) bYes (eCall m_is_apart [(eVar 3), (eVar 2)]) [3])]))) (sRetV 2) sNop))
    (sRet (eC .non)))
noncomputable def m_first_missed : MF := mFun 2 4 (mb_first_missed)
noncomputable def mb_parted_at : MS := (sSeq (sSet 3 (eSortedSet (eComp (miSeq (qC (eVar 1))) (tgName 5) bYes (eOp2 ixF (eOp2 ixF (eOp2 ixF (eVar 0) (eC (.int 1))) (eVar 5)) (eVar 2)) [5])))
    (sRet (eComp (miSeq (qC (eVar 3))) (tgName 4) bYes (eTup [(eVar 4), (eOpN tupF [(eComp (miSeq (qC (eVar 1))) (tgName 5) (bOf (eOp2 eqF (eOp2 ixF (eOp2 ixF (eOp2 ixF (eVar 0) (eC (.int 1))) (eVar 5)) (eVar 2)) (eVar 4))) (eVar 5) [5])])]) [4])))
noncomputable def m_parted_at : MF := mFun 3 6 (mb_parted_at)
noncomputable def mb_is_end : MS := (sSeq (sIf (bOr (bOf (eOp2 neF (eOpN lenF [(eVar 2)]) (eC (.int 2)))) (bOr (bNot (bOf (eOpN isiF [(eOp2 ixF (eVar 2) (eC (.int 1))), (eC (.ty "tuple"))]))) (bNot (bOf (eOpN allF [(eComp (miSeq (qC (eOp2 ixF (eVar 2) (eC (.int 1))))) (tgName 4) bYes (eCall m_is_whole [(eVar 4)]) [4])]))))) (sRet (eC (.bl false))) sNop)
    (sRet (eAnd (eOp2 eqF (eOp2 ixF (eVar 2) (eC (.int 1))) (eVar 1)) (eOpN allF [(eComp (miSeq (qC (eVar 1))) (tgName 3) bYes (eOp2 eqF (eOp2 ixF (eOp2 ixF (eVar 0) (eC (.int 1))) (eVar 3)) (eOp2 ixF (eOp2 ixF (eVar 0) (eC (.int 1))) (eOp2 ixF (eVar 1) (eC (.int 0))))) [3])]))))
noncomputable def m_is_end : MF := mFun 3 5 (mb_is_end)
noncomputable def mb_asks_of (rec : MF) : MS := (sSeq (sIf (bOf (eOp2 eqF (eOp2 ixF (eVar 1) (eC (.int 0))) (eC (.str "known")))) (sRet (eC (.int 0))) sNop)
    (sRet (eOp2 addF (eC (.int 1)) (eOpN maxF [(eComp (miSeq (qC (eOp2 ixF (eVar 1) (eC (.int 2))))) (tgTup 2 (tgCons (tgName 2) (tgCons (tgName 3) tgNil))) bYes (eCall rec [(eVar 0), (eVar 3)]) [2, 3])]))))
noncomputable def m_asks_of : Nat → MF
  | 0 => fun _ _ => .bad
  | n + 1 => mFun 2 4 (mb_asks_of (m_asks_of n))
noncomputable def mb_need_two : MS := (sSeq (sFor (miSeq (qE (eTup [(eVar 1), (eVar 2)]))) (tgName 4) (sIf (bOr (bNot (bOf (eCall m_is_whole [(eVar 4)]))) (bNot (bOf (eChain leF ltF (eC (.int 0)) (eVar 4) (eOpN lenF [(eOp2 ixF (eVar 0) (eC (.int 1)))]))))) (sRaise 4) sNop))
    (sDrop (eCall m_need_rising [(eVar 0), (eVar 3), (eC (.int 0))])))
noncomputable def m_need_two : MF := mFun 4 5 (mb_need_two)
noncomputable def mb_sides_of : MS := (sRet (eComp (miSeq (qC (eVar 3))) (tgName 4) bYes (eTup [(eOp2 ixF (eOp2 ixF (eOp2 ixF (eVar 0) (eC (.int 1))) (eVar 1)) (eVar 4)), (eOp2 ixF (eOp2 ixF (eOp2 ixF (eVar 0) (eC (.int 1))) (eVar 2)) (eVar 4))]) [4]))
noncomputable def m_sides_of : MF := mFun 4 5 (mb_sides_of)
noncomputable def mb_number_of : MS := (sSeq (sIf (bOr (bNot (bOf (eChain leF leF (eC (.int 1)) (eOpN lenF [(eVar 0)]) (eC (.int 3))))) (bNot (bOf (eOpN allF [(eComp (miStr (eVar 0)) (tgName 1) bYes (eOp2 inF (eVar 1) (eC (.str "0123456789"))) [1])])))) (sRet (eC .non)) sNop)
    (sSeq (sIf (bAnd (bOf (eOp2 gtF (eOpN lenF [(eVar 0)]) (eC (.int 1)))) (bOf (eOp2 eqF (eOp2 ixF (eVar 0) (eC (.int 0))) (eC (.str "0"))))) (sRet (eC .non)) sNop)
    (sRet (eOpN intSF [(eVar 0)]))))
noncomputable def m_number_of : MF := mFun 1 2 (mb_number_of)
noncomputable def mb_Words___init__ : MS := (sSeq (sFld 7 "boxes" (eVar 0) (eC (.int 0)))
    (sFld 7 "rows" (eVar 0) (eLst [])))
noncomputable def m_Words___init__ : MF := mFun 1 1 (mb_Words___init__)
noncomputable def mb_Words_is_done : MS := (sRet (eAnd (eOp2 gtF (eOpN lenF [(eFld 7 "rows" (eVar 0))]) (eC (.int 0))) (eChain ltF eqF (eC (.int 0)) (eOpN lenF [(eOp2 ixF (eFld 7 "rows" (eVar 0)) (eOp1 negF (eC (.int 1))))]) (eOpN lenF [(eOp2 ixF (eFld 7 "rows" (eVar 0)) (eC (.int 0)))]))))
noncomputable def m_Words_is_done : MF := mFun 1 1 (mb_Words_is_done)
noncomputable def mb_Words_take_first : MS := (sSeq (sSet 2 (eCall m_number_of [(eVar 1)]))
    (sSeq (sIf (bOr (bOf (eOp2 isF (eVar 2) (eC .non))) (bNot (bOf (eChain ltF leF (eC (.int 0)) (eVar 2) (eC (.int 64)))))) (sRet (eC (.bl false))) sNop)
    (sSeq (sFld 7 "boxes" (eVar 0) (eVar 2))
    (sRet (eC (.bl true))))))
noncomputable def m_Words_take_first : MF := mFun 2 3 (mb_Words_take_first)
noncomputable def mb_Words_take_end : MS := (sSeq (sIf (bOr (bAnd (bOf (eOp2 gtF (eOpN lenF [(eFld 7 "rows" (eVar 0))]) (eC (.int 0)))) (bNot (bOf (eMeth 7 "is_done" m_Words_is_done (eVar 0) [])))) (bOf (eOp2 eqF (eOpN lenF [(eFld 7 "rows" (eVar 0))]) (eC (.int 600))))) (sRet (eC (.bl false))) sNop)
    (sSeq (sDrop (eAppF (eFld 7 "rows" (eVar 0)) (eLst [])))
    (sRet (eC (.bl true)))))
noncomputable def m_Words_take_end : MF := mFun 1 1 (mb_Words_take_end)
noncomputable def mb_Words_take : MS := (sSeq (sIf (bOf (eOp2 eqF (eFld 7 "boxes" (eVar 0)) (eC (.int 0)))) (sRet (eMeth 7 "take_first" m_Words_take_first (eVar 0) [(eVar 1)])) sNop)
    (sSeq (sIf (bOf (eOp2 eqF (eVar 1) (eC (.str "/")))) (sRet (eMeth 7 "take_end" m_Words_take_end (eVar 0) [])) sNop)
    (sSeq (sSetS 2 (eCall m_number_of [(eVar 1)]))
    (sSeq (sIf (bOr (bOf (eOp2 eqF (eFld 7 "rows" (eVar 0)) (eLst []))) (bOr (bOf (eOp2 isF (eVar 2) (eC .non))) (bOf (eOp2 geF (eVar 2) (eFld 7 "boxes" (eVar 0)))))) (sRet (eC (.bl false))) sNop)
    (sSeq (sSet 3 (eC (.int 64)))
    (sSeq (sCut (sIf (bOf (eOp2 gtF (eOpN lenF [(eFld 7 "rows" (eVar 0))]) (eC (.int 1)))) (sSet 3 (eOpN lenF [(eOp2 ixF (eFld 7 "rows" (eVar 0)) (eC (.int 0)))])) sNop))
    (sSeq (sIf (bOf (eOp2 eqF (eOpN lenF [(eOp2 ixF (eFld 7 "rows" (eVar 0)) (eOp1 negF (eC (.int 1))))]) (eVar 3))) (sRet (eC (.bl false))) sNop)
    (sSeq (sDrop (eAppD (eOp2 ixF (eFld 7 "rows" (eVar 0)) (eOp1 negF (eC (.int 1)))) (eVar 2)))
    (sRet (eC (.bl true)))))))))))
noncomputable def m_Words_take : MF := mFun 2 4 (mb_Words_take)
noncomputable def mb_read_book : MS := (sSeq (sSet 1 (eMt "str" splitF (eVar 0) [(eC (.str " "))]))
    (sSeq (sSet 2 (eMake 7 m_Words___init__))
    (sSeq (sFrz 1 (sFor (miEnumA (qVar 1)) (tgTup 2 (tgCons (tgName 3) (tgCons (tgName 4) tgNil))) (sIf (bNot (bOf (eMeth 7 "take" m_Words_take (eVar 2) [(eVar 4)]))) (sRaiseA (eVar 3)) sNop)))
    (sSeq (sIf (bNot (bOf (eMeth 7 "is_done" m_Words_is_done (eVar 2) []))) (sRaiseA (eOpN lenF [(eVar 1)])) sNop)
    (sRet (eTup [(eFld 7 "boxes" (eVar 2)), (eOpN tupF [(eComp (miSeq (qC (eFld 7 "rows" (eVar 2)))) (tgName 5) bYes (eOpN tupF [(eVar 5)]) [5])])]))))))
noncomputable def m_read_book : MF := mFun 1 6 (mb_read_book)
noncomputable def mb_by_commas : MS := (sRet (eMt "str" joinF (eC (.str ",")) [(eComp (miSeq (qC (eVar 0))) (tgName 1) bYes (eOpN strF [(eVar 1)]) [1])]))
noncomputable def m_by_commas : MF := mFun 1 2 (mb_by_commas)
def tab_MADE : List (Str × Int) := [("rests", 3), ("bits", 2), ("slides", 2), ("planes", 1)]
noncomputable def mb_is_made : MS := (sSeq (sIf (bOf (eOp2 neF (eOpN lenF [(eVar 1)]) (eOp1 (atGF tab_MADE) (eVar 0)))) (sRet (eC (.bl false))) sNop)
    (sSeq (sIf (bOf (eOp2 eqF (eVar 0) (eC (.str "rests")))) (sRet (eAnd (eChain leF leF (eC (.int 1)) (eOp2 ixF (eVar 1) (eC (.int 1))) (eOp2 ixF (eVar 1) (eC (.int 0)))) (eChain leF leF (eC (.int 1)) (eOp2 ixF (eVar 1) (eC (.int 2))) (eOp2 ixF (eVar 1) (eC (.int 0)))))) sNop)
    (sRet (eOr (eOp2 eqF (eVar 0) (eC (.str "planes"))) (eAnd (eChain leF leF (eC (.int 1)) (eOp2 ixF (eVar 1) (eC (.int 0))) (eC (.int 6))) (eChain leF leF (eC (.int 1)) (eOp2 ixF (eVar 1) (eC (.int 1))) (eC (.int 4))))))))
noncomputable def m_is_made : MF := mFun 2 2 (mb_is_made)
def tab_ASKED : List (Str × Int) := [("meets", 2), ("worst", 0), ("even", 1), ("parted", 0), ("missed", 1), ("gathered", 0)]
noncomputable def mb_is_asked : MS := (sSeq (sIf (bOf (eOp2 eqF (eVar 0) (eC (.str "two")))) (sRet (eOp2 gtF (eOpN lenF [(eVar 1)]) (eC (.int 2)))) sNop)
    (sSeq (sIf (bOf (eOp2 neF (eOpN lenF [(eVar 1)]) (eOp2 (getGF tab_ASKED) (eVar 0) (eOp1 negF (eC (.int 1)))))) (sRet (eC (.bl false))) sNop)
    (sRet (eOr (eOp2 notinF (eVar 0) (eTup [(eC (.str "even")), (eC (.str "missed"))])) (eChain leF leF (eC (.int 1)) (eOp2 ixF (eVar 1) (eC (.int 0))) (eC (.int 4)))))))
noncomputable def m_is_asked : MF := mFun 2 2 (mb_is_asked)
noncomputable def mb_made_by : MS := (sSeq (sIf (bOf (eOp2 eqF (eVar 0) (eC (.str "rests")))) (sRet (eCall m_by_rests [(eOp2 ixF (eVar 1) (eC (.int 0))), (eOp2 ixF (eVar 1) (eC (.int 1))), (eOp2 ixF (eVar 1) (eC (.int 2)))])) sNop)
    (sSeq (sIf (bOf (eOp2 eqF (eVar 0) (eC (.str "bits")))) (sRet (eCall m_by_bits [(eOp2 ixF (eVar 1) (eC (.int 0))), (eOp2 ixF (eVar 1) (eC (.int 1)))])) sNop)
    (sSeq (sIf (bOf (eOp2 eqF (eVar 0) (eC (.str "slides")))) (sRet (eCall m_by_slides [(eOp2 ixF (eVar 1) (eC (.int 0))), (eOp2 ixF (eVar 1) (eC (.int 1)))])) sNop)
    (sRet (eCall m_by_planes [(eOp2 ixF (eVar 1) (eC (.int 0)))])))))
noncomputable def m_made_by : MF := mFun 2 2 (mb_made_by)
noncomputable def mb_worst_text : MS := (sSeq (sAsg (tgTup 2 (tgCons (tgName 1) (tgCons (tgName 2) tgNil))) (eCall m_worst_pairs [(eVar 0)]))
    (sSeq (sSet 3 (eComp (miSeq (qC (eVar 2))) (tgTup 2 (tgCons (tgName 4) (tgCons (tgName 5) tgNil))) bYes (eOp2 addF (eOp2 addF (eOpN strF [(eVar 4)]) (eC (.str "-"))) (eOpN strF [(eVar 5)])) [4, 5]))
    (sRet (eMt "str" joinF (eC (.str " ")) [(eOp2 addF (eLst [(eOpN strF [(eOp2 ixF (eVar 1) (eC (.int 0)))]), (eC (.str "/")), (eOpN strF [(eOp2 ixF (eVar 1) (eC (.int 1)))])]) (eVar 3))]))))
noncomputable def m_worst_text : MF := mFun 1 6 (mb_worst_text)
noncomputable def mb_missed_text : MS := (sSeq (sSet 2 (eCall m_first_missed [(eVar 0), (eVar 1)]))
    (sSeq (sIf (bOf (eOp2 isF (eVar 2) (eC .non))) (sRet (eC (.str "none"))) sNop)
    (sRet (eCall m_by_commas [(eVar 2)]))))
noncomputable def m_missed_text : MF := mFun 2 3 (mb_missed_text)
noncomputable def mb_l_gprime : MS := (sSeq (sSet 1 (eLst [(eC (.int 2147483647)), (eC (.int 2147483629)), (eC (.int 2147483587)), (eC (.int 2147483579)), (eC (.int 2147483563)), (eC (.int 2147483549)), (eC (.int 2147483543))]))
    (sRet (eOp2 ixF (eOp2 addF (eVar 1) (eLst [(eC (.int 2147483497)), (eC (.int 2147483489))])) (eOp2 modF (eVar 0) (eC (.int 9))))))
noncomputable def m_l_gprime : MF := mFun 1 2 (mb_l_gprime)
noncomputable def mb_l_gfresh : MS := (sSeq (sSet 1 (eOp2 ixF (eVar 0) (eC (.int 1))))
    (sSeq (sSetIx 0 (eC (.int 1)) (eOp2 addF (eVar 1) (eC (.int 1))))
    (sSeq (sSet 2 (eOp2 addF (eOp2 mulF (eC (.int 7)) (eVar 1)) (eC (.int 3))))
    (sSeq (sCut (sIf (bOf (eOp2 ltF (eVar 1) (eOpN lenF [(eOp2 ixF (eVar 0) (eC (.int 0)))]))) (sSet 2 (eOp2 ixF (eOp2 ixF (eVar 0) (eC (.int 0))) (eVar 1))) (sIf (bOf (eOp2 gtF (eOpN lenF [(eOp2 ixF (eVar 0) (eC (.int 0)))]) (eC (.int 0)))) (sSet 2 (eOp2 addF (eOp2 mulF (eOp2 modF (eOp2 ixF (eOp2 ixF (eVar 0) (eC (.int 0))) (eOp2 modF (eVar 1) (eOpN lenF [(eOp2 ixF (eVar 0) (eC (.int 0)))]))) (eC (.int 1000003))) (eOp2 addF (eVar 1) (eC (.int 1)))) (eVar 1))) sNop)))
    (sSeq (sIf (bAnd (bOf (eOp2 ltF (eVar 1) (eOpN lenF [(eOp2 ixF (eVar 0) (eC (.int 0)))]))) (bOf (eOp2 geF (eVar 2) (eOp2 powF (eC (.int 10)) (eC (.int 18)))))) (sRetV 2) sNop)
    (sSeq (sSet 3 (eOp2 modF (eOp2 powF (eOp2 addF (eOp2 addF (eOp2 mulF (eOp2 modF (eVar 2) (eC (.int 2147483477))) (eOp2 addF (eVar 1) (eC (.int 1)))) (eOp2 mulF (eC (.int 104729)) (eVar 1))) (eC (.int 17))) (eC (.int 5))) (eCall m_l_gprime [(eVar 1)])))
    (sSeq (sSet 4 (eOp2 modF (eOp2 powF (eOp2 addF (eOp2 addF (eOp2 mulF (eVar 3) (eOp2 addF (eVar 1) (eC (.int 3)))) (eOp2 modF (eVar 2) (eC (.int 65537)))) (eC (.int 1))) (eC (.int 3))) (eCall m_l_gprime [(eOp2 addF (eVar 1) (eC (.int 4)))])))
    (sSeq (sSet 5 (eOp2 modF (eOp2 addF (eOp2 mulF (eVar 4) (eVar 4)) (eVar 3)) (eCall m_l_gprime [(eOp2 addF (eVar 1) (eC (.int 7)))])))
    (sRet (eOp2 addF (eOp2 mulF (eOp2 addF (eOp2 mulF (eVar 5) (eC (.int 2147483647))) (eVar 4)) (eC (.int 2147483629))) (eVar 3)))))))))))
noncomputable def m_l_gfresh : MF := mFun 1 6 (mb_l_gfresh)
noncomputable def mb_l_gdraw : MS := (sSeq (sCut (sIf (bOf (eOp2 ltF (eOp2 ixF (eVar 0) (eC (.int 2))) (eVar 1))) (sSetIx 0 (eC (.int 2)) (eCall m_l_gfresh [(eVar 0)])) sNop))
    (sSeq (sSet 2 (eOp2 modF (eOp2 ixF (eVar 0) (eC (.int 2))) (eVar 1)))
    (sSeq (sSetIx 0 (eC (.int 2)) (eOp2 fdivF (eOp2 ixF (eVar 0) (eC (.int 2))) (eVar 1)))
    (sRetV 2))))
noncomputable def m_l_gdraw : MF := mFun 2 3 (mb_l_gdraw)
noncomputable def mb_l_gbook : MS := (sSeq (sAsg (tgTup 2 (tgCons (tgName 4) (tgCons (tgName 5) tgNil))) (eTup [(eOp2 addF (eC (.int 1)) (eCall m_l_gdraw [(eVar 0), (eVar 1)])), (eOp2 addF (eC (.int 1)) (eCall m_l_gdraw [(eVar 0), (eVar 2)]))]))
    (sSeq (sSet 6 (eCall m_l_gdraw [(eVar 0), (eC (.int 5))]))
    (sSeq (sSet 7 (eLst []))
    (sSeq (sFor (miRng1 (eOp2 addF (eC (.int 1)) (eCall m_l_gdraw [(eVar 0), (eVar 3)]))) (tgName 8) (sSeq (sAsg (tgTup 2 (tgCons (tgName 9) (tgCons (tgName 10) tgNil))) (eTup [(eOp2 addF (eC (.int 1)) (eCall m_l_gdraw [(eVar 0), (eC (.int 10))])), (eCall m_l_gdraw [(eVar 0), (eC (.int 11))])]))
    (sSeq (sSet 11 (eComp (miRng1 (eVar 5)) (tgName 12) bYes (eCall m_l_gdraw [(eVar 0), (eOp2 ixF (eLst [(eVar 4), (eOpN minF [(eVar 4), (eC (.int 2))]), (eVar 4)]) (eOp2 modF (eVar 6) (eC (.int 3))))]) [12]))
    (sSeq (sCut (sIf (bOf (eOp2 eqF (eVar 6) (eC (.int 3)))) (sSet 11 (eComp (miRng1 (eVar 5)) (tgName 12) bYes (eOp2 modF (eOp2 modF (eOp2 addF (eOp2 mulF (eVar 9) (eVar 12)) (eVar 10)) (eC (.int 11))) (eVar 4)) [12])) sNop))
    (sSeq (sCut (sIf (bAnd (bOf (eOp2 eqF (eVar 6) (eC (.int 4)))) (bAnd (bOf (eOp2 gtF (eVar 8) (eC (.int 0)))) (bOf (eOp2 ltF (eVar 9) (eC (.int 6)))))) (sSet 11 (eOpN listF [(eOp2 ixF (eVar 7) (eOp2 modF (eVar 10) (eVar 8)))])) sNop))
    (sApp 7 (eOpN tupF [(eVar 11)])))))))
    (sRet (eTup [(eVar 4), (eOpN tupF [(eVar 7)])]))))))
noncomputable def m_l_gbook : MF := mFun 4 13 (mb_l_gbook)
noncomputable def mb_l_gkind : MS := (sSeq (sSet 1 (eLst [(eOpN isxF [(eVar 0), (eC (.cls 1))]), (eOpN isxF [(eVar 0), (eC (.cls 2))]), (eOpN isxF [(eVar 0), (eC (.cls 3))]), (eOpN isxF [(eVar 0), (eC (.cls 4))])]))
    (sSeq (sSet 1 (eOp2 addF (eVar 1) (eLst [(eOpN isxF [(eVar 0), (eC (.cls 5))]), (eOpN isxF [(eVar 0), (eC (.cls 6))])])))
    (sSeq (sIf (bOr (bOf (eOp2 neF (eMt "list" cntF (eVar 1) [(eC (.bl true))]) (eC (.int 1)))) (bNot (bOf (eOpN isxF [(eVar 0), (eC (.ty "ValueError"))])))) (sRet (eC (.str "odd"))) sNop)
    (sRet (eOp2 ixF (eLst [(eC (.str "few")), (eC (.str "many")), (eC (.str "prime")), (eC (.str "thing")), (eC (.str "row")), (eC (.str "text"))]) (eMt "list" idxF (eVar 1) [(eC (.bl true))]))))))
noncomputable def m_l_gkind : MF := mFun 1 2 (mb_l_gkind)
noncomputable def mb_l_gsame (rec : MF) : MS := (sSeq (sIf (bOf (eOp2 isF (eVar 1) (eC .non))) (sRet (eOp2 isF (eVar 0) (eC .non))) sNop)
    (sSeq (sIf (bOr (bOf (eOpN isiF [(eVar 1), (eC (.ty "bool"))])) (bOf (eOpN isiF [(eVar 0), (eC (.ty "bool"))]))) (sRet (eAnd (eOpN isiF [(eVar 1), (eC (.ty "bool"))]) (eAnd (eOpN isiF [(eVar 0), (eC (.ty "bool"))]) (eOp2 eqF (eVar 0) (eVar 1))))) sNop)
    (sSeq (sIf (bOf (eOpN isiF [(eVar 1), (eC (.ty "int"))])) (sRet (eAnd (eOpN isiF [(eVar 0), (eC (.ty "int"))]) (eOp2 eqF (eVar 0) (eVar 1)))) sNop)
    (sSeq (sIf (bOf (eOpN isiF [(eVar 1), (eC (.ty "str"))])) (sRet (eAnd (eOpN isiF [(eVar 0), (eC (.ty "str"))]) (eOp2 eqF (eVar 0) (eVar 1)))) sNop)
    (sSeq (sIf (bOr (bOf (eOp2 neF (eOpN isiF [(eVar 1), (eC (.ty "tuple"))]) (eOpN isiF [(eVar 0), (eC (.ty "tuple"))]))) (bOf (eOp2 neF (eOpN isiF [(eVar 1), (eC (.ty "list"))]) (eOpN isiF [(eVar 0), (eC (.ty "list"))])))) (sRet (eC (.bl false))) sNop)
    (sRet (eAnd (eOp2 eqF (eOpN lenF [(eVar 0)]) (eOpN lenF [(eVar 1)])) (eOpN allF [(eComp (miZip (qC (eVar 0)) (qC (eVar 1))) (tgTup 2 (tgCons (tgName 2) (tgCons (tgName 3) tgNil))) bYes (eCall rec [(eVar 2), (eVar 3)]) [2, 3])]))))))))
noncomputable def m_l_gsame : Nat → MF
  | 0 => fun _ _ => .bad
  | n + 1 => mFun 2 4 (mb_l_gsame (m_l_gsame n))
noncomputable def mb_l_gbent : MS := (sSeq (sPar 3 4 [(eCall m_l_gdraw [(eVar 0), (eC (.int 13))]), (eCall m_l_gdraw [(eVar 0), (eOp2 addF (eOpN lenF [(eVar 2)]) (eC (.int 1)))])])
    (sSeq (sSetS 5 (eOp2 ixF (eLst [(eVar 1), (eOp1 negF (eC (.int 1))), (eC (.bl true)), (eC (.bl false)), (eC .non), (eC (.str "0")), (eTup [(eC (.int 0))]), (eLst [(eC (.int 0))]), (eOp2 powF (eC (.int 10)) (eC (.int 39))), (eOp1 negF (eOp2 powF (eC (.int 10)) (eC (.int 39)))), (eOp2 subF (eVar 1) (eC (.int 1))), (eC (.int 0))]) (eCall m_l_gdraw [(eVar 0), (eC (.int 12))])))
    (sSeq (sSet 6 (eLst [(eOpN listF [(eVar 2)]), (eRevA (eVar 2)), (eOp2 addF (eSl none (some (eVar 4)) (eVar 2)) (eSl (some (eOpN maxF [(eC (.int 0)), (eOp2 subF (eVar 4) (eC (.int 1)))])) none (eVar 2))), (eOp2 addF (eOp2 addF (eSl none (some (eVar 4)) (eVar 2)) (eTup [(eVar 5)])) (eSl (some (eVar 4)) none (eVar 2)))]))
    (sSeq (sApp 6 (eOp2 addF (eOp2 addF (eSl none (some (eVar 4)) (eVar 2)) (eTup [(eVar 5)])) (eSl (some (eOp2 addF (eVar 4) (eC (.int 1)))) none (eVar 2))))
    (sSeq (sSet 6 (eOp2 addF (eVar 6) (eLst [(eOp2 addF (eSl none (some (eVar 4)) (eVar 2)) (eSl (some (eOp2 addF (eVar 4) (eC (.int 1)))) none (eVar 2))), (eOp2 addF (eSl (some (eVar 4)) none (eVar 2)) (eSl none (some (eVar 4)) (eVar 2))), (eTup [(eVar 2)]), (eC .non), (eC (.int 5)), (eC (.str "01")), (eLst [])])))
    (sSeq (sApp 6 (eOp2 addF (eOp2 addF (eTup [(eOp1 negF (eC (.int 1)))]) (eVar 2)) (eTup [(eVar 1)])))
    (sRet (eOp2 ixF (eVar 6) (eVar 3)))))))))
noncomputable def m_l_gbent : MF := mFun 3 7 (mb_l_gbent)
noncomputable def mb_l_galike : MS := (sRet (eOp2 eqF (eComp (miSeq (qC (eVar 1))) (tgName 2) (bOf (eOp2 neF (eOp2 ixF (eOp2 ixF (eVar 0) (eC (.int 1))) (eVar 2)) (eOp2 ixF (eOp2 ixF (eVar 0) (eC (.int 1))) (eOp2 ixF (eVar 1) (eC (.int 0)))))) (eVar 2) [2]) (eLst [])))
noncomputable def m_l_galike : MF := mFun 2 3 (mb_l_galike)
noncomputable def mb_l_gparted : MS := (sSeq (sSet 3 (eLst []))
    (sSeq (sFor (miSeq (qE (eSortedSet (eComp (miSeq (qC (eVar 1))) (tgName 5) bYes (eOp2 ixF (eOp2 ixF (eOp2 ixF (eVar 0) (eC (.int 1))) (eVar 5)) (eVar 2)) [5])))) (tgName 4) (sApp 3 (eTup [(eVar 4), (eOpN tupF [(eComp (miSeq (qC (eVar 1))) (tgName 5) (bOf (eOp2 eqF (eOp2 ixF (eOp2 ixF (eOp2 ixF (eVar 0) (eC (.int 1))) (eVar 5)) (eVar 2)) (eVar 4))) (eVar 5) [5])])])))
    (sRetV 3)))
noncomputable def m_l_gparted : MF := mFun 3 6 (mb_l_gparted)
noncomputable def mb_l_gis_plan (rec : MF) : MS := (sSeq (sIf (bOr (bNot (bOf (eOpN isiF [(eVar 2), (eC (.ty "tuple"))]))) (bOf (eOp2 notinF (eOpN lenF [(eVar 2)]) (eTup [(eC (.int 2)), (eC (.int 3))])))) (sRet (eC (.bl false))) sNop)
    (sSeq (sIf (bOf (eCall (m_l_gsame 12) [(eOp2 ixF (eVar 2) (eC (.int 0))), (eC (.str "known"))])) (sRet (eAnd (eOp2 eqF (eOpN lenF [(eVar 2)]) (eC (.int 2))) (eAnd (eCall (m_l_gsame 12) [(eOp2 ixF (eVar 2) (eC (.int 1))), (eVar 1)]) (eCall m_l_galike [(eVar 0), (eVar 1)])))) sNop)
    (sSeq (sIf (bOr (bNot (bOf (eCall (m_l_gsame 12) [(eOp2 ixF (eVar 2) (eC (.int 0))), (eC (.str "ask"))]))) (bOr (bOf (eOp2 neF (eOpN lenF [(eVar 2)]) (eC (.int 3)))) (bNot (bOf (eOpN isiF [(eOp2 ixF (eVar 2) (eC (.int 2))), (eC (.ty "tuple"))]))))) (sRet (eC (.bl false))) sNop)
    (sSeq (sIf (bOr (bNot (bOf (eOpN isiF [(eOp2 ixF (eVar 2) (eC (.int 1))), (eC (.ty "int"))]))) (bOr (bOf (eOpN isiF [(eOp2 ixF (eVar 2) (eC (.int 1))), (eC (.ty "bool"))])) (bNot (bOf (eChain leF ltF (eC (.int 0)) (eOp2 ixF (eVar 2) (eC (.int 1))) (eOpN lenF [(eOp2 ixF (eOp2 ixF (eVar 0) (eC (.int 1))) (eC (.int 0)))])))))) (sRet (eC (.bl false))) sNop)
    (sSeq (sSet 3 (eCall m_l_gparted [(eVar 0), (eVar 1), (eOp2 ixF (eVar 2) (eC (.int 1)))]))
    (sSeq (sIf (bOr (bOf (eOp2 ltF (eOpN lenF [(eVar 3)]) (eC (.int 2)))) (bOf (eOp2 neF (eOpN lenF [(eVar 3)]) (eOpN lenF [(eOp2 ixF (eVar 2) (eC (.int 2)))])))) (sRet (eC (.bl false))) sNop)
    (sSeq (sFrz 3 (sFor (miZipM (qVar 3) (qE (eOp2 ixF (eVar 2) (eC (.int 2))))) (tgTup 2 (tgCons (tgTup 2 (tgCons (tgName 4) (tgCons (tgName 5) tgNil))) (tgCons (tgName 6) tgNil))) (sSeq (sIf (bOr (bNot (bOf (eOpN isiF [(eVar 6), (eC (.ty "tuple"))]))) (bOr (bOf (eOp2 neF (eOpN lenF [(eVar 6)]) (eC (.int 2)))) (bNot (bOf (eCall (m_l_gsame 12) [(eOp2 ixF (eVar 6) (eC (.int 0))), (eVar 4)]))))) (sRet (eC (.bl false))) sNop)
    (sIf (bNot (bOf (eCall rec [(eVar 0), (eVar 5), (eOp2 ixF (eVar 6) (eC (.int 1)))]))) (sRet (eC (.bl false))) sNop))))
    (sRet (eC (.bl true))))))))))
noncomputable def m_l_gis_plan : Nat → MF
  | 0 => fun _ _ => .bad
  | n + 1 => mFun 3 7 (mb_l_gis_plan (m_l_gis_plan n))
noncomputable def mb_l_gdeep (rec : MF) : MS := (sSeq (sIf (bOf (eOp2 eqF (eOp2 ixF (eVar 0) (eC (.int 0))) (eC (.str "known")))) (sRet (eC (.int 0))) sNop)
    (sRet (eOp2 addF (eC (.int 1)) (eOpN maxF [(eComp (miSeq (qC (eOp2 ixF (eVar 0) (eC (.int 2))))) (tgName 1) bYes (eCall rec [(eOp2 ixF (eVar 1) (eC (.int 1)))]) [1])]))))
noncomputable def m_l_gdeep : Nat → MF
  | 0 => fun _ _ => .bad
  | n + 1 => mFun 1 2 (mb_l_gdeep (m_l_gdeep n))
end LM

namespace LM
open PySem PySem.Spec L2 DM
local macro_rules | `(tactic| walk_at "w") => `(tactic| simp only [QV_v, QV_own, QV_bor, QI_d, QI_l, QO_d, QO_l, QO_ite, QO_A, QA_s, w_C, w_var, kA2_e, kB2_dd, kB2_ld, kB2_dl, kB2_ll, w_op2, kA1_d, w_op1, kArg_e, kArg2_d, kArg2_l, w_args0, w_args, kOpN_e, w_opN, kIt_e, kIt2_e, kIt3_e, w_items0, w_items, kTup_e, kLst_e, w_tup, w_lst, kB_e, w_bOf, kAnd_t, kAnd_f, kOr_t, kOr_f, kNot_e, w_bAnd, w_bOr, w_bNot, w_bYes, kEAnd_t, kEAnd_f, kEOr_t, kEOr_f, kENot_e, w_eAnd, w_eOr, w_eNot, kEIf_t, kEIf_f, w_eIf, kCall_e, w_call, okR_d, okR_l, okR_ex, kPart2_e, w_part0, w_part, kSl3_d, kSl3_l, kSl2_e, kSl_e, w_sl, kCh_e, kCh1_e, kCh2_t, kCh2_f, w_chain, seq_nx, seq_rt, seq_bk, seq_ct, seq_ex, kX_e, w_seq, w_nop, w_brk, w_cnt, kIf_t, kIf_f, w_if, kRet_d, kRet_l, w_ret, w_retN, QRV_v, QRV_own, w_retV, kDrop_e, w_drop, kSet_d, kSet_l, w_set, kSetS_d, kSetS_l, w_setS, QMv_e, w_move, QG_e, tg_name, tg_tup, tg_tup1, tg_tup2, tg_tup3, tg_tup4, tg_nil, tg_cons, ob_some, kAsg_d, w_asg, kPar_e, w_par, kSixN_e, kSixL_e, QSt_e, kSixO_e, kSixT_e, QSix_o, QSix_l, kSix_d, kSix_l, w_setix, kAppO_d, kAppO_l, QAppT_e, kAppT_d, kAppT_l, QApp_o, QApp_l, w_app, kExtO_l, QExt_o, QS_t, QS_l, QSL_e, QQ_b, QQ_v, w_qVar, kQE_l, kQE_d, w_qE, kQC_l, kQC_d, w_qC, kSeq_e, w_miSeq, kRev_e, w_miRev, kEnum_e, w_miEnum, kZip_e, kZip2_e, w_miZip, kR1_e, w_miRng1, kR2_e, kR3_e, rngD_len, rngD2_len, chk_t, chk_p, chk_s, isT_t, isT_p, isT_s, w_for, lp_nx, lp_rt, lp_bk, lp_ct, lp_ex, frzS_e, frzQ_o, frzQ_v, frzQ_b, frzQ_n, unfS_e, unfQ_o, unfQ_v, unfQ_b, unfQ_n, unf_nx, unf_rt, unf_bk, unf_ct, unf_ex, w_frz, w_comp, EnF_nx, EnF_d, EnF_l, EnF_ex, slot_d, slot_f, add_ii, add_ss, add_tt, add_ll, sub_ii, mul_ii, mul_li, div_ii, mod_ii, pow_ii, shl_ii, shr_ii, lt_ii, le_ii, gt_ii, ge_ii, neg_i, and_ii, or_ii, xor_ii, is_n, isnt_n, isNon_n, isNon_b, isNon_i, isNon_s, isNon_t, isNon_o, isNon_l, isNon_e, lstO_e, lstOf_l, lstOf_o, om_some, ix_t, ix_s, ix_l, ix_o, len_s, len_t, len_l, len_o, sum_l, all_l, any_l, max_ii, min_ii, max_l, min_l, tup_t, tup_l, tup_o, list_t, list_l, list_o, int_i, int_b, str_i, sl_t, sl_l, sl_s, eq_ii, ne_ii, eq_bb, ne_bb, isi_non_int, isi_non_bool, isi_non_str, isi_non_tuple, isi_non_list, isi_non_tl, isi_bl_int, isi_bl_bool, isi_bl_str, isi_bl_tuple, isi_bl_list, isi_bl_tl, isi_int_int, isi_int_bool, isi_int_str, isi_int_tuple, isi_int_list, isi_int_tl, isi_str_int, isi_str_bool, isi_str_str, isi_str_tuple, isi_str_list, isi_str_tl, isi_tup_int, isi_tup_bool, isi_tup_str, isi_tup_tuple, isi_tup_list, isi_tup_tl, isi_l_int, isi_l_bool, isi_l_str, isi_l_tuple, isi_l_list, isi_l_tl, ixN_00, ixN_1, ixN_2, ixN_3, atI_0, atI_1, atI_2, atI_3, intsOf_map, blsOf_map, List.set_cons_zero, List.set_cons_succ, List.getElem?_cons_zero, List.getElem?_cons_succ, List.replicate_succ, List.replicate_zero, List.length_cons, List.length_nil, Nat.zero_add, Nat.add_zero, Nat.reduceAdd, Nat.reduceSub, Nat.reduceLT, Nat.reduceLeDiff, Option.some.injEq, true_and, and_true, List.map_cons, List.map_nil, decide_true, decide_false, Bool.not_true, Bool.not_false, wipeE, QO_gd, startE_1, startE_2, startE_3, startE_4, fb_nx, fl_nx, fl_ct, fl_bk, fl_rt, fl_ex, cut_nx, cut_rt, cut_bk, cut_ct, cut_ex, w_raise, tr_nx, tr_rt, tr_bk, tr_ct, tr_ex, w_try, QCL_e, w_callL, kMt2_e, kMt_l, kMt_s, kMt_o, w_mt, if_true, QXT_e, kExtT_l, kExtT_d, QExt2_o, QExt2_l, exo_e, w_ext2, w_rng2, w_rng3, isB_bb, isntB_bb, beq_self_eq_true, w_ins0, QIns_o, kInsO_d, w_revE, kRevE_l, w_miEnumA, kEnumA_e, w_popAt, kPop_e, kPop2_e, sorted_e, divmod_e, w_lenSet, kLenSet_l, kRevA_l, kRevA_t, kRevA_o, w_revA, kZipM_e, kZipM2_e, w_miZipM, kAppD_e, kAppD2_e, w_appD])
local macro_rules | `(tactic| simp! only [$ls,*]) => `(tactic| simp only [QV_v, QV_own, QV_bor, QI_d, QI_l, QO_d, QO_l, QO_ite, QO_A, QA_s, w_C, w_var, kA2_e, kB2_dd, kB2_ld, kB2_dl, kB2_ll, w_op2, kA1_d, w_op1, kArg_e, kArg2_d, kArg2_l, w_args0, w_args, kOpN_e, w_opN, kIt_e, kIt2_e, kIt3_e, w_items0, w_items, kTup_e, kLst_e, w_tup, w_lst, kB_e, w_bOf, kAnd_t, kAnd_f, kOr_t, kOr_f, kNot_e, w_bAnd, w_bOr, w_bNot, w_bYes, kEAnd_t, kEAnd_f, kEOr_t, kEOr_f, kENot_e, w_eAnd, w_eOr, w_eNot, kEIf_t, kEIf_f, w_eIf, kCall_e, w_call, okR_d, okR_l, okR_ex, kPart2_e, w_part0, w_part, kSl3_d, kSl3_l, kSl2_e, kSl_e, w_sl, kCh_e, kCh1_e, kCh2_t, kCh2_f, w_chain, seq_nx, seq_rt, seq_bk, seq_ct, seq_ex, kX_e, w_seq, w_nop, w_brk, w_cnt, kIf_t, kIf_f, w_if, kRet_d, kRet_l, w_ret, w_retN, QRV_v, QRV_own, w_retV, kDrop_e, w_drop, kSet_d, kSet_l, w_set, kSetS_d, kSetS_l, w_setS, QMv_e, w_move, QG_e, tg_name, tg_tup, tg_tup1, tg_tup2, tg_tup3, tg_tup4, tg_nil, tg_cons, ob_some, kAsg_d, w_asg, kPar_e, w_par, kSixN_e, kSixL_e, QSt_e, kSixO_e, kSixT_e, QSix_o, QSix_l, kSix_d, kSix_l, w_setix, kAppO_d, kAppO_l, QAppT_e, kAppT_d, kAppT_l, QApp_o, QApp_l, w_app, kExtO_l, QExt_o, QS_t, QS_l, QSL_e, QQ_b, QQ_v, w_qVar, kQE_l, kQE_d, w_qE, kQC_l, kQC_d, w_qC, kSeq_e, w_miSeq, kRev_e, w_miRev, kEnum_e, w_miEnum, kZip_e, kZip2_e, w_miZip, kR1_e, w_miRng1, kR2_e, kR3_e, rngD_len, rngD2_len, chk_t, chk_p, chk_s, isT_t, isT_p, isT_s, w_for, lp_nx, lp_rt, lp_bk, lp_ct, lp_ex, frzS_e, frzQ_o, frzQ_v, frzQ_b, frzQ_n, unfS_e, unfQ_o, unfQ_v, unfQ_b, unfQ_n, unf_nx, unf_rt, unf_bk, unf_ct, unf_ex, w_frz, w_comp, EnF_nx, EnF_d, EnF_l, EnF_ex, slot_d, slot_f, add_ii, add_ss, add_tt, add_ll, sub_ii, mul_ii, mul_li, div_ii, mod_ii, pow_ii, shl_ii, shr_ii, lt_ii, le_ii, gt_ii, ge_ii, neg_i, and_ii, or_ii, xor_ii, is_n, isnt_n, isNon_n, isNon_b, isNon_i, isNon_s, isNon_t, isNon_o, isNon_l, isNon_e, lstO_e, lstOf_l, lstOf_o, om_some, ix_t, ix_s, ix_l, ix_o, len_s, len_t, len_l, len_o, sum_l, all_l, any_l, max_ii, min_ii, max_l, min_l, tup_t, tup_l, tup_o, list_t, list_l, list_o, int_i, int_b, str_i, sl_t, sl_l, sl_s, eq_ii, ne_ii, eq_bb, ne_bb, isi_non_int, isi_non_bool, isi_non_str, isi_non_tuple, isi_non_list, isi_non_tl, isi_bl_int, isi_bl_bool, isi_bl_str, isi_bl_tuple, isi_bl_list, isi_bl_tl, isi_int_int, isi_int_bool, isi_int_str, isi_int_tuple, isi_int_list, isi_int_tl, isi_str_int, isi_str_bool, isi_str_str, isi_str_tuple, isi_str_list, isi_str_tl, isi_tup_int, isi_tup_bool, isi_tup_str, isi_tup_tuple, isi_tup_list, isi_tup_tl, isi_l_int, isi_l_bool, isi_l_str, isi_l_tuple, isi_l_list, isi_l_tl, ixN_00, ixN_1, ixN_2, ixN_3, atI_0, atI_1, atI_2, atI_3, intsOf_map, blsOf_map, List.set_cons_zero, List.set_cons_succ, List.getElem?_cons_zero, List.getElem?_cons_succ, List.replicate_succ, List.replicate_zero, List.length_cons, List.length_nil, Nat.zero_add, Nat.add_zero, Nat.reduceAdd, Nat.reduceSub, Nat.reduceLT, Nat.reduceLeDiff, Option.some.injEq, true_and, and_true, List.map_cons, List.map_nil, decide_true, decide_false, Bool.not_true, Bool.not_false, wipeE, QO_gd, startE_1, startE_2, startE_3, startE_4, fb_nx, fl_nx, fl_ct, fl_bk, fl_rt, fl_ex, cut_nx, cut_rt, cut_bk, cut_ct, cut_ex, w_raise, tr_nx, tr_rt, tr_bk, tr_ct, tr_ex, w_try, QCL_e, w_callL, kMt2_e, kMt_l, kMt_s, kMt_o, w_mt, if_true, QXT_e, kExtT_l, kExtT_d, QExt2_o, QExt2_l, exo_e, w_ext2, w_rng2, w_rng3, isB_bb, isntB_bb, beq_self_eq_true, w_ins0, QIns_o, kInsO_d, w_revE, kRevE_l, w_miEnumA, kEnumA_e, w_popAt, kPop_e, kPop2_e, sorted_e, divmod_e, w_lenSet, kLenSet_l, kRevA_l, kRevA_t, kRevA_o, w_revA, kZipM_e, kZipM2_e, w_miZipM, kAppD_e, kAppD2_e, w_appD, $ls,*])
section
open PySem PySem.Spec L2 DM
theorem cmul_l {i j : Int} (h : -(2 ^ 64) < i) (h2 : i < 2 ^ 64) : CMul i j ∨ CMulW i j := .inl (.inl ⟨h, h2⟩)
theorem cmul_r {i j : Int} (h : -(2 ^ 64) < j) (h2 : j < 2 ^ 64) : CMul i j ∨ CMulW i j := .inl (.inr ⟨h, h2⟩)
theorem cdiv {i j : Int} (h : 0 < j) (h2 : j < 2 ^ 64) : CDivW i j := by
  refine ⟨h, ?_⟩
  have : j.natAbs < 2 ^ 64 := by omega
  have := (Nat.log2_lt (by omega)).mpr this
  omega
theorem cpow {i j : Int} (h : 0 ≤ j) (h2 : j ≤ 1000000) (h3 : -(2 ^ 64) < i) (h4 : i < 2 ^ 64) : CPow i j := ⟨h, h2, by omega⟩
def Bag (S : Store) (b : Nat) (n : Nat) : Prop := ∃ (c : Nat) (cells : List Int) (at_ left : Int), S[b]? = some (.lst [.loc c, .int at_, .int left]) ∧ S[c]? = some (.lst (cells.map .int)) ∧ b ≠ c ∧ 0 ≤ at_ ∧ at_ ≤ n ∧ 0 ≤ left

def Same (b : Nat) (S S' : Store) : Prop := S'.length = S.length ∧ ∀ j, j ≠ b → S'[j]? = S[j]?
theorem same_set {b : Nat} {S : Store} {o : O} : Same b S (S.set b o) := ⟨List.length_set, fun j h => List.getElem?_set_ne (Ne.symm h)⟩

theorem Same.trans {b : Nat} {S S1 S2 : Store} (h : Same b S S1) (k : Same b S1 S2) : Same b S S2 := ⟨k.1.trans h.1, fun j z => (k.2 j z).trans (h.2 j z)⟩
theorem Same.refl (b : Nat) (S : Store) : Same b S S := ⟨rfl, fun _ _ => rfl⟩
theorem Bag.mono {S : Store} {b n k : Nat} (h : Bag S b n) (hk : n ≤ k) : Bag S b k := by
  obtain ⟨c, cells, a, l, h1, h2, h3, h4, h5, h6⟩ := h
  exact ⟨c, cells, a, l, h1, h2, h3, h4, by omega, h6⟩
theorem Bag.lt {S : Store} {b n : Nat} (h : Bag S b n) : b < S.length := by
  obtain ⟨c, cells, a, l, h1, h2, h3, h4, h5, h6⟩ := h
  exact (List.getElem?_eq_some_iff.mp h1).1
theorem Bag.push {S : Store} {b n : Nat} (h : Bag S b n) (o : O) : Bag (S ++ [o]) b n := by
  obtain ⟨c, cells, a, l, h1, h2, h3, h4, h5, h6⟩ := h
  exact ⟨c, cells, a, l, st_old h1, st_old h2, h3, h4, h5, h6⟩
theorem pick3 {a b c v : Int} (h0 : 0 ≤ v) (h2 : v < 3) : ∃ q, atI [D.int a, D.int b, D.int c] v = some (.int q) ∧ (q = a ∨ q = b ∨ q = c) := by
  have : v = 0 ∨ v = 1 ∨ v = 2 := by omega
  rcases this with rfl | rfl | rfl
  · exact ⟨a, atI_0, .inl rfl⟩
  · exact ⟨b, atI_1, .inr (.inl rfl)⟩
  · exact ⟨c, atI_2, .inr (.inr rfl)⟩
theorem law_of {m : MF} {ns : List Int} (h : WR (okR (m [.d (.scr ns)] [])) (fun r _ => r = .d (.bl true)) XF) : ∃ S', m [.d (.scr ns)] [] = .ok (.d (.bl true)) S' := by
  cases e : m [.d (.scr ns)] [] with
  | ok a S =>
    rw [e] at h
    cases a with
    | d x => exact ⟨S, by rw [(h : RV.d x = _)]⟩
    | l p x =>
      cases p with
      | true => exact absurd (h : RV.l true x = _) (by intro z; cases z)
      | false => exact h.elim
  | ex c p S => rw [e] at h; exact h.elim
  | bad => rw [e] at h; exact h.elim
def IsBox (m : Int) (d : D) : Prop := ∃ x : Int, d = .int x ∧ 0 ≤ x ∧ x < m
theorem boxes_of {m : Int} : ∀ {ds : List D}, (∀ d ∈ ds, IsBox m d) → ∃ row : List Int, ds = row.map .int ∧ row.length = ds.length ∧ ∀ x ∈ row, 0 ≤ x ∧ x < m
  | [], _ => ⟨[], rfl, rfl, fun _ h => (nomatch h)⟩
  | d :: ds, h => by
    obtain ⟨row, e, hl, hr⟩ := boxes_of fun d hd => h d (List.mem_cons_of_mem _ hd)
    obtain ⟨x, rfl, h1, h2⟩ := h d List.mem_cons_self
    exact ⟨x :: row, by rw [e]; rfl, by simp [hl], fun y hy => by
      rcases List.mem_cons.mp hy with rfl | hy
      · exact ⟨h1, h2⟩
      · exact hr y hy⟩
def RowOk (m : Int) (u : Nat) (row : List Int) : Prop := row.length = u ∧ ∀ x ∈ row, 0 ≤ x ∧ x < m
end

section
open PySem PySem.Spec L2 DM
end

section
open PySem PySem.Spec L2 DM
def Plain : Nat → D → Prop
  | 0, _ => False
  | n + 1, .tup ds => ds.length ≤ sizeLine ∧ ∀ d ∈ ds, Plain n d
  | _ + 1, .non => True
  | _ + 1, .bl _ => True
  | _ + 1, .int _ => True
  | _ + 1, .str x => PyData.canLay0 (.str x) = true
  | _ + 1, _ => False
theorem eq_ss_self {S : Store} {x : Str} (h : PyData.canLay0 (.str x) = true) : eqF S (.d (.str x)) (.d (.str x)) = some (.d (.bl true)) := by
  have e : eqF S (.d (.str x)) (.d (.str x)) = if SeqAt.shaped (.str x) = true ∧ SeqAt.shaped (.str x) = true then some (OV.d (D.bl (PyData.eqv (.str x) (.str x)))) else none := rfl
  have sh : SeqAt.shaped (.str x) = true := by
    unfold SeqAt.shaped
    rw [h]
    simp [PyData.depth]
  rw [e, if_pos ⟨sh, sh⟩]
  have : PyData.eqv (.str x) (.str x) = true := by simp [PyData.eqv]
  rw [this]
theorem zipD_get {xs ys : List D} {i : Nat} {p : D} (h : (zipD xs ys)[i]? = some p) : ∃ x y, p = .tup [x, y] ∧ xs[i]? = some x ∧ ys[i]? = some y := by
  unfold zipD at h
  rw [List.getElem?_zipWith] at h
  cases e1 : xs[i]? with
  | none => rw [e1] at h; simp at h
  | some x =>
    cases e2 : ys[i]? with
    | none => rw [e1, e2] at h; simp at h
    | some y => rw [e1, e2] at h; simp at h; exact ⟨x, y, h.symm, rfl, rfl⟩
theorem zipD_len {xs ys : List D} : (zipD xs ys).length = min xs.length ys.length := by simp [zipD]
theorem map_true_all {T : Type} {l : List T} : (l.map fun _ => true).all id = true := by simp
theorem same_items {S : Store} {es : DM.Env} {ds : List D} {m : MF} {Q : RV → Store → Prop} {X : QX} {a b : Slot} {ck : Store → Prop} (hck : ck S) (hl : ds.length ≤ sizeLine) (he : es = [a, b, .no, .no])
    (ih : ∀ d ∈ ds, m [.d d, .d d] S = .ok (.d (.bl true)) S) (fin : Q (.l true (ds.map fun _ => .bl true)) S) :
    kComp (tgTup 2 (tgCons (tgName 2) (tgCons (tgName 3) tgNil))) bYes (eCall m [(eVar 2), (eVar 3)]) [2, 3] es Q X (zipD ds ds, ck) S := by
  subst he
  refine comp_map (fun _ => .bl true) (by rw [zipD_len]; omega) hck (fun i p hp => ?_) ?_
  · obtain ⟨x, y, rfl, h1, h2⟩ := zipD_get hp
    rw [h1] at h2
    cases h2
    refine ⟨_, rfl, ?_⟩
    walk_at "w"
    rw [ih x (List.mem_of_getElem? h1)]
    walk_at "w"
  · have : (zipD ds ds).map (fun _ => D.bl true) = ds.map fun _ => D.bl true := by
      apply List.ext_getElem
      · simp [zipD_len]
      · intros; simp
    rw [this]
    exact fin
theorem blsOf_true {ds : List D} : blsOf (ds.map fun _ => D.bl true) = some (ds.map fun _ => true) := by
  have e : (ds.map fun _ => D.bl true) = (ds.map fun _ => true).map D.bl := by simp
  rw [e, blsOf_map]
def cnt (m : Nat) (row : List Int) : List Int := (List.range m).map fun (j : Nat) => ((row.count (j : Int) : Nat) : Int)
theorem le_line {n : Nat} (h : n ≤ 16777216) : n ≤ sizeLine := h
def c2 (n : Int) : Int := n * (n - 1) / 2
end

section
open PySem PySem.Spec L2 DM
theorem mapM_some {f : D → Option PyData} : ∀ {ds : List D} {R : PyData → Prop}, (∀ d ∈ ds, ∃ p, f d = some p ∧ R p) → ∃ ps, ds.mapM f = some ps ∧ ∀ p ∈ ps, R p
  | [], _, _ => ⟨[], rfl, fun _ h => (nomatch h)⟩
  | d :: ds, R, h => by
    obtain ⟨p, e, r⟩ := h d List.mem_cons_self
    obtain ⟨ps, e2, r2⟩ := mapM_some (R := R) fun d hd => h d (List.mem_cons_of_mem _ hd)
    refine ⟨p :: ps, ?_, fun q hq => ?_⟩
    · rw [List.mapM_cons, e, e2]; rfl
    · rcases List.mem_cons.mp hq with rfl | hq
      · exact r
      · exact r2 q hq
theorem lay_all : ∀ {ps : List PyData}, (∀ p ∈ ps, p.canLay0 = true) → PyData.canLayAll0 ps = true
  | [], _ => rfl
  | p :: ps, h => by
    show (p.canLay0 && PyData.canLayAll0 ps) = true
    rw [h p List.mem_cons_self, lay_all fun q hq => h q (List.mem_cons_of_mem _ hq)]
    rfl
theorem depth_all {k : Nat} : ∀ {ps : List PyData}, (∀ p ∈ ps, p.depth ≤ k) → PyData.depthAll ps ≤ k
  | [], _ => Nat.zero_le _
  | p :: ps, h => by
    show max p.depth (PyData.depthAll ps) ≤ k
    exact Nat.max_le.mpr ⟨h p List.mem_cons_self, depth_all fun q hq => h q (List.mem_cons_of_mem _ hq)⟩
theorem plain_py {S : Store} : ∀ (k n : Nat) (d : D), Plain k d → k ≤ n → ∃ p, pyD n S d = some p ∧ p.canLay0 = true ∧ p.depth ≤ k
  | 0, _, _, h, _ => h.elim
  | k + 1, 0, _, _, h => absurd h (by omega)
  | k + 1, n + 1, .non, _, _ => ⟨.none, rfl, rfl, Nat.zero_le _⟩
  | k + 1, n + 1, .bl b, _, _ => ⟨.bool b, rfl, rfl, Nat.zero_le _⟩
  | k + 1, n + 1, .int i, _, _ => ⟨.int i, rfl, rfl, Nat.zero_le _⟩
  | k + 1, n + 1, .str x, h, _ => ⟨.str x, rfl, h, Nat.zero_le _⟩
  | k + 1, n + 1, .tup ds, h, hn => by
    obtain ⟨ps, e, r⟩ := mapM_some (f := pyD n S) (ds := ds) (R := fun p => p.canLay0 = true ∧ p.depth ≤ k) fun d hd => by
      obtain ⟨p, e, h1, h2⟩ := plain_py k n d (h.2 d hd) (by omega)
      exact ⟨p, e, h1, h2⟩
    refine ⟨.tuple ps, ?_, ?_, ?_⟩
    · show (ds.mapM (pyD n S)).map PyData.tuple = _
      rw [e]; rfl
    · show PyData.canLayAll0 ps = true
      exact lay_all fun p hp => (r p hp).1
    · have := depth_all fun p hp => (r p hp).2
      show PyData.depthAll ps + 1 ≤ k + 1
      omega
theorem eq_self {S : Store} {k : Nat} {d : D} (h : Plain k d) (hk : k ≤ 60) : eqF S (.d d) (.d d) = some (.d (.bl true)) ∧ neF S (.d d) (.d d) = some (.d (.bl false)) := by
  obtain ⟨p, e, h1, h2⟩ := plain_py (S := S) k 64 d h (by omega)
  have sh : SeqAt.shaped p = true := by
    unfold SeqAt.shaped
    rw [h1]
    exact decide_eq_true (by omega)
  have er : PyData.eqv p p = true := SeqAt.eqv_refl p h1
  have e' : pyR S (.d d) = some p := e
  constructor
  · unfold eqF
    rw [e']
    show (if SeqAt.shaped p = true ∧ SeqAt.shaped p = true then _ else _) = _
    rw [if_pos ⟨sh, sh⟩, er]
  · unfold neF
    rw [e']
    show (if SeqAt.shaped p = true ∧ SeqAt.shaped p = true then _ else _) = _
    rw [if_pos ⟨sh, sh⟩, er]
    rfl
theorem Plain.mono : ∀ {k n : Nat} {d : D}, Plain k d → k ≤ n → Plain n d
  | 0, _, _, h, _ => h.elim
  | k + 1, 0, _, _, hn => absurd hn (by omega)
  | k + 1, n + 1, .tup ds, h, hn => ⟨h.1, fun d hd => Plain.mono (h.2 d hd) (by omega)⟩
  | k + 1, n + 1, .non, _, _ => trivial
  | k + 1, n + 1, .bl _, _, _ => trivial
  | k + 1, n + 1, .int _, _, _ => trivial
  | k + 1, n + 1, .str _, h, _ => h
  | k + 1, n + 1, .loc _, h, _ => h.elim
  | k + 1, n + 1, .ty _, h, _ => h.elim
  | k + 1, n + 1, .cls _, h, _ => h.elim
  | k + 1, n + 1, .fn _, h, _ => h.elim
  | k + 1, n + 1, .exn _ _, h, _ => h.elim
  | k + 1, n + 1, .scr _, h, _ => h.elim
end

section
open PySem PySem.Spec L2 DM
def kindS (c : Nat) : Str := match c with
  | 1 => "few"
  | 2 => "many"
  | 3 => "prime"
  | 4 => "thing"
  | 5 => "row"
  | _ => "text"
end

section
open PySem PySem.Spec L2 DM
end

section
open PySem PySem.Spec L2 DM
end

section
open PySem PySem.Spec L2 DM
end

section
open PySem PySem.Spec L2 DM
end

section
open PySem PySem.Spec L2 DM
def dealt (m x : Nat) : List Int := (List.range m).map fun (j : Nat) => ((x / m : Nat) : Int) + if j < x % m then 1 else 0
end

section
open PySem PySem.Spec L2 DM
abbrev rowL (s : List Int) : D := .tup (s.map .int)
abbrev bookD (m : Int) (rows : List (List Int)) : D := .tup [.int m, .tup (rows.map rowL)]
structure BookOk (m : Int) (u : Nat) (rows : List (List Int)) : Prop where
  ne : rows ≠ []
  ok : ∀ r ∈ rows, RowOk m u r
end

section
open PySem PySem.Spec L2 DM
end

section
open PySem PySem.Spec L2 DM
local macro_rules | `(tactic| walk_at "s") => `(tactic| (repeat (refine ⟨by (first | exact le_line (by omega) | exact cmul_l (by omega) (by omega) | exact cmul_r (by omega) (by omega) | exact cdiv (by omega) (by omega) | omega | decide), ?_⟩)))
def Ext (S S' : Store) : Prop := S.length ≤ S'.length ∧ ∀ j, j < S.length → S'[j]? = S[j]?
theorem Ext.refl (S : Store) : Ext S S := ⟨Nat.le_refl _, fun _ _ => rfl⟩
theorem Ext.trans {S S1 S2 : Store} (h : Ext S S1) (k : Ext S1 S2) : Ext S S2 := ⟨Nat.le_trans h.1 k.1, fun j hj => (k.2 j (Nat.lt_of_lt_of_le hj h.1)).trans (h.2 j hj)⟩
theorem Ext.push {S : Store} {o : O} : Ext S (S ++ [o]) := ⟨by simp, fun j hj => by rw [List.getElem?_append_left hj]⟩
theorem Ext.set {S S' : Store} {l : Nat} {x : O} (h : Ext S S') (hl : S.length ≤ l) : Ext S (S'.set l x) := ⟨by rw [List.length_set]; exact h.1, fun j hj => by rw [List.getElem?_set_ne (by omega)]; exact h.2 j hj⟩
theorem Ext.get {S S' : Store} {j : Nat} {o : O} (h : Ext S S') (e : S[j]? = some o) : S'[j]? = some o := (h.2 j (List.getElem?_eq_some_iff.mp e).1).trans e
theorem Bag.ext {S S' : Store} {b n : Nat} (h : Bag S b n) (e : Ext S S') : Bag S' b n := by
  obtain ⟨c, cells, a, l, h1, h2, h3, h4, h5, h6⟩ := h
  exact ⟨c, cells, a, l, e.get h1, e.get h2, h3, h4, h5, h6⟩
theorem Same.ext {b : Nat} {S S' : Store} (h : Same b S S') (T : Store) : True := trivial
end

section
open PySem PySem.Spec L2 DM
local macro_rules | `(tactic| walk_at "s") => `(tactic| (repeat (refine ⟨by (first | exact le_line (by omega) | exact cmul_l (by omega) (by omega) | exact cmul_r (by omega) (by omega) | exact cdiv (by omega) (by omega) | omega | decide), ?_⟩)))
section
variable {α : Type} {l : List α} {F : α → D} {ck : Store → Prop} {g : MG} {t : MB} {m : ME} {vs : List Nat} {es : DM.Env} {S : Store} {Q : RV → Store → Prop} {X : QX}
theorem comp_fil (p : α → Bool) (f : α → D) (hl : l.length ≤ sizeLine) (hck : ck S)
    (step : ∀ (i : Nat) a, l[i]? = some a → ∃ es1, g (F a) (wipeE es vs) = some es1 ∧ WR (t es1 S) (fun y S1 => y = p a ∧ S1 = S) XF ∧ (p a = true → WR (m es1 S) (fun r S1 => r = .d (f a) ∧ S1 = S) XF))
    (fin : Q (.l true ((l.filter p).map f)) S) : kComp g t m vs es Q X (l.map F, ck) S := by
  refine comp_inv (fun i ys S1 => S1 = S ∧ ys = ((l.take i).filter p).map f) (by rw [List.length_map]; exact hl) ⟨rfl, by simp⟩ (fun i ys S1 h => h.1 ▸ hck) (fun i x ys S1 hx h => ?_) (fun ys S1 h => ?_)
  · obtain ⟨rfl, rfl⟩ := h
    rw [List.getElem?_map] at hx
    cases hz : l[i]? with
    | none => rw [hz] at hx; cases hx
    | some a =>
      rw [hz] at hx
      cases hx
      obtain ⟨es1, e1, ht, hm⟩ := step i a hz
      have tk : l.take (i + 1) = l.take i ++ [a] := by rw [List.take_succ, hz]; rfl
      refine ⟨es1, e1, WR_mono ht (fun y S2 h => ?_) fun _ _ _ h => h⟩
      obtain ⟨rfl, rfl⟩ := h
      refine ⟨fun hp => WR_mono (hm hp) (fun r S3 h => ?_) (fun _ _ _ h => h), fun hp => ⟨rfl, ?_⟩⟩
      · obtain ⟨rfl, rfl⟩ := h
        refine ⟨rfl, ?_⟩
        rw [tk, List.filter_append, List.map_append]
        simp [hp]
      · rw [tk, List.filter_append, List.map_append]
        simp [hp]
  · obtain ⟨rfl, rfl⟩ := h
    rw [List.length_map, List.take_length]
    exact fin
theorem comp_all (f : α → D) (hl : l.length ≤ sizeLine) (hck : ck S)
    (step : ∀ (i : Nat) a, l[i]? = some a → ∃ es1, g (F a) (wipeE es vs) = some es1 ∧ WR (m es1 S) (fun r S1 => r = .d (f a) ∧ S1 = S) XF)
    (fin : Q (.l true (l.map f)) S) : kComp g bYes m vs es Q X (l.map F, ck) S :=
  comp_fil (fun _ => true) f hl hck (fun i x hx => let ⟨es1, e1, h⟩ := step i x hx; ⟨es1, e1, ⟨rfl, rfl⟩, fun _ => h⟩) (by rw [List.filter_eq_self.mpr (fun _ _ => rfl)]; exact fin)
end
def at_ (r : List Int) (x : Int) : Int := r.getD x.toNat 0
theorem row_atI {r : List Int} {x : Int} (h0 : 0 ≤ x) (h : x < r.length) : atI (r.map D.int) x = some (.int (at_ r x)) := by
  rw [atI_map, atI_int h0 h]
  unfold at_
  rw [List.getD_eq_getElem?_getD, List.getElem?_eq_getElem (by omega)]
  rfl
theorem pickL {l : List Int} {v : Int} (h0 : 0 ≤ v) (h : v < l.length) : ∃ q, atI (l.map D.int) v = some (.int q) ∧ q ∈ l := by
  obtain ⟨a, e, m, _⟩ := atI_get h0 h
  exact ⟨a, by rw [atI_map, e]; rfl, m⟩
end

section
open PySem PySem.Spec L2 DM
local macro_rules | `(tactic| walk_at "s") => `(tactic| (repeat (refine ⟨by (first | exact le_line (by omega) | exact cmul_l (by omega) (by omega) | exact cmul_r (by omega) (by omega) | exact cdiv (by omega) (by omega) | omega | decide), ?_⟩)))
theorem whole_int {S : Store} {i : Int} : m_is_whole [.d (.int i)] S = .ok (.d (.bl true)) S := by
  refine eq_of (fun_w ?_)
  unfold mb_is_whole
  walk_at "w"
theorem BookOk.cons {m : Int} {u : Nat} {rows : List (List Int)} (h : BookOk m u rows) : ∃ r rs, rows = r :: rs ∧ RowOk m u r := by
  cases rows with
  | nil => exact (h.ne rfl).elim
  | cons r rs => exact ⟨r, rs, rfl, h.ok r List.mem_cons_self⟩
theorem things_of_w {m : Int} {u : Nat} {rows : List (List Int)} {S : Store} (h : BookOk m u rows) : m_things_of [.d (bookD m rows)] S = .ok (.d (.int u)) S := by
  obtain ⟨r, rs, rfl, hr⟩ := h.cons
  refine eq_of (fun_w ?_)
  unfold mb_things_of
  walk_at "w"
  rw [List.length_map, hr.1]
abbrev pairD (q : Int × Int) : D := .tup [.int q.1, .int q.2]
end

section
open PySem PySem.Spec L2 DM
local macro_rules | `(tactic| walk_at "s") => `(tactic| (repeat (refine ⟨by (first | exact le_line (by omega) | exact cmul_l (by omega) (by omega) | exact cmul_r (by omega) (by omega) | exact cdiv (by omega) (by omega) | omega | decide), ?_⟩)))
theorem pow_pos' {m : Int} (h : 1 ≤ m) (k : Nat) : 1 ≤ m ^ k := by
  have := Int.pow_pos (n := m) (m := k) (by omega)
  omega
structure ManyOk (m u : Int) (n : Nat) : Prop where
  pos : 1 ≤ n
  up : u ≤ m ^ n
  low : n = 1 ∨ m ^ (n - 1) < u
theorem pow_mono {m : Int} (m1 : 1 ≤ m) {a b : Nat} (h : a ≤ b) : m ^ a ≤ m ^ b := by
  obtain ⟨c, rfl⟩ : ∃ c, b = a + c := ⟨b - a, by omega⟩
  rw [Int.pow_add]
  have h1 := pow_pos' m1 a
  have h2 := pow_pos' m1 c
  have := Int.mul_le_mul_of_nonneg_left (c := m ^ a) h2 (by omega)
  omega
theorem ManyOk.le {m u : Int} {a b : Nat} (m1 : 1 ≤ m) (ha : ManyOk m u a) (hb : ManyOk m u b) : a ≤ b := by
  rcases Nat.lt_or_ge b a with z | z
  · rcases ha.low with w | w
    · have := hb.pos
      omega
    · have := pow_mono m1 (show b ≤ a - 1 by omega)
      have := hb.up
      omega
  · exact z
theorem ManyOk.eq {m u : Int} {a b : Nat} (m1 : 1 ≤ m) (ha : ManyOk m u a) (hb : ManyOk m u b) : a = b := Nat.le_antisymm (ha.le m1 hb) (hb.le m1 ha)
theorem plain_book {m : Int} {u : Nat} {rows : List (List Int)} (h : ∀ r ∈ rows, r.length ≤ 16777216) (hl : rows.length ≤ 16777216) : Plain 5 (bookD m rows) := by
  refine ⟨le_line (by simp), fun d hd => ?_⟩
  rcases List.mem_cons.mp hd with rfl | hd
  · exact trivial
  · cases List.mem_singleton.mp hd
    refine ⟨by rw [List.length_map]; exact le_line hl, fun d hd => ?_⟩
    obtain ⟨s, hs, rfl⟩ := List.mem_map.mp hd
    refine ⟨by rw [List.length_map]; exact le_line (h s hs), fun d hd => ?_⟩
    obtain ⟨x, _, rfl⟩ := List.mem_map.mp hd
    exact trivial
theorem BookOk.plain {m : Int} {u : Nat} {rows : List (List Int)} (h : BookOk m u rows) (hu : u ≤ 16777216) (hl : rows.length ≤ 16777216) : Plain 5 (bookD m rows) :=
  plain_book (u := u) (fun r hr => by rw [(h.ok r hr).1]; exact hu) hl
end

section
open PySem PySem.Spec L2 DM
end

section
open PySem PySem.Spec L2 DM
end

section
open PySem PySem.Spec L2 DM
local macro_rules | `(tactic| walk_at "s") => `(tactic| (repeat (refine ⟨by (first | exact le_line (by omega) | exact cmul_l (by omega) (by omega) | exact cmul_r (by omega) (by omega) | exact cdiv (by omega) (by omega) | omega | decide), ?_⟩)))
end

section
open PySem PySem.Spec L2 DM
end

section
open PySem PySem.Spec L2 DM
local macro_rules | `(tactic| walk_at "s") => `(tactic| (repeat (refine ⟨by (first | exact le_line (by omega) | exact cmul_l (by omega) (by omega) | exact cmul_r (by omega) (by omega) | exact cdiv (by omega) (by omega) | omega | decide), ?_⟩)))
end

section
open PySem PySem.Spec L2 DM
theorem cut_to {T : Type} {xs : List T} {i : Int} (h0 : 0 ≤ i) : cutL xs none (some i) = xs.take i.toNat := by
  unfold cutL HT.sIx
  have : ¬ i < 0 := by omega
  simp only [this, if_false, List.drop_zero, Nat.sub_zero]
  rcases Nat.le_total i.toNat xs.length with z | z
  · rw [Nat.min_eq_left z]
  · rw [Nat.min_eq_right z, List.take_of_length_le (Nat.le_refl _), List.take_of_length_le z]
theorem cut_from {T : Type} {xs : List T} {i : Int} (h0 : 0 ≤ i) : cutL xs (some i) none = xs.drop i.toNat := by
  unfold cutL HT.sIx
  have : ¬ i < 0 := by omega
  simp only [this, if_false]
  rcases Nat.le_total i.toNat xs.length with z | z
  · rw [Nat.min_eq_left z, List.take_of_length_le (by rw [List.length_drop]; omega)]
  · rw [Nat.min_eq_right z, List.drop_of_length_le (Nat.le_refl _), List.drop_of_length_le z]
    simp
theorem pyR_tints {S : Store} {xs : List Int} : pyR S (.d (.tup (xs.map .int))) = some (.tuple (xs.map PyData.int)) := by
  show ((xs.map D.int).mapM (pyD 63 S)).map PyData.tuple = _
  have : (xs.map D.int).mapM (pyD 63 S) = some (xs.map PyData.int) := by
    induction xs with
    | nil => rfl
    | cons x xs ih => rw [List.map_cons, List.mapM_cons, ih]; rfl
  rw [this]; rfl
theorem shaped_tints {xs : List Int} : SeqAt.shaped (.tuple (xs.map PyData.int)) = true := by
  have h1 : PyData.canLay0 (.tuple (xs.map PyData.int)) = true := lay_all fun p hp => by obtain ⟨x, _, rfl⟩ := List.mem_map.mp hp; rfl
  have h2 : PyData.depth (.tuple (xs.map PyData.int)) ≤ 1 := by
    have := depth_all (k := 0) (ps := xs.map PyData.int) fun p hp => by obtain ⟨x, _, rfl⟩ := List.mem_map.mp hp; exact Nat.le_refl _
    show PyData.depthAll _ + 1 ≤ 1
    omega
  unfold SeqAt.shaped
  rw [h1]
  exact decide_eq_true (by omega)
theorem any_ints {xs : List Int} {v : Int} : ((xs.map PyData.int).any fun z => PyData.eqv z (.int v)) = decide (v ∈ xs) := by
  induction xs with
  | nil => rfl
  | cons x xs ih =>
    rw [List.map_cons, List.any_cons, ih]
    have : PyData.eqv (.int x) (.int v) = decide (x = v) := by simp [PyData.eqv]; rfl
    rw [this]
    by_cases z : x = v
    · subst z; simp
    · have z2 : ¬ v = x := fun w => z w.symm
      simp [z, z2]
theorem inD_ints {S : Store} {xs : List Int} {v : Int} : inD S (.d (.int v)) (.d (.tup (xs.map .int))) = some (decide (v ∈ xs)) := by
  have e2 : pyR S (.d (.int v)) = some (.int v) := rfl
  have e1 : inD S (.d (.int v)) (.d (.tup (xs.map .int))) = match pyR S (.d (.int v)), pyR S (.d (.tup (xs.map .int))) with
    | some p, some q => inAny p q
    | _, _ => none := rfl
  rw [e1, pyR_tints, e2]
  show (if SeqAt.shaped (.int v) = true ∧ SeqAt.shaped (.tuple (xs.map PyData.int)) = true then _ else _) = _
  rw [if_pos ⟨rfl, shaped_tints⟩, any_ints]
theorem notin_ints {S : Store} {xs : List Int} {v : Int} : notinF S (.d (.int v)) (.d (.tup (xs.map .int))) = some (.d (.bl (!decide (v ∈ xs)))) := by
  unfold notinF
  rw [inD_ints]
  rfl
end

section
open PySem PySem.Spec L2 DM
theorem cdivG {i j : Int} (h : 0 < j) (h2 : j < 2 ^ 200) : CDivW i j := by
  refine ⟨h, ?_⟩
  have : j.natAbs < 2 ^ 200 := by omega
  have := (Nat.log2_lt (by omega)).mpr this
  omega
theorem gprime_w (at_ : Int) : ∃ p : Int, 2147483479 < p ∧ p ≤ 2147483647 ∧ ∀ S : Store, m_l_gprime [.d (.int at_)] S = .ok (.d (.int p)) S := by
  have h9 : ∃ p : Int, 2147483479 < p ∧ p ≤ 2147483647 ∧ atI [D.int 2147483647, D.int 2147483629, D.int 2147483587, D.int 2147483579, D.int 2147483563, D.int 2147483549, D.int 2147483543, D.int 2147483497, D.int 2147483489] (at_ % 9) = some (.int p) := by
    have hb : at_ % 9 = 0 ∨ at_ % 9 = 1 ∨ at_ % 9 = 2 ∨ at_ % 9 = 3 ∨ at_ % 9 = 4 ∨ at_ % 9 = 5 ∨ at_ % 9 = 6 ∨ at_ % 9 = 7 ∨ at_ % 9 = 8 := by omega
    rcases hb with h | h | h | h | h | h | h | h | h <;> rw [h] <;> exact ⟨_, by decide, by decide, rfl⟩
  obtain ⟨p, h1, h2, h3⟩ := h9
  refine ⟨p, h1, h2, fun S => eq_of (fun_w ?_)⟩
  unfold mb_l_gprime
  walk_at "w"
  simp! only [List.cons_append, List.nil_append, h3]
  exact ⟨by decide, by decide, by decide, by decide⟩
def BagC (S : Store) (b c n : Nat) : Prop := ∃ (cells : List Int) (at_ left : Int), S[b]? = some (.lst [.loc c, .int at_, .int left]) ∧ S[c]? = some (.lst (cells.map .int)) ∧ b ≠ c ∧ 0 ≤ at_ ∧ at_ ≤ n ∧ 0 ≤ left
theorem BagC.mono {S : Store} {b c n k : Nat} (h : BagC S b c n) (hk : n ≤ k) : BagC S b c k := by
  obtain ⟨cells, a, l, h1, h2, h3, h4, h5, h6⟩ := h
  exact ⟨cells, a, l, h1, h2, h3, h4, by omega, h6⟩
theorem BagC.lt {S : Store} {b c n : Nat} (h : BagC S b c n) : b < S.length ∧ c < S.length := by
  obtain ⟨cells, a, l, h1, h2, h3, h4, h5, h6⟩ := h
  exact ⟨(List.getElem?_eq_some_iff.mp h1).1, (List.getElem?_eq_some_iff.mp h2).1⟩
theorem BagC.ext {S S' : Store} {b c n : Nat} (h : BagC S b c n) (e : Ext S S') : BagC S' b c n := by
  obtain ⟨cells, a, l, h1, h2, h3, h4, h5, h6⟩ := h
  exact ⟨cells, a, l, e.get h1, e.get h2, h3, h4, h5, h6⟩
theorem BagC.set {S : Store} {b c n i : Nat} {o : O} (h : BagC S b c n) (hb : i ≠ b) (hc : i ≠ c) : BagC (S.set i o) b c n := by
  obtain ⟨cells, a, l, h1, h2, h3, h4, h5, h6⟩ := h
  exact ⟨cells, a, l, by rw [List.getElem?_set_ne hb]; exact h1, by rw [List.getElem?_set_ne hc]; exact h2, h3, h4, h5, h6⟩
theorem gfresh_c {S : Store} {b c n : Nat} {Q : RV → Store → Prop} {X : QX} (h : BagC S b c n) (hn : n < 10^9) (k : ∀ v (cells : List Int) (at_ left : Int), 0 ≤ v → S[c]? = some (.lst (cells.map .int)) → b ≠ c → 0 ≤ at_ → at_ ≤ n + 1 → 0 ≤ left → Q (.d (.int v)) (S.set b (.lst [.loc c, .int at_, .int left]))) : WR (okR (m_l_gfresh [.d (.loc b)] S)) Q X := by
  obtain ⟨cells, at_, left, hb, hc, ne, h1, h2, h3⟩ := h
  have e1 := fun x => st_self hb x
  have e2 := fun x => (st_ne ne x).trans hc
  obtain ⟨p1, q1, q2, q3⟩ := gprime_w at_
  obtain ⟨p2, q4, q5, q6⟩ := gprime_w (at_ + 4)
  obtain ⟨p3, q7, q8, q9⟩ := gprime_w (at_ + 7)
  refine fun_w ?_
  unfold mb_l_gfresh
  simp! only [w_cut, w_ecut, hb, hc, e1, e2, List.set_set]
  have tail : ∀ z : Int, WS (sSeq (sSet 3 (eOp2 modF (eOp2 powF (eOp2 addF (eOp2 addF (eOp2 mulF (eOp2 modF (eVar 2) (eC (.int 2147483477))) (eOp2 addF (eVar 1) (eC (.int 1)))) (eOp2 mulF (eC (.int 104729)) (eVar 1))) (eC (.int 17))) (eC (.int 5))) (eCall m_l_gprime [(eVar 1)])))
    (sSeq (sSet 4 (eOp2 modF (eOp2 powF (eOp2 addF (eOp2 addF (eOp2 mulF (eVar 3) (eOp2 addF (eVar 1) (eC (.int 3)))) (eOp2 modF (eVar 2) (eC (.int 65537)))) (eC (.int 1))) (eC (.int 3))) (eCall m_l_gprime [(eOp2 addF (eVar 1) (eC (.int 4)))])))
    (sSeq (sSet 5 (eOp2 modF (eOp2 addF (eOp2 mulF (eVar 4) (eVar 4)) (eVar 3)) (eCall m_l_gprime [(eOp2 addF (eVar 1) (eC (.int 7)))])))
    (sRet (eOp2 addF (eOp2 mulF (eOp2 addF (eOp2 mulF (eVar 5) (eC (.int 2147483647))) (eVar 4)) (eC (.int 2147483629))) (eVar 3))))) [Slot.v (D.loc b), Slot.v (D.int at_), Slot.v (D.int z), Slot.no, Slot.no, Slot.no] (List.set S b (O.lst [D.loc c, D.int (at_ + 1), D.int left]))) (EnF Q X) := by
    intro z
    have c1 : 0 ≤ z % 2147483477 ∧ z % 2147483477 < 2147483477 ∧ 0 ≤ z % 65537 ∧ z % 65537 < 65537 := by omega
    have m1 : 0 ≤ z % 2147483477 * (at_ + 1) ∧ z % 2147483477 * (at_ + 1) ≤ 2147483477 * 1000000001 := ⟨Int.mul_nonneg c1.1 (by omega), Int.mul_le_mul (by omega) (by omega) (by omega) (by omega)⟩
    have hp1 : 0 < p1 := by omega
    have r1 : ∀ y : Int, 0 ≤ y % p1 ∧ y % p1 < 2147483647 := fun y => ⟨Int.emod_nonneg _ (by omega), by have := Int.emod_lt_of_pos y hp1; omega⟩
    have r2 : ∀ y : Int, 0 ≤ y % p2 ∧ y % p2 < 2147483647 := fun y => ⟨Int.emod_nonneg _ (by omega), by have := Int.emod_lt_of_pos y (show 0 < p2 by omega); omega⟩
    have r3 : ∀ y : Int, 0 ≤ y % p3 ∧ y % p3 < 2147483647 := fun y => ⟨Int.emod_nonneg _ (by omega), by have := Int.emod_lt_of_pos y (show 0 < p3 by omega); omega⟩
    simp! only [q3, q6, q9]
    have end_ : ∀ a : Int, 0 ≤ a ∧ a < 2147483647 → ∀ d : Int, 0 ≤ d ∧ d < 2147483647 → ∀ e : Int, 0 ≤ e ∧ e < 2147483647 → 0 ≤ (e * 2147483647 + d) * 2147483629 + a := by intro a ha d hd e he; omega
    refine ⟨by decide, cmul_r (by omega) (by omega), cmul_l (by decide) (by decide), cpow (by decide) (by decide) (by omega) (by omega), by omega, ?_⟩
    generalize (z % 2147483477 * (at_ + 1) + 104729 * at_ + 17) ^ Int.toNat 5 = y1
    have g1 := r1 y1
    generalize y1 % p1 = a1 at g1 ⊢
    have m2 : 0 ≤ a1 * (at_ + 3) ∧ a1 * (at_ + 3) ≤ 2147483647 * 1000000003 := ⟨Int.mul_nonneg g1.1 (by omega), Int.mul_le_mul (by omega) (by omega) (by omega) (by omega)⟩
    refine ⟨cmul_l (by omega) (by omega), by decide, cpow (by decide) (by decide) (by omega) (by omega), by omega, ?_⟩
    generalize (a1 * (at_ + 3) + z % 65537 + 1) ^ Int.toNat 3 = y2
    have g2 := r2 y2
    generalize y2 % p2 = a2 at g2 ⊢
    refine ⟨cmul_l (by omega) (by omega), by omega, cmul_r (by decide) (by decide), cmul_r (by decide) (by decide), ?_⟩
    generalize a2 * a2 + a1 = y3
    exact k _ cells _ _ (end_ _ g1 _ g2 _ (r3 y3)) hc ne (by omega) (by omega) h3
  have big : ∀ z : Int, z ≥ 10 ^ Int.toNat 18 → 0 ≤ z := fun z h => by
    have e : (10 : Int) ^ Int.toNat 18 = 1000000000000000000 := by decide
    rw [e] at h
    omega
  refine ⟨cmul_l (by decide) (by decide), ?_⟩
  refine kIf_br (fun hl => ?_) (fun hl => ?_)
  · have hl2 : at_ < ((cells.map D.int).length : Int) := of_decide_eq_true hl
    obtain ⟨a, e, _⟩ := atI_get (l := cells.map D.int) (i := at_) h1 hl2
    obtain ⟨y, ey⟩ : ∃ y, atI (cells.map D.int) at_ = some (.int y) := by
      rw [atI_map] at e ⊢
      cases z : atI cells at_ with
      | none => rw [z] at e; cases e
      | some y => exact ⟨y, rfl⟩
    simp! only [w_cut, w_ecut, hb, hc, e1, e2, ey, List.set_set]
    refine kAnd_br (fun h => ?_) (fun h => ?_)
    · simp! only [w_cut, w_ecut, hb, hc, e1, e2, List.set_set]
      refine ⟨cpow (by decide) (by decide) (by decide) (by decide), ?_⟩
      refine kIf_br (fun h => ?_) (fun h => ?_)
      · have := big y (of_decide_eq_true h)
        simp! only [w_cut, w_ecut]
        exact k y cells _ _ this hc ne (by omega) (by omega) h3
      · simp only [w_cut, w_ecut, kIf_f, w_nop]
        exact tail y
    · simp only [kIf_f]
      exact tail y
  · have hl2 : ¬ at_ < ((cells.map D.int).length : Int) := of_decide_eq_false hl
    simp! only [w_cut, w_ecut, hb, hc, e1, e2, List.set_set]
    refine kIf_br (fun hp => ?_) (fun hp => ?_)
    · have hp : 0 < ((cells.map D.int).length : Int) := of_decide_eq_true hp
      obtain ⟨a, e, _⟩ := atI_get (l := cells.map D.int) (i := at_ % ↑(cells.map D.int).length) (Int.emod_nonneg _ (by omega)) (Int.emod_lt_of_pos _ hp)
      obtain ⟨y, ey⟩ : ∃ y, atI (cells.map D.int) (at_ % ↑(cells.map D.int).length) = some (.int y) := by
        rw [atI_map] at e ⊢
        cases z : atI cells (at_ % ↑(cells.map D.int).length) with
        | none => rw [z] at e; cases e
        | some y => exact ⟨y, rfl⟩
      simp! only [w_cut, w_ecut, hb, hc, e1, e2, ey, List.set_set]
      have hy : 0 ≤ y % 1000003 ∧ y % 1000003 < 1000003 := by omega
      refine ⟨hp, by decide, cmul_l (by omega) (by omega), ?_⟩
      have g := tail (y % 1000003 * (at_ + 1) + at_)
      simp only [w_cut, w_ecut, QV_v, QV_own, QV_bor, QI_d, QI_l, QO_d, QO_l, QO_ite, QO_A, QA_s, w_C, w_var, kA2_e, kB2_dd, kB2_ld, kB2_dl, kB2_ll, w_op2, kA1_d, w_op1, kArg_e, kArg2_d, kArg2_l, w_args0, w_args, kOpN_e, w_opN, kIt_e, kIt2_e, kIt3_e, w_items0, w_items, kTup_e, kLst_e, w_tup, w_lst, kB_e, w_bOf, kAnd_t, kAnd_f, kOr_t, kOr_f, kNot_e, w_bAnd, w_bOr, w_bNot, w_bYes, kEAnd_t, kEAnd_f, kEOr_t, kEOr_f, kENot_e, w_eAnd, w_eOr, w_eNot, kEIf_t, kEIf_f, w_eIf, kCall_e, w_call, okR_d, okR_l, okR_ex, kPart2_e, w_part0, w_part, kSl3_d, kSl3_l, kSl2_e, kSl_e, w_sl, kCh_e, kCh1_e, kCh2_t, kCh2_f, w_chain, seq_nx, seq_rt, seq_bk, seq_ct, seq_ex, kX_e, w_seq, w_nop, w_brk, w_cnt, kIf_t, kIf_f, w_if, kRet_d, kRet_l, w_ret, w_retN, QRV_v, QRV_own, w_retV, kDrop_e, w_drop, kSet_d, kSet_l, w_set, kSetS_d, kSetS_l, w_setS, QMv_e, w_move, QG_e, tg_name, tg_tup, tg_tup1, tg_tup2, tg_tup3, tg_tup4, tg_nil, tg_cons, ob_some, kAsg_d, w_asg, kPar_e, w_par, kSixN_e, kSixL_e, QSt_e, kSixO_e, kSixT_e, QSix_o, QSix_l, kSix_d, kSix_l, w_setix, kAppO_d, kAppO_l, QAppT_e, kAppT_d, kAppT_l, QApp_o, QApp_l, w_app, kExtO_l, QExt_o, QS_t, QS_l, QSL_e, QQ_b, QQ_v, w_qVar, kQE_l, kQE_d, w_qE, kQC_l, kQC_d, w_qC, kSeq_e, w_miSeq, kRev_e, w_miRev, kEnum_e, w_miEnum, kZip_e, kZip2_e, w_miZip, kR1_e, w_miRng1, kR2_e, kR3_e, rngD_len, rngD2_len, chk_t, chk_p, chk_s, isT_t, isT_p, isT_s, w_for, lp_nx, lp_rt, lp_bk, lp_ct, lp_ex, frzS_e, frzQ_o, frzQ_v, frzQ_b, frzQ_n, unfS_e, unfQ_o, unfQ_v, unfQ_b, unfQ_n, unf_nx, unf_rt, unf_bk, unf_ct, unf_ex, w_frz, w_comp, EnF_nx, EnF_d, EnF_l, EnF_ex, slot_d, slot_f, add_ii, add_ss, add_tt, add_ll, sub_ii, mul_ii, mul_li, div_ii, mod_ii, pow_ii, shl_ii, shr_ii, lt_ii, le_ii, gt_ii, ge_ii, neg_i, and_ii, or_ii, xor_ii, is_n, isnt_n, isNon_n, isNon_b, isNon_i, isNon_s, isNon_t, isNon_o, isNon_l, isNon_e, lstO_e, lstOf_l, lstOf_o, om_some, ix_t, ix_s, ix_l, ix_o, len_s, len_t, len_l, len_o, sum_l, all_l, any_l, max_ii, min_ii, max_l, min_l, tup_t, tup_l, tup_o, list_t, list_l, list_o, int_i, int_b, str_i, sl_t, sl_l, sl_s, eq_ii, ne_ii, eq_bb, ne_bb, isi_non_int, isi_non_bool, isi_non_str, isi_non_tuple, isi_non_list, isi_non_tl, isi_bl_int, isi_bl_bool, isi_bl_str, isi_bl_tuple, isi_bl_list, isi_bl_tl, isi_int_int, isi_int_bool, isi_int_str, isi_int_tuple, isi_int_list, isi_int_tl, isi_str_int, isi_str_bool, isi_str_str, isi_str_tuple, isi_str_list, isi_str_tl, isi_tup_int, isi_tup_bool, isi_tup_str, isi_tup_tuple, isi_tup_list, isi_tup_tl, isi_l_int, isi_l_bool, isi_l_str, isi_l_tuple, isi_l_list, isi_l_tl, ixN_00, ixN_1, ixN_2, ixN_3, atI_0, atI_1, atI_2, atI_3, intsOf_map, blsOf_map, List.set_cons_zero, List.set_cons_succ, List.getElem?_cons_zero, List.getElem?_cons_succ, List.replicate_succ, List.replicate_zero, List.length_cons, List.length_nil, Nat.zero_add, Nat.add_zero, Nat.reduceAdd, Nat.reduceSub, Nat.reduceLT, Nat.reduceLeDiff, Option.some.injEq, true_and, and_true, List.map_cons, List.map_nil, decide_true, decide_false, Bool.not_true, Bool.not_false, wipeE, QO_gd, startE_1, startE_2, startE_3, startE_4, fb_nx, fl_nx, fl_ct, fl_bk, fl_rt, fl_ex, cut_nx, cut_rt, cut_bk, cut_ct, cut_ex, w_raise, tr_nx, tr_rt, tr_bk, tr_ct, tr_ex, w_try, QCL_e, w_callL, kMt2_e, kMt_l, kMt_s, kMt_o, w_mt, if_true, QXT_e, kExtT_l, kExtT_d, QExt2_o, QExt2_l, exo_e, w_ext2, w_rng2, w_rng3, isB_bb, isntB_bb, beq_self_eq_true, w_ins0, QIns_o, kInsO_d, w_revE, kRevE_l, w_miEnumA, kEnumA_e, w_popAt, kPop_e, kPop2_e, sorted_e, divmod_e, w_lenSet, kLenSet_l, kRevA_l, kRevA_t, kRevA_o, w_revA, kZipM_e, kZipM2_e, w_miZipM, kAppD_e, kAppD2_e, w_appD, hb, hc, e1, e2, List.set_set, hl2, decide_false, kAnd_f, kIf_f] at g ⊢
      exact g
    · have g := tail (7 * at_ + 3)
      simp only [w_cut, w_ecut, QV_v, QV_own, QV_bor, QI_d, QI_l, QO_d, QO_l, QO_ite, QO_A, QA_s, w_C, w_var, kA2_e, kB2_dd, kB2_ld, kB2_dl, kB2_ll, w_op2, kA1_d, w_op1, kArg_e, kArg2_d, kArg2_l, w_args0, w_args, kOpN_e, w_opN, kIt_e, kIt2_e, kIt3_e, w_items0, w_items, kTup_e, kLst_e, w_tup, w_lst, kB_e, w_bOf, kAnd_t, kAnd_f, kOr_t, kOr_f, kNot_e, w_bAnd, w_bOr, w_bNot, w_bYes, kEAnd_t, kEAnd_f, kEOr_t, kEOr_f, kENot_e, w_eAnd, w_eOr, w_eNot, kEIf_t, kEIf_f, w_eIf, kCall_e, w_call, okR_d, okR_l, okR_ex, kPart2_e, w_part0, w_part, kSl3_d, kSl3_l, kSl2_e, kSl_e, w_sl, kCh_e, kCh1_e, kCh2_t, kCh2_f, w_chain, seq_nx, seq_rt, seq_bk, seq_ct, seq_ex, kX_e, w_seq, w_nop, w_brk, w_cnt, kIf_t, kIf_f, w_if, kRet_d, kRet_l, w_ret, w_retN, QRV_v, QRV_own, w_retV, kDrop_e, w_drop, kSet_d, kSet_l, w_set, kSetS_d, kSetS_l, w_setS, QMv_e, w_move, QG_e, tg_name, tg_tup, tg_tup1, tg_tup2, tg_tup3, tg_tup4, tg_nil, tg_cons, ob_some, kAsg_d, w_asg, kPar_e, w_par, kSixN_e, kSixL_e, QSt_e, kSixO_e, kSixT_e, QSix_o, QSix_l, kSix_d, kSix_l, w_setix, kAppO_d, kAppO_l, QAppT_e, kAppT_d, kAppT_l, QApp_o, QApp_l, w_app, kExtO_l, QExt_o, QS_t, QS_l, QSL_e, QQ_b, QQ_v, w_qVar, kQE_l, kQE_d, w_qE, kQC_l, kQC_d, w_qC, kSeq_e, w_miSeq, kRev_e, w_miRev, kEnum_e, w_miEnum, kZip_e, kZip2_e, w_miZip, kR1_e, w_miRng1, kR2_e, kR3_e, rngD_len, rngD2_len, chk_t, chk_p, chk_s, isT_t, isT_p, isT_s, w_for, lp_nx, lp_rt, lp_bk, lp_ct, lp_ex, frzS_e, frzQ_o, frzQ_v, frzQ_b, frzQ_n, unfS_e, unfQ_o, unfQ_v, unfQ_b, unfQ_n, unf_nx, unf_rt, unf_bk, unf_ct, unf_ex, w_frz, w_comp, EnF_nx, EnF_d, EnF_l, EnF_ex, slot_d, slot_f, add_ii, add_ss, add_tt, add_ll, sub_ii, mul_ii, mul_li, div_ii, mod_ii, pow_ii, shl_ii, shr_ii, lt_ii, le_ii, gt_ii, ge_ii, neg_i, and_ii, or_ii, xor_ii, is_n, isnt_n, isNon_n, isNon_b, isNon_i, isNon_s, isNon_t, isNon_o, isNon_l, isNon_e, lstO_e, lstOf_l, lstOf_o, om_some, ix_t, ix_s, ix_l, ix_o, len_s, len_t, len_l, len_o, sum_l, all_l, any_l, max_ii, min_ii, max_l, min_l, tup_t, tup_l, tup_o, list_t, list_l, list_o, int_i, int_b, str_i, sl_t, sl_l, sl_s, eq_ii, ne_ii, eq_bb, ne_bb, isi_non_int, isi_non_bool, isi_non_str, isi_non_tuple, isi_non_list, isi_non_tl, isi_bl_int, isi_bl_bool, isi_bl_str, isi_bl_tuple, isi_bl_list, isi_bl_tl, isi_int_int, isi_int_bool, isi_int_str, isi_int_tuple, isi_int_list, isi_int_tl, isi_str_int, isi_str_bool, isi_str_str, isi_str_tuple, isi_str_list, isi_str_tl, isi_tup_int, isi_tup_bool, isi_tup_str, isi_tup_tuple, isi_tup_list, isi_tup_tl, isi_l_int, isi_l_bool, isi_l_str, isi_l_tuple, isi_l_list, isi_l_tl, ixN_00, ixN_1, ixN_2, ixN_3, atI_0, atI_1, atI_2, atI_3, intsOf_map, blsOf_map, List.set_cons_zero, List.set_cons_succ, List.getElem?_cons_zero, List.getElem?_cons_succ, List.replicate_succ, List.replicate_zero, List.length_cons, List.length_nil, Nat.zero_add, Nat.add_zero, Nat.reduceAdd, Nat.reduceSub, Nat.reduceLT, Nat.reduceLeDiff, Option.some.injEq, true_and, and_true, List.map_cons, List.map_nil, decide_true, decide_false, Bool.not_true, Bool.not_false, wipeE, QO_gd, startE_1, startE_2, startE_3, startE_4, fb_nx, fl_nx, fl_ct, fl_bk, fl_rt, fl_ex, cut_nx, cut_rt, cut_bk, cut_ct, cut_ex, w_raise, tr_nx, tr_rt, tr_bk, tr_ct, tr_ex, w_try, QCL_e, w_callL, kMt2_e, kMt_l, kMt_s, kMt_o, w_mt, if_true, QXT_e, kExtT_l, kExtT_d, QExt2_o, QExt2_l, exo_e, w_ext2, w_rng2, w_rng3, isB_bb, isntB_bb, beq_self_eq_true, w_ins0, QIns_o, kInsO_d, w_revE, kRevE_l, w_miEnumA, kEnumA_e, w_popAt, kPop_e, kPop2_e, sorted_e, divmod_e, w_lenSet, kLenSet_l, kRevA_l, kRevA_t, kRevA_o, w_revA, kZipM_e, kZipM2_e, w_miZipM, kAppD_e, kAppD2_e, w_appD, hb, hc, e1, e2, List.set_set, hl2, decide_false, kAnd_f, kIf_f] at g ⊢
      exact g
theorem gdraw_c {S : Store} {b c n : Nat} {many : Int} {Q : RV → Store → Prop} {X : QX} (h : BagC S b c n) (hn : n < 10^9) (h0 : 0 < many) (hm : many < 2^200) (k : ∀ v S', 0 ≤ v → v < many → BagC S' b c (n+1) → Same b S S' → Q (.d (.int v)) S') : WR (okR (m_l_gdraw [.d (.loc b), .d (.int many)] S)) Q X := by
  have h' := h
  obtain ⟨cells, at_, left, hb, hc, ne, h1, h2, h3⟩ := h
  have e1 := fun x => st_self hb x
  have e2 := fun x => (st_ne ne x).trans hc
  have fin : ∀ (cells : List Int) (a l : Int), S[c]? = some (.lst (cells.map .int)) → b ≠ c → 0 ≤ a → a ≤ (n : Int) + 1 → 0 ≤ l → 0 < many ∧ CDivW l many ∧ Q (.d (.int (l % many))) (S.set b (.lst [.loc c, .int a, .int (l / many)])) := fun cells a l hc ne ha ha2 hl =>
    ⟨h0, cdivG h0 hm, k _ _ (Int.emod_nonneg _ (by omega)) (Int.emod_lt_of_pos _ h0) ⟨cells, a, l / many, e1 _, (st_ne ne _).trans hc, ne, ha, by omega, Int.ediv_nonneg hl (by omega)⟩ same_set⟩
  refine fun_w ?_
  unfold mb_l_gdraw
  simp! only [w_cut, w_ecut, hb, hc, e1, e2, List.set_set]
  refine kIf_br (fun hl => ?_) (fun hl => ?_)
  · simp! only [w_cut, w_ecut, hb, hc, e1, e2, List.set_set]
    refine gfresh_c h' hn fun v cells2 a2 l2 v0 hc2 ne2 ha ha2 hl2 => ?_
    simp! only [w_cut, w_ecut, hb, hc, e1, e2, List.set_set]
    exact fin cells2 a2 v hc2 ne2 ha ha2 v0
  · simp! only [w_cut, w_ecut, hb, hc, e1, e2, List.set_set]
    exact fin cells at_ left hc ne h1 (by omega) h3
theorem draws_c {S0 : Store} {b c n u m vs : Nat} {es : DM.Env} {e : ME} {Q : RV → Store → Prop} {X : QX} {P : D → Prop} (hb : BagC S0 b c n) (hn : n + u * m < 10 ^ 9) (hu : u ≤ sizeLine)
    (step : ∀ (j : Nat) (S : Store) (q : Nat), j < u → q + m < 10 ^ 9 → BagC S b c q → Same b S0 S → WR (e ((wipeE es [vs]).set vs (.v (.int j))) S) (fun r S1 => ∃ x, r = .d x ∧ P x ∧ BagC S1 b c (q + m) ∧ Same b S S1) XF)
    (fin : ∀ (ds : List D) S, ds.length = u → (∀ d ∈ ds, P d) → BagC S b c (n + u * m) → Same b S0 S → Q (.l true ds) S) : kComp (tgName vs) bYes e [vs] es Q X (rngD u, fun _ => True) S0 := by
  refine comp_inv (fun j ys S => ys.length = j ∧ (∀ d ∈ ys, P d) ∧ BagC S b c (n + j * m) ∧ Same b S0 S) (by rw [rngD_len]; exact hu) ⟨rfl, fun _ h => (nomatch h), by simpa using hb, Same.refl _ _⟩ (fun _ _ _ _ => trivial) (fun j x ys S hx h => ?_) (fun ys S h => ?_)
  · obtain ⟨rfl, hj⟩ := rngD_get hx
    obtain ⟨h1, h2, h3, h4⟩ := h
    refine ⟨_, rfl, ?_⟩
    refine ⟨fun _ => WR_mono (step j S (n + j * m) hj ?_ h3 h4) (fun r S1 h => ?_) fun _ _ _ h => h, fun h => by cases h⟩
    · have : (j + 1) * m ≤ u * m := Nat.mul_le_mul_right _ hj
      rw [Nat.succ_mul] at this
      omega
    · obtain ⟨x, rfl, px, b1, s1⟩ := h
      refine ⟨by simp [h1], fun d hd => ?_, ?_, h4.trans s1⟩
      · rcases List.mem_append.mp hd with hd | hd
        · exact h2 d hd
        · cases List.mem_singleton.mp hd; exact px
      · rw [Nat.succ_mul, ← Nat.add_assoc]; exact b1
  · rw [rngD_len] at h
    exact fin ys S h.1 h.2.1 h.2.2.1 h.2.2.2
end

section
open PySem PySem.Spec L2 DM
theorem gbook_c {S : Store} {b c n : Nat} (N : Nat) {bx th rs : Int} {Q : RV → Store → Prop} {X : QX} (h : BagC S b c n) (hb0 : 0 < bx) (hb : bx < 2 ^ 39) (ht0 : 0 < th) (ht : th ≤ 10000) (hr0 : 0 < rs) (hr : rs ≤ 10000) (hN : rs.toNat * (th.toNat + 10) ≤ N) (hn : n + 20 + N < 10 ^ 9)
    (k : ∀ (m : Int) (u : Nat) rows S', 1 ≤ m → m ≤ bx → 1 ≤ u → (u : Int) ≤ th → (rows.length : Int) ≤ rs → BookOk m u rows → BagC S' b c (n + 20 + N) → Same b S S' → Q (.d (bookD m rows)) S') :
    WR (okR (m_l_gbook [.d (.loc b), .d (.int bx), .d (.int th), .d (.int rs)] S)) Q X := by
  obtain ⟨K, hK⟩ : ∃ K, K = th.toNat + 10 := ⟨_, rfl⟩
  rw [← hK] at hN
  have hrK : rs.toNat * K ≤ 10 ^ 9 := by omega
  refine fun_w ?_
  unfold mb_l_gbook
  walk_at "w"
  refine gdraw_c h (by omega) hb0 (by omega) fun m0 S1 m00 m0b b1 s1 => ?_
  walk_at "w"
  refine gdraw_c b1 (by omega) ht0 (by omega) fun u0 S2 u00 u0t b2 s2 => ?_
  walk_at "w"
  refine ⟨by decide, ?_⟩
  refine gdraw_c b2 (by omega) (by decide) (by decide) fun way S3 way0 way5 b3 s3 => ?_
  walk_at "w"
  refine ⟨le_line (by omega), ?_⟩
  refine gdraw_c b3 (by omega) hr0 (by omega) fun r0 S4 r00 r0r b4 s4 => ?_
  walk_at "w"
  refine ⟨⟨by omega, by omega⟩, ?_⟩
  obtain ⟨u, hu⟩ : ∃ u : Nat, (u : Int) = 1 + u0 := ⟨(1 + u0).toNat, by omega⟩
  obtain ⟨m, hm⟩ : ∃ m : Int, m = 1 + m0 := ⟨_, rfl⟩
  rw [← hu, ← hm]
  have modI : ∀ z : Int, IsBox m (.int (z % m)) := fun z => ⟨_, rfl, Int.emod_nonneg _ (by omega), Int.emod_lt_of_pos _ (by omega)⟩
  refine for_inv (fun i es S' => (∃ (rows : List (List Int)) (s8 s9 s10 s11 s12 : DM.Slot), es = [.v (.loc b), .v (.int bx), .v (.int th), .v (.int rs), .v (.int m), .v (.int u), .v (.int way), .own (rows.map rowL), s8, s9, s10, s11, s12] ∧ rows.length = i ∧ ∀ r ∈ rows, RowOk m u r) ∧ BagC S' b c (n + 10 + i * K) ∧ Same b S4 S') ⟨⟨[], _, _, _, _, _, rfl, rfl, fun _ h => nomatch h⟩, b4.mono (by omega), Same.refl _ _⟩ (fun _ _ _ _ => trivial) (fun i x es S' hx h => ?_) (fun es S' h => ?_)
  · obtain ⟨rfl, hi⟩ := rngD_get hx
    obtain ⟨⟨rows, s8, s9, s10, s11, s12, rfl, hl, hrows⟩, b5, s5⟩ := h
    refine ⟨_, rfl, ?_⟩
    have hl0 := hl
    have hi2 : i < 10000 := by omega
    have hmK : i * K + K ≤ rs.toNat * K := by
      have := Nat.mul_le_mul_right K (show i + 1 ≤ rs.toNat by omega)
      rw [Nat.succ_mul] at this
      exact this
    walk_at "w"
    refine gdraw_c b5 (by omega) (by decide) (by decide) fun a S6 a0 a10 b6 s6 => ?_
    walk_at "w"
    refine gdraw_c b6 (by omega) (by decide) (by decide) fun bb S7 bb0 bb11 b7 s7 => ?_
    walk_at "w"
    refine ⟨le_line (by omega), ⟨by omega, by omega⟩, ?_⟩
    rw [Int.toNat_natCast]
    refine draws_c (m := 1) (P := IsBox m) b7 (by omega) (by unfold sizeLine; omega) (fun j S8 q hj hq b8 s8' => ?_) (fun ds S8 hl8 hd8 b8 s8' => ?_)
    · walk_at "w"
      have h3 : 0 ≤ way % 3 ∧ way % 3 < 3 := by omega
      obtain ⟨v, ev, hv⟩ := pick3 (a := m) (b := if 2 < m then 2 else m) (c := m) h3.1 h3.2
      simp! only [ev]
      have hvm : 0 < v ∧ v ≤ m := by
        rcases hv with rfl | rfl | rfl
        · omega
        · split <;> omega
        · omega
      refine ⟨by decide, by decide, ?_⟩
      refine gdraw_c b8 (by omega) hvm.1 (by omega) fun y S9 y0 ym b9 s9 => ?_
      exact ⟨_, rfl, ⟨y, rfl, y0, by omega⟩, b9, s9⟩
    have mid : ∀ (es : DM.Env) (S9 : Store) (E : En), ((∃ (ds : List D) (s12 : DM.Slot), es = [.v (.loc b), .v (.int bx), .v (.int th), .v (.int rs), .v (.int m), .v (.int u), .v (.int way), .own (rows.map rowL), .v (.int (i : Int)), .v (.int (1 + a)), .v (.int bb), .own ds, s12] ∧ ds.length = u ∧ ∀ d ∈ ds, IsBox m d) ∧ S9 = S8) →
        (∀ (ds : List D) (s12 : DM.Slot), ds.length = u → (∀ d ∈ ds, IsBox m d) → WS (sApp 7 (eOpN tupF [(eVar 11)]) [.v (.loc b), .v (.int bx), .v (.int th), .v (.int rs), .v (.int m), .v (.int u), .v (.int way), .own (rows.map rowL), .v (.int (i : Int)), .v (.int (1 + a)), .v (.int bb), .own ds, s12] S8) E) →
        WS (sSeq (sCut (sIf (bAnd (bOf (eOp2 eqF (eVar 6) (eC (.int 4)))) (bAnd (bOf (eOp2 gtF (eVar 8) (eC (.int 0)))) (bOf (eOp2 ltF (eVar 9) (eC (.int 6)))))) (sSet 11 (eOpN listF [(eOp2 ixF (eVar 7) (eOp2 modF (eVar 10) (eVar 8)))])) sNop))
    (sApp 7 (eOpN tupF [(eVar 11)])) es S9) E := by
      intro es S9 E hP hE
      obtain ⟨⟨ds, s12, rfl, hl, hd⟩, rfl⟩ := hP
      walk_at "w"
      refine cut_seq (fun es S => (∃ (ds : List D) (s12 : DM.Slot), es = [.v (.loc b), .v (.int bx), .v (.int th), .v (.int rs), .v (.int m), .v (.int u), .v (.int way), .own (rows.map rowL), .v (.int (i : Int)), .v (.int (1 + a)), .v (.int bb), .own ds, s12] ∧ ds.length = u ∧ ∀ d ∈ ds, IsBox m d) ∧ S = S9) ?_ fun es1 S1' hP1 => ?_
      · walk_at "w"
        refine kAnd_br (fun z1 => ?_) (fun z1 => ?_)
        · walk_at "w"
          refine kAnd_br (fun z2 => ?_) (fun z2 => ?_)
          · have z2 : (0 : Int) < (i : Int) := of_decide_eq_true z2
            walk_at "w"
            refine kIf_br (fun z3 => ?_) (fun z3 => ?_)
            · have hb1 := Int.emod_nonneg bb (show (i : Int) ≠ 0 by omega)
              have hb2 : bb % (i : Int) < (rows.length : Int) := by rw [hl0]; exact Int.emod_lt_of_pos bb z2
              obtain ⟨r, er, hr, _⟩ := atI_get (l := rows) hb1 hb2
              have ea : atI (rows.map rowL) (bb % (i : Int)) = some (rowL r) := by rw [atI_map, er]; rfl
              simp! only [ea]
              exact ⟨z2, _, _, rfl, by rw [List.length_map]; exact (hrows r hr).1, fun d hd => by
                obtain ⟨x, hx, rfl⟩ := List.mem_map.mp hd
                exact ⟨x, rfl, (hrows r hr).2 x hx⟩⟩
            · walk_at "w"
              first | exact ⟨⟨_, _, rfl, hl, hd⟩, rfl⟩ | exact ⟨_, _, rfl, hl, hd⟩
          · walk_at "w"
            first | exact ⟨⟨_, _, rfl, hl, hd⟩, rfl⟩ | exact ⟨_, _, rfl, hl, hd⟩
        · walk_at "w"
          first | exact ⟨⟨_, _, rfl, hl, hd⟩, rfl⟩ | exact ⟨_, _, rfl, hl, hd⟩
      · obtain ⟨⟨ds1, s12', rfl, hl1, hd1⟩, rfl⟩ := hP1
        exact hE ds1 s12' hl1 hd1
    walk_at "w"
    refine cut_seq (fun es S => (∃ (ds : List D) (s12 : DM.Slot), es = [.v (.loc b), .v (.int bx), .v (.int th), .v (.int rs), .v (.int m), .v (.int u), .v (.int way), .own (rows.map rowL), .v (.int (i : Int)), .v (.int (1 + a)), .v (.int bb), .own ds, s12] ∧ ds.length = u ∧ ∀ d ∈ ds, IsBox m d) ∧ S = S8) ?_ fun es1 S1' hP1 => ?_
    · walk_at "w"
      refine kIf_br (fun z1 => ?_) (fun z1 => ?_)
      · walk_at "w"
        refine ⟨⟨by omega, by omega⟩, ?_⟩
        rw [Int.toNat_natCast]
        refine comp_inv (fun j ys S => ys.length = j ∧ (∀ d ∈ ys, IsBox m d) ∧ S = S8) (by rw [rngD_len]; unfold sizeLine; omega) ⟨rfl, fun _ h => (nomatch h), rfl⟩ (fun _ _ _ _ => trivial) (fun j x ys S hx h => ?_) (fun ys S h => ?_)
        · obtain ⟨rfl, hj⟩ := rngD_get hx
          obtain ⟨g1, g2, rfl⟩ := h
          refine ⟨_, rfl, ?_⟩
          walk_at "w"
          refine ⟨fun _ => ⟨cmul_l (by omega) (by omega), by decide, by omega, by simp [g1], fun d hd => ?_⟩, fun h => by cases h⟩
          rcases List.mem_append.mp hd with hd | hd
          · exact g2 d hd
          · cases List.mem_singleton.mp hd; exact modI _
        · obtain ⟨g1, g2, rfl⟩ := h
          rw [rngD_len] at g1
          walk_at "w"
          first | exact ⟨⟨_, _, rfl, g1, g2⟩, rfl⟩ | exact ⟨_, _, rfl, g1, g2⟩
      · walk_at "w"
        first | exact ⟨⟨_, _, rfl, hl8, hd8⟩, rfl⟩ | exact ⟨_, _, rfl, hl8, hd8⟩
    · refine mid es1 S1' _ hP1 fun ds1 s12' hl1 hd1 => ?_
      obtain ⟨row, er, hrl, hrb⟩ := boxes_of hd1
      subst er
      walk_at "w"
      have line : (rows.map rowL).length < sizeLine := by rw [List.length_map, hl]; unfold sizeLine; omega
      refine ⟨line, ⟨rows ++ [row], _, _, _, _, _, by rw [List.map_append]; rfl, by simp [hl], fun r hr' => ?_⟩, b8.mono ?_, (((s5.trans s6).trans s7).trans s8')⟩
      · rcases List.mem_append.mp hr' with hr' | hr'
        · exact hrows r hr'
        · cases List.mem_singleton.mp hr'; exact ⟨by omega, hrb⟩
      · rw [Nat.succ_mul]
        omega
  · obtain ⟨⟨rows, s8, s9, s10, s11, s12, rfl, hl, hrows⟩, b5, s5⟩ := h
    rw [rngD_len] at hl b5
    walk_at "w"
    refine ⟨le_line (by omega), ?_⟩
    refine k m u rows S' (by omega) (by omega) (by omega) (by omega) (by omega) ⟨fun z => ?_, hrows⟩ (b5.mono ?_) ((((s1.trans s2).trans s3).trans s4).trans s5)
    · rw [z] at hl
      simp at hl
      omega
    · have : (1 + r0).toNat * K ≤ rs.toNat * K := Nat.mul_le_mul_right _ (by omega)
      omega
end

section
open PySem PySem.Spec L2 DM
theorem gsame_self : ∀ (n : Nat) (x : D) (S : Store), Plain n x → m_l_gsame n [.d x, .d x] S = .ok (.d (.bl true)) S
  | 0, _, _, h => h.elim
  | n + 1, .non, S, _ => by
    refine eq_of (fun_w ?_)
    unfold mb_l_gsame
    walk_at "w"
    try trivial
  | n + 1, .bl b, S, _ => by
    refine eq_of (fun_w ?_)
    unfold mb_l_gsame
    walk_at "w"
    try (cases b <;> trivial)
  | n + 1, .int i, S, _ => by
    refine eq_of (fun_w ?_)
    unfold mb_l_gsame
    walk_at "w"
    try trivial
  | n + 1, .str x, S, h => by
    refine eq_of (fun_w ?_)
    unfold mb_l_gsame
    simp! only [eq_ss_self h]
    try trivial
  | n + 1, .tup ds, S, h => by
    refine eq_of (fun_w ?_)
    unfold mb_l_gsame
    simp! only [beq_self_eq_true]
    refine same_items trivial h.1 rfl (fun d hd => gsame_self n d S (h.2 d hd)) ?_
    simp! only [blsOf_true, map_true_all]
end

section
open PySem PySem.Spec L2 DM
theorem ints_py {S : Store} {n : Nat} : ∀ L : List Int, (L.map D.int).mapM (pyD (n + 1) S) = some (L.map PyData.int)
  | [] => rfl
  | q :: L => by
    rw [List.map_cons, List.mapM_cons, ints_py L]
    rfl
theorem ints_shaped (L : List Int) : SeqAt.shaped (.list (L.map PyData.int)) = true := by
  have h1 : PyData.canLay0 (.list (L.map PyData.int)) = true := lay_all fun p hp => by
    obtain ⟨q, _, rfl⟩ := List.mem_map.mp hp
    rfl
  have h2 : PyData.depth (.list (L.map PyData.int)) ≤ 1 := by
    have : PyData.depthAll (L.map PyData.int) ≤ 0 := depth_all fun p hp => by
      obtain ⟨q, _, rfl⟩ := List.mem_map.mp hp
      exact Nat.le_refl _
    show PyData.depthAll (L.map PyData.int) + 1 ≤ 1
    omega
  unfold SeqAt.shaped
  rw [h1]
  exact decide_eq_true (by omega)
theorem eq_nil {S : Store} {a b : Bool} {xs : List Int} : eqF S (.l a (xs.map .int)) (.l b []) = some (.d (.bl (decide (xs = [])))) := by
  have e1 : pyR S (.l a (xs.map .int)) = some (.list (xs.map PyData.int)) := by
    show ((xs.map D.int).mapM (pyD 64 S)).map PyData.list = _
    rw [ints_py]; rfl
  have e2 : pyR S (.l b []) = some (.list []) := rfl
  unfold eqF
  rw [e1, e2]
  show (if SeqAt.shaped (.list (xs.map PyData.int)) = true ∧ SeqAt.shaped (.list []) = true then _ else _) = _
  rw [if_pos ⟨ints_shaped xs, ints_shaped []⟩]
  cases xs with
  | nil => rfl
  | cons x r =>
    have : PyData.eqv (.list ((x :: r).map PyData.int)) (.list []) = false := by simp [PyData.eqv, PyData.eqvAll]
    rw [this, decide_eq_false (by simp)]
end

section
open PySem PySem.Spec L2 DM
def apartB (r some : List Int) : Bool := decide ((some.map (at_ r)).Nodup)
theorem atI_last {r : List Int} {z : Int} (h : r.getLast? = some z) : atI (r.map D.int) (-1) = some (.int z) := by
  have hne : r ≠ [] := fun e => by rw [e] at h; cases h
  have hl := List.length_pos_iff.mpr hne
  unfold L2.atI L2.ixN
  rw [if_neg (by omega), if_pos (by rw [List.length_map]; omega)]
  show (r.map D.int)[(-1 + ((r.map D.int).length : Int)).toNat]? = _
  have e : (-1 + ((r.map D.int).length : Int)).toNat = r.length - 1 := by rw [List.length_map]; omega
  rw [e, List.getElem?_map, ← List.getLast?_eq_getElem?, h]
  rfl
end

section
open PySem PySem.Spec L2 DM
end

section
open PySem PySem.Spec L2 DM
end

section
open PySem PySem.Spec L2 DM
end

section
def ch : Nat → Nat → Nat
  | _, 0 => 1
  | 0, _ + 1 => 0
  | n + 1, k + 1 => ch n k + ch n (k + 1)
end

section
open PySem PySem.Spec L2 DM
def okS (x : Str) : Prop := ∀ c ∈ x.cps.toList, c < 0x110000
theorem okS_ok {x : Str} (h : okS x) : PyData.strOk x = true := by
  unfold PyData.strOk
  rw [← Array.all_toList]
  exact List.all_eq_true.mpr fun c hc => decide_eq_true (h c hc)
theorem okS_of {x : Str} (h : PyData.strOk x = true) : okS x := by
  unfold PyData.strOk at h
  rw [← Array.all_toList] at h
  exact fun c hc => of_decide_eq_true (List.all_eq_true.mp h c hc)
theorem okS_app {x y : Str} (hx : okS x) (hy : okS y) : okS (x ++ y) := by
  intro c hc
  have e : (x ++ y).cps.toList = x.cps.toList ++ y.cps.toList := by
    show (x.cps ++ y.cps).toList = _
    exact Array.toList_append
  rw [e] at hc
  rcases List.mem_append.mp hc with h | h
  · exact hx c h
  · exact hy c h
theorem okS_str (s : String) : okS (Str.ofString s) := by
  intro c hc
  rw [Str.ofString_eq_toList] at hc
  have hc : c ∈ s.toList.map Char.toNat := hc
  obtain ⟨ch, _, rfl⟩ := List.mem_map.mp hc
  have := ch.valid
  have e : ch.toNat = ch.val.toNat := rfl
  rcases this with h | h
  · have : ch.val.toNat < 0xd800 := h
    omega
  · have : ch.val.toNat < 0x110000 := h.2
    omega
theorem okS_join : ∀ {ts : List Str}, (∀ t ∈ ts, okS t) → okS (Str.join ", " ts)
  | [], _ => fun _ h => nomatch h
  | [x], h => h x List.mem_cons_self
  | x :: y :: r, h => okS_app (okS_app (h x List.mem_cons_self) (okS_str ", ")) (okS_join fun t ht => h t (List.mem_cons_of_mem _ ht))
theorem okS_tuple {ts : List Str} (h : ∀ t ∈ ts, okS t) : okS (tupleText ts) := by
  unfold tupleText
  refine okS_app (okS_app (okS_str "(") (okS_join h)) ?_
  split
  · exact okS_str ",)"
  · exact okS_str ")"
theorem okS_from : ∀ {ts : List Str} {k : Nat} {acc : Str}, okS acc → (∀ t ∈ ts, okS t) → okS (textFrom k acc ts)
  | [], _, _, ha, _ => ha
  | t :: r, k, acc, ha, h => by
    refine okS_from (ts := r) (k := k + 1) ?_ fun t ht => h t (List.mem_cons_of_mem _ ht)
    refine okS_app (okS_app ha ?_) (h t List.mem_cons_self)
    split
    · exact okS_str ", "
    · exact okS_str ""
theorem okS_list {ts : List Str} (h : ∀ t ∈ ts, okS t) : okS (listText ts) := okS_app (okS_from (okS_str "[") h) (okS_str "]")
theorem len_str (s : String) : (Str.ofString s).length = s.length := by
  rw [Str.ofString_eq_toList]
  show (s.toList.map Char.toNat).toArray.size = _
  rw [List.size_toArray, List.length_map, String.length_toList]
def Grow (b : Nat) (S S' : Store) : Prop := S.length ≤ S'.length ∧ ∀ j, j < S.length → j ≠ b → S'[j]? = S[j]?
theorem Grow.refl (b : Nat) (S : Store) : Grow b S S := ⟨Nat.le_refl _, fun _ _ _ => rfl⟩
theorem Grow.trans {b : Nat} {S S1 S2 : Store} (h : Grow b S S1) (k : Grow b S1 S2) : Grow b S S2 := ⟨Nat.le_trans h.1 k.1, fun j hj hb => (k.2 j (Nat.lt_of_lt_of_le hj h.1) hb).trans (h.2 j hj hb)⟩
theorem Grow.of_ext {b : Nat} {S S' : Store} (h : Ext S S') : Grow b S S' := ⟨h.1, fun j hj _ => h.2 j hj⟩
theorem Grow.of_same {b : Nat} {S S' : Store} (h : Same b S S') : Grow b S S' := ⟨Nat.le_of_eq h.1.symm, fun j _ hb => h.2 j hb⟩
theorem Grow.get {b : Nat} {S S' : Store} {j : Nat} {o : O} (h : Grow b S S') (e : S[j]? = some o) (hb : j ≠ b) : S'[j]? = some o := (h.2 j (List.getElem?_eq_some_iff.mp e).1 hb).trans e
theorem Grow.push {b : Nat} {S : Store} {o : O} : Grow b S (S ++ [o]) := .of_ext Ext.push
def AnyD (b : Nat) (S : Store) : Nat → D → Prop
  | 0, _ => False
  | _ + 1, .non => True
  | _ + 1, .bl _ => True
  | _ + 1, .int i => i.natAbs < 2 ^ 200
  | _ + 1, .str x => okS x ∧ okS (reprText x) ∧ (reprText x).length ≤ 200
  | n + 1, .tup ds => ds.length ≤ 150 ∧ ∀ d ∈ ds, AnyD b S n d
  | n + 1, .loc l => l ≠ b ∧ ∃ ds, S[l]? = some (.lst ds) ∧ ds.length ≤ 150 ∧ ∀ d ∈ ds, AnyD b S n d
  | _ + 1, _ => False
theorem AnyD.grow {b : Nat} {S S' : Store} (h : Grow b S S') : ∀ {n : Nat} {d : D}, AnyD b S n d → AnyD b S' n d
  | 0, _, z => z.elim
  | _ + 1, .non, _ => trivial
  | _ + 1, .bl _, _ => trivial
  | _ + 1, .int _, z => z
  | _ + 1, .str _, z => z
  | n + 1, .tup ds, z => ⟨z.1, fun d hd => AnyD.grow h (z.2 d hd)⟩
  | n + 1, .loc l, z => by
    obtain ⟨hb, ds, e, hl, hd⟩ := z
    exact ⟨hb, ds, h.get e hb, hl, fun d q => AnyD.grow h (hd d q)⟩
  | _ + 1, .ty _, z => z.elim
  | _ + 1, .cls _, z => z.elim
  | _ + 1, .fn _, z => z.elim
  | _ + 1, .exn _ _, z => z.elim
  | _ + 1, .scr _, z => z.elim
theorem AnyD.up {b : Nat} {S : Store} : ∀ {n m : Nat} {d : D}, AnyD b S n d → n ≤ m → AnyD b S m d
  | 0, _, _, z, _ => z.elim
  | _ + 1, 0, _, _, h => absurd h (by omega)
  | _ + 1, _ + 1, .non, _, _ => trivial
  | _ + 1, _ + 1, .bl _, _, _ => trivial
  | _ + 1, _ + 1, .int _, z, _ => z
  | _ + 1, _ + 1, .str _, z, _ => z
  | n + 1, m + 1, .tup ds, z, h => ⟨z.1, fun d hd => AnyD.up (z.2 d hd) (by omega)⟩
  | n + 1, m + 1, .loc l, z, h => by
    obtain ⟨hb, ds, e, hl, hd⟩ := z
    exact ⟨hb, ds, e, hl, fun d q => AnyD.up (hd d q) (by omega)⟩
  | _ + 1, _ + 1, .ty _, z, _ => z.elim
  | _ + 1, _ + 1, .cls _, z, _ => z.elim
  | _ + 1, _ + 1, .fn _, z, _ => z.elim
  | _ + 1, _ + 1, .exn _ _, z, _ => z.elim
  | _ + 1, _ + 1, .scr _, z, _ => z.elim
theorem mapM_ext {b : Nat} {S : Store} {f : Store → D → Option PyData} : ∀ {ds : List D} {R : PyData → Prop}, (∀ d ∈ ds, ∃ p, (∀ S', Grow b S S' → f S' d = some p) ∧ R p) → ∃ ps, (∀ S', Grow b S S' → ds.mapM (f S') = some ps) ∧ ps.length = ds.length ∧ ∀ p ∈ ps, R p
  | [], _, _ => ⟨[], fun _ _ => rfl, rfl, fun _ h => (nomatch h)⟩
  | d :: ds, R, h => by
    obtain ⟨p, e, r⟩ := h d List.mem_cons_self
    obtain ⟨ps, e2, hl, r2⟩ := mapM_ext (R := R) fun d hd => h d (List.mem_cons_of_mem _ hd)
    refine ⟨p :: ps, fun S' x => ?_, by simp [hl], fun q hq => ?_⟩
    · rw [List.mapM_cons, e S' x, e2 S' x]; rfl
    · rcases List.mem_cons.mp hq with rfl | hq
      · exact r
      · exact r2 q hq
theorem show_all : ∀ {ps : List PyData}, (∀ p ∈ ps, PyData.showable p = true) → PyData.showableAll ps = true
  | [], _ => rfl
  | p :: ps, h => by
    show (PyData.showable p && PyData.showableAll ps) = true
    rw [h p List.mem_cons_self, show_all fun q hq => h q (List.mem_cons_of_mem _ hq)]
    rfl
theorem shownAll_map : ∀ ps : List PyData, PyData.shownAll ps = ps.map PyData.shown
  | [] => rfl
  | p :: ps => by
    show PyData.shown p :: PyData.shownAll ps = _
    rw [shownAll_map ps]
    rfl
def bnd : Nat → Nat
  | 0 => 0
  | k + 1 => 150 * (bnd k + 2) + 303
theorem sum_bnd {B : Nat} : ∀ {ls : List Nat}, (∀ l ∈ ls, l ≤ B) → ls.sum ≤ ls.length * B
  | [], _ => by simp
  | l :: ls, h => by
    have h1 := h l List.mem_cons_self
    have h2 := sum_bnd (ls := ls) fun x hx => h x (List.mem_cons_of_mem _ hx)
    rw [List.sum_cons, List.length_cons, Nat.succ_mul]
    omega
theorem shown_len {k : Nat} {ps : List PyData} (hl : ps.length ≤ 150) (h : ∀ p ∈ ps, (PyData.shown p).length ≤ bnd k) : ((PyData.shownAll ps).map (·.length)).sum + 2 * (PyData.shownAll ps).length + 3 ≤ bnd (k + 1) := by
  rw [shownAll_map, List.length_map, List.map_map]
  have h1 := sum_bnd (B := bnd k) (ls := ps.map ((·.length) ∘ PyData.shown)) fun x hx => by
    obtain ⟨p, hp, rfl⟩ := List.mem_map.mp hx
    exact h p hp
  rw [List.length_map] at h1
  have h2 : ps.length * bnd k ≤ 150 * bnd k := Nat.mul_le_mul_right _ hl
  show _ ≤ 150 * (bnd k + 2) + 303
  omega
theorem any_py {b : Nat} {S : Store} : ∀ (k n : Nat) (d : D), AnyD b S k d → k ≤ n → ∃ p, (∀ S', Grow b S S' → pyD n S' d = some p) ∧ p.canLay0 = true ∧ p.depth ≤ k ∧ PyData.showable p = true ∧ okS (PyData.shown p) ∧ (PyData.shown p).length ≤ bnd k
  | 0, _, _, h, _ => h.elim
  | k + 1, 0, _, _, h => absurd h (by omega)
  | k + 1, n + 1, .non, _, _ => ⟨.none, fun _ _ => rfl, rfl, Nat.zero_le _, rfl, okS_str "None", by
    have : (PyData.shown .none).length = 4 := rfl
    unfold bnd
    omega⟩
  | k + 1, n + 1, .bl b, _, _ => ⟨.bool b, fun _ _ => rfl, rfl, Nat.zero_le _, rfl, by
    cases b
    · exact okS_str "False"
    · exact okS_str "True", by
    have : (PyData.shown (.bool b)).length ≤ 5 := by cases b <;> decide
    unfold bnd
    omega⟩
  | k + 1, n + 1, .int i, h, _ => ⟨.int i, fun _ _ => rfl, rfl, Nat.zero_le _, by
    have h : i.natAbs < 2 ^ 200 := h
    show decide (i.natAbs.log2 < 1920) = true
    refine decide_eq_true ?_
    by_cases z : i.natAbs = 0
    · rw [z]; decide
    · have := (Nat.log2_lt z).mpr h
      omega, okS_str (toString i), by
    have h : i.natAbs < 2 ^ 200 := h
    have h2 : i.natAbs.log2 < 200 := by
      by_cases z : i.natAbs = 0
      · rw [z]; decide
      · exact (Nat.log2_lt z).mpr h
    have := int_text_length_le (a := i) (k := 200) (by decide) h2
    have e : (PyData.shown (.int i)).length = (toString i).length := len_str _
    unfold bnd
    omega⟩
  | k + 1, n + 1, .str x, h, _ => ⟨.str x, fun _ _ => rfl, okS_ok h.1, Nat.zero_le _, rfl, h.2.1, by
    have : (PyData.shown (.str x)).length ≤ 200 := h.2.2
    unfold bnd
    omega⟩
  | k + 1, n + 1, .tup ds, h, hn => by
    obtain ⟨ps, e, hl, r⟩ := mapM_ext (b := b) (f := fun S' => pyD n S') (S := S) (ds := ds) (R := fun p => p.canLay0 = true ∧ p.depth ≤ k ∧ PyData.showable p = true ∧ okS (PyData.shown p) ∧ (PyData.shown p).length ≤ bnd k) fun d hd => any_py k n d (h.2 d hd) (by omega)
    have h1 : ps.length ≤ 150 := by rw [hl]; exact h.1
    refine ⟨.tuple ps, fun S' x => ?_, ?_, ?_, ?_, ?_, ?_⟩
    · show (ds.mapM (pyD n S')).map PyData.tuple = _
      rw [e S' x]; rfl
    · show PyData.canLayAll0 ps = true
      exact lay_all fun p hp => (r p hp).1
    · have := depth_all fun p hp => (r p hp).2.1
      show PyData.depthAll ps + 1 ≤ k + 1
      omega
    · exact show_all fun p hp => (r p hp).2.2.1
    · refine okS_tuple fun t ht => ?_
      rw [shownAll_map] at ht
      obtain ⟨p, hp, rfl⟩ := List.mem_map.mp ht
      exact (r p hp).2.2.2.1
    · exact Nat.le_trans (tupleText_len_le _) (shown_len h1 fun p hp => (r p hp).2.2.2.2)
  | k + 1, n + 1, .loc l, h, hn => by
    obtain ⟨hb, ds, el, hd1, hd⟩ := h
    obtain ⟨ps, e, hl, r⟩ := mapM_ext (b := b) (f := fun S' => pyD n S') (S := S) (ds := ds) (R := fun p => p.canLay0 = true ∧ p.depth ≤ k ∧ PyData.showable p = true ∧ okS (PyData.shown p) ∧ (PyData.shown p).length ≤ bnd k) fun d q => any_py k n d (hd d q) (by omega)
    have h1 : ps.length ≤ 150 := by rw [hl]; exact hd1
    refine ⟨.list ps, fun S' x => ?_, ?_, ?_, ?_, ?_, ?_⟩
    · show (match S'[l]? with
      | some (.lst ds) => (ds.mapM (pyD n S')).map PyData.list
      | _ => none) = _
      rw [x.get el hb]
      show (ds.mapM (pyD n S')).map PyData.list = _
      rw [e S' x]; rfl
    · show PyData.canLayAll0 ps = true
      exact lay_all fun p hp => (r p hp).1
    · have := depth_all fun p hp => (r p hp).2.1
      show PyData.depthAll ps + 1 ≤ k + 1
      omega
    · exact show_all fun p hp => (r p hp).2.2.1
    · refine okS_list fun t ht => ?_
      rw [shownAll_map] at ht
      obtain ⟨p, hp, rfl⟩ := List.mem_map.mp ht
      exact (r p hp).2.2.2.1
    · exact Nat.le_trans (listText_len_le _) (shown_len h1 fun p hp => (r p hp).2.2.2.2)
  | _ + 1, _ + 1, .ty _, z, _ => z.elim
  | _ + 1, _ + 1, .cls _, z, _ => z.elim
  | _ + 1, _ + 1, .fn _, z, _ => z.elim
  | _ + 1, _ + 1, .exn _ _, z, _ => z.elim
  | _ + 1, _ + 1, .scr _, z, _ => z.elim
theorem ne_ss_self {S : Store} {x : Str} (h : PyData.canLay0 (.str x) = true) : neF S (.d (.str x)) (.d (.str x)) = some (.d (.bl false)) := (eq_self (k := 1) (d := .str x) h (by decide)).2
end

section
open PySem PySem.Spec L2 DM
def isWh : D → Bool
  | .int _ => true
  | _ => false
def isBl : D → Bool
  | .bl _ => true
  | _ => false
def isTup : D → Bool
  | .tup _ => true
  | _ => false
theorem isi_loc {S : Store} {l : Nat} {ds : List D} {t : String} (h : S[l]? = some (.lst ds)) (ht : okKind t = true) : isiF S [.d (.loc l), .d (.ty t)] = some (.d (.bl (isKind "list" t))) := by
  show (kindOf S (.d (.loc l))).bind _ = _
  have e : kindOf S (.d (.loc l)) = some "list" := by
    show (match S[l]? with | some (.lst _) => some "list" | _ => none) = _
    rw [h]
  rw [e]
  show (if okKind t = true then _ else _) = _
  rw [if_pos ht]
theorem isi_int_any {b : Nat} {S : Store} {n : Nat} {d : D} (h : AnyD b S n d) : isiF S [.d d, .d (.ty "int")] = some (.d (.bl (isWh d || isBl d))) := by
  cases n with
  | zero => exact h.elim
  | succ n =>
    cases d with
    | loc l => obtain ⟨_, ds, e, _, _⟩ := h; exact isi_loc e rfl
    | non => rfl
    | bl b => rfl
    | int i => rfl
    | str x => rfl
    | tup ds => rfl
    | _ => exact h.elim
theorem isi_bool_any {b : Nat} {S : Store} {n : Nat} {d : D} (h : AnyD b S n d) : isiF S [.d d, .d (.ty "bool")] = some (.d (.bl (isBl d))) := by
  cases n with
  | zero => exact h.elim
  | succ n =>
    cases d with
    | loc l => obtain ⟨_, ds, e, _, _⟩ := h; exact isi_loc e rfl
    | non => rfl
    | bl b => rfl
    | int i => rfl
    | str x => rfl
    | tup ds => rfl
    | _ => exact h.elim
theorem isi_tup_any {b : Nat} {S : Store} {n : Nat} {d : D} (h : AnyD b S n d) : isiF S [.d d, .d (.ty "tuple")] = some (.d (.bl (isTup d))) := by
  cases n with
  | zero => exact h.elim
  | succ n =>
    cases d with
    | loc l => obtain ⟨_, ds, e, _, _⟩ := h; exact isi_loc e rfl
    | non => rfl
    | bl b => rfl
    | int i => rfl
    | str x => rfl
    | tup ds => rfl
    | _ => exact h.elim
theorem is_whole_any {b : Nat} {S : Store} {n : Nat} {d : D} (h : AnyD b S n d) : m_is_whole [.d d] S = .ok (.d (.bl (isWh d))) S := by
  have e1 := isi_int_any h
  have e2 := isi_bool_any h
  refine eq_of (fun_w ?_)
  unfold mb_is_whole
  simp! only [e1]
  refine kEAnd_br (fun z => ?_) (fun z => ?_)
  · simp! only [e2]
    cases d <;> first | rfl | exact ⟨rfl, rfl⟩ | cases z
  · cases d <;> first | exact ⟨rfl, rfl⟩ | cases z
theorem whole_ints : ∀ {ds : List D}, ds.all isWh = true → ∃ ns : List Int, ds = ns.map .int
  | [], _ => ⟨[], rfl⟩
  | d :: ds, h => by
    rw [List.all_cons, Bool.and_eq_true] at h
    obtain ⟨ns, rfl⟩ := whole_ints h.2
    cases d with
    | int i => exact ⟨i :: ns, rfl⟩
    | _ => cases h.1
theorem ints_none : ∀ {ds : List D}, ds.all isWh = false → intsOf ds = none
  | [], h => by cases h
  | d :: ds, h => by
    cases d with
    | int i =>
      have : ds.all isWh = false := by
        rw [List.all_cons] at h
        exact h
      show (intsOf ds).map _ = none
      rw [ints_none this]
      rfl
    | _ => rfl
def RsOk (many : Int) (ns : List Int) : Prop := ns.Pairwise (· < ·) ∧ ∀ x ∈ ns, 0 ≤ x ∧ x < many
instance {many : Int} {ns : List Int} : Decidable (RsOk many ns) := by unfold RsOk; infer_instance
end

section
open PySem PySem.Spec L2 DM
local macro_rules | `(tactic| walk_at "z") => `(tactic| first | decide | (refine le_line ?_; simp only [List.length_append, List.length_map, List.length_take, List.length_drop, List.length_cons, List.length_nil, List.length_reverse]; omega) | (show _ + 1 ≤ sizeLine; refine le_line ?_; simp only [List.length_append, List.length_map, List.length_take, List.length_drop, List.length_cons, List.length_nil, List.length_reverse]; omega))
theorem Grow.set {b i : Nat} {S S' : Store} {o : O} (h : Grow b S S') (hi : S.length ≤ i) : Grow b S (S'.set i o) := ⟨by rw [List.length_set]; exact h.1, fun j hj hb => by rw [List.getElem?_set_ne (by omega)]; exact h.2 j hj hb⟩
theorem any_int {b : Nat} {S : Store} {n : Nat} {i : Int} (h : -(2 ^ 190) < i ∧ i < 2 ^ 190) : AnyD b S (n + 1) (.int i) := by
  show i.natAbs < 2 ^ 200
  omega
theorem any_ints2 {b : Nat} {S : Store} {n : Nat} {s : List Int} (h : ∀ x ∈ s, 0 ≤ x ∧ x < 1000000000) : ∀ d ∈ s.map D.int, AnyD b S (n + 1) d := fun d hd => by
  obtain ⟨x, hx, rfl⟩ := List.mem_map.mp hd
  have := h x hx
  exact any_int (by omega)
theorem gbent_w {S : Store} {b c n : Nat} {uI : Int} {s : List Int} {Q : RV → Store → Prop} {X : QX} (h : BagC S b c n) (hu : 0 ≤ uI ∧ uI ≤ 1000000000) (hs : s.length ≤ 90) (hs2 : ∀ x ∈ s, 0 ≤ x ∧ x < 1000000000) (hn : n + 10 < 10 ^ 9)
    (k : ∀ d S', AnyD b S' 3 d → BagC S' b c (n + 5) → Grow b S S' → Q (.d d) S') : WR (okR (m_l_gbent [.d (.loc b), .d (.int uI), .d (rowL s)] S)) Q X := by
  have hbc := h.lt
  refine fun_w ?_
  unfold mb_l_gbent
  walk_at "w"
  refine gdraw_c h (by omega) (by omega) (by omega) fun way S1 w0 w13 b1 s1 => ?_
  walk_at "w"
  rw [List.length_map]
  refine gdraw_c b1 (by omega) (by omega) (by omega) fun at1 S2 a0 al b2 s2 => ?_
  have e39 : (10 : Int) ^ Int.toNat 39 = 10 ^ 39 := rfl
  walk_at "w"
  refine ⟨by decide, by decide, cpow (by decide) (by decide) (by decide) (by decide), cpow (by decide) (by decide) (by decide) (by decide), by decide, ?_⟩
  refine gdraw_c (b2.ext Ext.push) (by omega) (by omega) (by omega) fun o S3 o0 o12 b3 s3 => ?_
  obtain ⟨odd, eo, hom, _⟩ := DM.atI_get (l := [D.int uI, D.int (-1), D.bl true, D.bl false, D.non, D.str (Str.ofString "0"), D.tup [D.int 0], D.loc (List.length S2), D.int (10 ^ Int.toNat 39), D.int (-10 ^ Int.toNat 39), D.int (uI - 1), D.int 0]) o0 o12
  have hS2 : S2.length = S.length := by rw [s2.1, s1.1]
  have hodd : AnyD b S3 2 odd := by
    have hl : S3[S2.length]? = some (.lst [.int 0]) := by
      rw [s3.2 _ (by omega)]
      exact st_new
    have e39 : (10 : Int) ^ Int.toNat 39 = 10 ^ 39 := rfl
    simp only [List.mem_cons, List.not_mem_nil, or_false] at hom
    rcases hom with rfl | rfl | rfl | rfl | rfl | rfl | rfl | rfl | rfl | rfl | rfl | rfl
    · exact any_int (by omega)
    · exact any_int (by omega)
    · trivial
    · trivial
    · trivial
    · exact ⟨okS_str "0", okS_of (by decide +kernel), by decide +kernel⟩
    · refine ⟨by decide, fun d hd => ?_⟩
      cases List.mem_singleton.mp hd
      exact any_int (by omega)
    · refine ⟨by omega, _, hl, by decide, fun d hd => ?_⟩
      cases List.mem_singleton.mp hd
      exact any_int (by omega)
    · rw [e39]; exact any_int (by omega)
    · rw [e39]; exact any_int (by omega)
    · exact any_int (by omega)
    · exact any_int (by omega)
  have hg3 : Grow b S S3 := (((Grow.of_same s1).trans (Grow.of_same s2)).trans Grow.push).trans (Grow.of_same s3)
  simp! only [eo]
  obtain ⟨A, hA⟩ : ∃ A : Nat, at1 = (A : Int) := ⟨at1.toNat, by omega⟩
  have c1 : cutL (s.map D.int) none (some at1) = (s.take A).map .int := by
    rw [cut_to a0, List.map_take, hA]; rfl
  have c2 : cutL (s.map D.int) (some at1) none = (s.drop A).map .int := by
    rw [cut_from a0, List.map_drop, hA]; rfl
  have c3 : cutL (s.map D.int) (some (at1 + 1)) none = (s.drop (A + 1)).map .int := by
    have : (at1 + 1).toNat = A + 1 := by omega
    rw [cut_from (by omega), List.map_drop, this]
  have c4 : cutL (s.map D.int) (some (if at1 - 1 > 0 then at1 - 1 else 0)) none = (s.drop (if at1 - 1 > 0 then at1 - 1 else 0).toNat).map .int := by
    rw [cut_from (by split <;> omega), List.map_drop]
  have hmx : at1 - 1 ≤ (if at1 - 1 > 0 then at1 - 1 else 0) := by split <;> omega
  generalize (if at1 - 1 > 0 then at1 - 1 else 0) = mx at c4 hmx ⊢
  simp! only [c1, c2, c3, c4]
  repeat (refine ⟨by walk_at "z", ?_⟩)
  generalize hL : ((_ : List D) ++ [D.tup ([D.int (-1)] ++ List.map D.int s ++ [D.int uI])]) = L
  obtain ⟨d, ed, hdm, _⟩ := DM.atI_get (l := L) (i := way) w0 (by rw [← hL]; simp; omega)
  simp! only [ed]
  have hl1 : (S3 ++ [O.lst (List.map D.int s)] ++ [O.lst []])[S3.length]? = some (.lst (s.map .int)) := st_old st_new
  have hl2 : (S3 ++ [O.lst (List.map D.int s)] ++ [O.lst []])[(S3 ++ [O.lst (List.map D.int s)]).length]? = some (.lst []) := st_new
  have hlen2 : (S3 ++ [O.lst (List.map D.int s)]).length = S3.length + 1 := by simp
  have hS3 : S3.length = S.length + 1 := by rw [s3.1]; simp [hS2]
  have hE : Ext S3 (S3 ++ [O.lst (List.map D.int s)] ++ [O.lst []]) := Ext.push.trans Ext.push
  have hodd' := hodd.grow (Grow.of_ext hE)
  have hin : ∀ (n : Nat) (l : List Int), (∀ x ∈ l, x ∈ s) → ∀ d ∈ l.map D.int, AnyD b (S3 ++ [O.lst (List.map D.int s)] ++ [O.lst []]) (n + 1) d := fun n l hl => any_ints2 fun x hx => hs2 x (hl x hx)
  generalize (S3 ++ [O.lst (List.map D.int s)] ++ [O.lst []]) = S5 at hl1 hl2 hE hodd' hin ⊢
  have tk : ∀ (i : Nat) x, x ∈ s.take i → x ∈ s := fun i x hx => List.mem_of_mem_take hx
  have dr : ∀ (i : Nat) x, x ∈ s.drop i → x ∈ s := fun i x hx => List.mem_of_mem_drop hx
  have lt : ∀ i : Nat, (s.take i).length ≤ 90 := fun i => by rw [List.length_take]; omega
  have ld : ∀ i : Nat, (s.drop i).length ≤ 90 := fun i => by rw [List.length_drop]; omega
  have ltd : (s.take A).length + (s.drop A).length ≤ 90 := by rw [List.length_take, List.length_drop]; omega
  have put : ∀ (l1 l2 : List Int), (∀ x ∈ l1, x ∈ s) → (∀ x ∈ l2, x ∈ s) → l1.length + l2.length ≤ 99 → AnyD b S5 3 (.tup (l1.map .int ++ [odd] ++ l2.map .int)) := fun l1 l2 h1 h2 h3 => by
    refine ⟨by simp; omega, fun d hd => ?_⟩
    rcases List.mem_append.mp hd with hd | hd
    · rcases List.mem_append.mp hd with hd | hd
      · exact hin 1 l1 h1 d hd
      · cases List.mem_singleton.mp hd
        exact hodd'
    · exact hin 1 l2 h2 d hd
  have two : ∀ (l1 l2 : List Int), (∀ x ∈ l1, x ∈ s) → (∀ x ∈ l2, x ∈ s) → l1.length + l2.length ≤ 100 → AnyD b S5 3 (.tup (l1.map .int ++ l2.map .int)) := fun l1 l2 h1 h2 h3 => by
    refine ⟨by simp; omega, fun d hd => ?_⟩
    rcases List.mem_append.mp hd with hd | hd
    · exact hin 1 l1 h1 d hd
    · exact hin 1 l2 h2 d hd
  refine k d _ ?_ ((b3.ext hE).mono (by omega)) (hg3.trans (Grow.of_ext hE))
  rw [← hL] at hdm
  simp only [List.mem_append, List.mem_cons, List.not_mem_nil, or_false] at hdm
  rcases hdm with (((rfl | rfl | rfl | rfl) | rfl) | rfl | rfl | rfl | rfl | rfl | rfl | rfl) | rfl
  · exact ⟨by omega, _, hl1, by simp; omega, hin 1 s fun _ h => h⟩
  · refine ⟨by simp; omega, fun d hd => hin 1 s (fun _ h => h) d (List.mem_reverse.mp hd)⟩
  · exact two _ _ (tk _) (dr _) (by rw [List.length_take, List.length_drop]; omega)
  · exact put _ _ (tk _) (dr _) (by omega)
  · exact put _ _ (tk _) (dr _) (by have : (s.drop (A + 1)).length ≤ (s.drop A).length := by rw [List.length_drop, List.length_drop]; omega
                                    omega)
  · exact two _ _ (tk _) (dr _) (by have : (s.drop (A + 1)).length ≤ (s.drop A).length := by rw [List.length_drop, List.length_drop]; omega
                                    omega)
  · exact two _ _ (dr _) (tk _) (by omega)
  · refine ⟨by simp, fun d hd => ?_⟩
    cases List.mem_singleton.mp hd
    exact ⟨by simp; omega, hin 0 s fun _ h => h⟩
  · trivial
  · exact any_int (by omega)
  · exact ⟨okS_str "01", okS_of (by decide +kernel), by decide +kernel⟩
  · exact ⟨by omega, _, hl2, by simp, fun d hd => nomatch hd⟩
  · refine ⟨by simp; omega, fun d hd => ?_⟩
    rcases List.mem_append.mp hd with hd | hd
    · rcases List.mem_append.mp hd with hd | hd
      · cases List.mem_singleton.mp hd
        exact any_int (by omega)
      · exact hin 1 s (fun _ h => h) d hd
    · cases List.mem_singleton.mp hd
      exact any_int (by omega)
end

section
open PySem PySem.Spec L2 DM
section
variable {b n : Nat} {m : Int} {u : Nat} {rows : List (List Int)} {S : Store}
def meetL (bs : List Int) : Int := ((List.range bs.length).map fun (k : Nat) => (((bs.take k).count ((bs[k]?).getD 0) : Nat) : Int)).sum
end
end

section
open PySem PySem.Spec L2 DM
theorem sum_addN {f g : Nat → Int} : ∀ l : List Nat, (l.map fun y => f y + g y).sum = (l.map f).sum + (l.map g).sum
  | [] => rfl
  | x :: l => by
    rw [List.map_cons, List.sum_cons, List.map_cons, List.sum_cons, List.map_cons, List.sum_cons, sum_addN l]
    omega
theorem meetL_snoc (bs : List Int) (x : Int) : meetL (bs ++ [x]) = meetL bs + ((bs.count x : Nat) : Int) := by
  unfold meetL
  rw [List.length_append, List.length_singleton, List.range_succ, List.map_append, List.sum_append]
  congr 1
  · congr 1
    refine List.map_congr_left fun k hk => ?_
    have hk := List.mem_range.mp hk
    rw [List.take_append_of_le_length (by omega), List.getElem?_append_left hk]
  · simp
theorem snoc_ind {P : List Int → Prop} (h0 : P []) (h1 : ∀ l x, P l → P (l ++ [x])) : ∀ l, P l := by
  intro l
  have : ∀ r : List Int, P r.reverse := by
    intro r
    induction r with
    | nil => exact h0
    | cons x r ih => rw [List.reverse_cons]; exact h1 _ _ ih
  have h := this l.reverse
  rw [List.reverse_reverse] at h
  exact h
def boxF (p a b m x : Int) : Int := (a * x + b) % p % m
end

section
open PySem PySem.Spec L2 DM
theorem boxF_in {p a b m x : Int} (hm : 0 < m) : 0 ≤ boxF p a b m x ∧ boxF p a b m x < m := ⟨Int.emod_nonneg _ (by omega), Int.emod_lt_of_pos _ hm⟩
def inBox (p : Int) (q : Int × Int) (m box : Int) (s : List Int) : List Int := s.filter fun x => decide (boxF p q.1 q.2 m x = box)
def cellD (p a b M : Int) (s : List Int) (i : Nat) : D := match s.find? (fun x => decide (boxF p a b M x = (i : Int))) with
  | some x => .int x
  | none => .non
def cellL (p a b M : Int) (s : List Int) : List D := (List.range M.toNat).map (cellD p a b M s)
theorem cellL_len {p a b M : Int} {s : List Int} : (cellL p a b M s).length = M.toNat := by unfold cellL; simp
theorem inBox_rs {p m box : Int} {q : Int × Int} {s : List Int} (hs : RsOk p s) : RsOk p (inBox p q m box s) ∧ (inBox p q m box s).length ≤ s.length :=
  ⟨⟨hs.1.filter _, fun x hx => hs.2 x ((List.mem_filter.mp hx).1)⟩, List.length_filter_le _ _⟩
end

section
open PySem PySem.Spec L2 DM
def isPairB (p : Int) (x y : D) : Bool := match x, y with
  | .int a, .int b => decide (0 < a) && (decide (a < p) && (decide (0 ≤ b) && decide (b < p)))
  | _, _ => false
theorem isPairB_true {p : Int} {x y : D} (h : isPairB p x y = true) : ∃ a b : Int, x = .int a ∧ y = .int b ∧ (0 < a ∧ a < p) ∧ 0 ≤ b ∧ b < p := by
  cases x <;> cases y <;> first | (cases h) | skip
  rename_i a b
  have h : (decide (0 < a) && (decide (a < p) && (decide (0 ≤ b) && decide (b < p)))) = true := h
  simp only [Bool.and_eq_true, decide_eq_true_iff] at h
  exact ⟨a, b, rfl, rfl, ⟨h.1, h.2.1⟩, h.2.2⟩
def isCellB (d due : D) : Bool := match due with
  | .int v => match d with
    | .int w => decide (w = v)
    | _ => false
  | _ => isNon (.d d)
def cellsB (s : List Int) (L : List D) (z : D) : Bool := match z with
  | .tup cs => decide (cs.length = s.length * s.length) && ((cs.zip L).all fun q => isCellB q.1 q.2)
  | _ => false
def roomB (p : Int) (s : List Int) (d : D) : Bool := match d with
  | .tup [x, y, z] => match x, y with
    | .int a, .int b => isPairB p (.int a) (.int b) && (decide ((s.map (boxF p a b ((s.length : Int) * (s.length : Int)))).Nodup) && cellsB s (cellL p a b ((s.length : Int) * (s.length : Int)) s) z)
    | _, _ => false
  | _ => false
theorem cellD_two {p a b M : Int} {s : List Int} {d : D} (h : d ∈ cellL p a b M s) : d = .non ∨ ∃ v, d = .int v := by
  unfold cellL at h
  obtain ⟨i, _, rfl⟩ := List.mem_map.mp h
  unfold cellD
  split
  · exact .inr ⟨_, rfl⟩
  · exact .inl rfl
def squaresI (ps : List (List Int)) : Int := (ps.map fun t => (t.length : Int) * (t.length : Int)).sum
def partsP (p a b : Int) (s : List Int) : List (List Int) := (List.range s.length).map fun i : Nat => inBox p (a, b) (s.length : Int) (i : Int) s
def roomsB (p a b : Int) (s : List Int) (z : D) : Bool := match z with
  | .tup rs => decide (rs.length = s.length) && ((((partsP p a b s).zip rs).all fun q => roomB p q.1 q.2) && decide (squaresI (partsP p a b s) < 2 * (s.length : Int)))
  | _ => false
def floorsB (p : Int) (s : List Int) (d : D) : Bool := match d with
  | .tup [x, y, z] => match x, y with
    | .int a, .int b => isPairB p (.int a) (.int b) && roomsB p a b s z
    | _, _ => false
  | _ => false
end

section
open PySem PySem.Spec L2 DM
end

section
open PySem PySem.Spec L2 DM
theorem sum_extN {f g : Nat → Int} {l : List Nat} (h : ∀ x ∈ l, f x = g x) : (l.map f).sum = (l.map g).sum := by
  rw [List.map_congr_left h]
theorem sum_one {m : Nat} {x : Int} (x0 : 0 ≤ x) (xm : x < m) (c : Int) : ((List.range m).map fun k : Nat => if x = (k : Int) then c else 0).sum = c := by
  induction m with
  | zero => omega
  | succ m ih =>
    rw [List.range_succ, List.map_append, List.sum_append]
    by_cases z : x = (m : Int)
    · have h0 : ((List.range m).map fun k : Nat => if x = (k : Int) then c else 0).sum = 0 := by
        have : ((List.range m).map fun k : Nat => if x = (k : Int) then c else 0).sum = ((List.range m).map fun _ : Nat => (0 : Int)).sum := sum_extN fun k hk => by
          have := List.mem_range.mp hk
          rw [if_neg (by omega)]
        rw [this]
        have hz : ∀ n : Nat, ((List.range n).map fun _ : Nat => (0 : Int)).sum = 0 := fun n => by
          induction n with
          | zero => rfl
          | succ n ih => rw [List.range_succ, List.map_append, List.sum_append, ih]; rfl
        exact hz m
      rw [h0]
      simp [z]
    · rw [ih (by omega)]
      simp [z]
theorem squares_meet {m : Nat} : ∀ bs : List Int, (∀ x ∈ bs, 0 ≤ x ∧ x < m) → ((List.range m).map fun k : Nat => ((bs.count (k : Int) : Nat) : Int) * ((bs.count (k : Int) : Nat) : Int)).sum = (bs.length : Int) + 2 * meetL bs := by
  refine snoc_ind ?_ ?_
  · intro _
    have hz : ∀ n : Nat, ((List.range n).map fun _ : Nat => (0 : Int)).sum = 0 := fun n => by
      induction n with
      | zero => rfl
      | succ n ih => rw [List.range_succ, List.map_append, List.sum_append, ih]; rfl
    exact hz m
  · intro l x ih hb
    have ih := ih fun y hy => hb y (List.mem_append_left _ hy)
    have hx := hb x (List.mem_append_right _ List.mem_cons_self)
    have e : ((List.range m).map fun k : Nat => (((l ++ [x]).count (k : Int) : Nat) : Int) * (((l ++ [x]).count (k : Int) : Nat) : Int)).sum = ((List.range m).map fun k : Nat => ((l.count (k : Int) : Nat) : Int) * ((l.count (k : Int) : Nat) : Int) + if x = (k : Int) then 2 * ((l.count x : Nat) : Int) + 1 else 0).sum := sum_extN fun k hk => by
      rw [List.count_append]
      by_cases z : x = (k : Int)
      · rw [if_pos z, z]
        simp
        grind
      · rw [if_neg z]
        have : List.count (k : Int) [x] = 0 := by simp [z]
        rw [this]
        simp
    rw [e, sum_addN, ih, sum_one hx.1 hx.2, meetL_snoc]
    simp
    omega
theorem inBox_len {p m : Int} {q : Int × Int} {k : Nat} {s : List Int} : (inBox p q m (k : Int) s).length = (s.map (boxF p q.1 q.2 m)).count (k : Int) := by
  unfold inBox
  induction s with
  | nil => rfl
  | cons x s ih =>
    rw [List.filter_cons, List.map_cons, List.count_cons]
    by_cases z : boxF p q.1 q.2 m x = (k : Int)
    · rw [if_pos (decide_eq_true z), List.length_cons, ih, if_pos (by simp [z])]
    · rw [if_neg (by simp [z]), ih, if_neg (by simp [z])]
      rfl
theorem squares_parts {p a b : Int} {s : List Int} (h1 : 1 ≤ s.length) : squaresI (partsP p a b s) = (s.length : Int) + 2 * meetL (s.map (boxF p a b (s.length : Int))) := by
  have h := squares_meet (m := s.length) (s.map (boxF p a b (s.length : Int))) fun x hx => by
    obtain ⟨y, hy, rfl⟩ := List.mem_map.mp hx
    exact boxF_in (by omega)
  rw [List.length_map] at h
  rw [← h]
  unfold squaresI partsP
  rw [List.map_map]
  refine sum_extN fun k hk => ?_
  show (((inBox p (a, b) (s.length : Int) (k : Int) s).length : Nat) : Int) * _ = _
  rw [inBox_len]
theorem cell_is {d e : D} {p a b M : Int} {s : List Int} (he : e ∈ cellL p a b M s) (h : isCellB d e = true) : d = e := by
  rcases cellD_two he with rfl | ⟨v, rfl⟩
  · cases d <;> first | rfl | cases h
  · cases d <;> first | (cases h) | skip
    rename_i w
    have : w = v := of_decide_eq_true h
    rw [this]
theorem zip_all_eq {f : D → D → Bool} : ∀ {cs L : List D}, cs.length = L.length → (∀ d e, e ∈ L → f d e = true → d = e) → ((cs.zip L).all fun q => f q.1 q.2) = true → cs = L
  | [], [], _, _, _ => rfl
  | [], _ :: _, h, _, _ => by cases h
  | _ :: _, [], h, _, _ => by cases h
  | c :: cs, e :: L, hl, hf, h => by
    rw [List.zip_cons_cons, List.all_cons, Bool.and_eq_true] at h
    rw [hf c e List.mem_cons_self h.1, zip_all_eq (by simpa using hl) (fun d e he => hf d e (List.mem_cons_of_mem _ he)) h.2]
theorem sq_nat {k : Nat} : ((k : Int) * (k : Int)).toNat = k * k := by
  rw [← Int.natCast_mul]; exact Int.toNat_natCast _
theorem cellsB_eq {p a b : Int} {t : List Int} {z : D} (h : cellsB t (cellL p a b ((t.length : Int) * (t.length : Int)) t) z = true) : z = .tup (cellL p a b ((t.length : Int) * (t.length : Int)) t) := by
  cases z <;> first | (cases h) | skip
  rename_i cs
  have h : (decide (cs.length = t.length * t.length) && _) = true := h
  rw [Bool.and_eq_true] at h
  have hl := of_decide_eq_true h.1
  rw [zip_all_eq (by rw [cellL_len, sq_nat]; exact hl) (fun d e he => cell_is he) h.2]
theorem roomB_true {p : Int} {t : List Int} {d : D} (h : roomB p t d = true) : ∃ a b : Int, d = .tup [.int a, .int b, .tup (cellL p a b ((t.length : Int) * (t.length : Int)) t)] ∧ (t.map (boxF p a b ((t.length : Int) * (t.length : Int)))).Nodup := by
  unfold roomB at h
  split at h
  · split at h
    · rename_i a b
      simp only [Bool.and_eq_true] at h
      exact ⟨a, b, by rw [cellsB_eq h.2.2], of_decide_eq_true h.2.1⟩
    · cases h
  · cases h
theorem cellD_out {p a b M x : Int} {t : List Int} {i : Nat} (h : cellD p a b M t i = .int x) : x ∈ t := by
  unfold cellD at h
  split at h
  · rename_i y hy
    cases h
    exact List.mem_of_find?_eq_some hy
  · cases h
theorem pair_B {p a b : Int} (ha : 1 ≤ a ∧ a < p) (hb : 0 ≤ b ∧ b < p) : isPairB p (.int a) (.int b) = true := by
  show (decide (0 < a) && (decide (a < p) && (decide (0 ≤ b) && decide (b < p)))) = true
  rw [decide_eq_true (by omega : 0 < a), decide_eq_true ha.2, decide_eq_true hb.1, decide_eq_true hb.2]
  rfl
end

section
open PySem PySem.Spec L2 DM
theorem mem_le_sum {l : List Int} (h : ∀ x ∈ l, 0 ≤ x) : ∀ x ∈ l, x ≤ l.sum := by
  induction l with
  | nil => intro x hx; cases hx
  | cons a l ih =>
    have h0 : ∀ m : List Int, (∀ x ∈ m, 0 ≤ x) → 0 ≤ m.sum := fun m hm => by
      induction m with
      | nil => exact Int.le_refl 0
      | cons b m ih => rw [List.sum_cons]; have := hm b List.mem_cons_self; have := ih fun x hx => hm x (List.mem_cons_of_mem _ hx); omega
    intro x hx
    rw [List.sum_cons]
    have h1 := h0 l fun y hy => h y (List.mem_cons_of_mem _ hy)
    rcases List.mem_cons.mp hx with rfl | hx
    · omega
    · have := ih (fun y hy => h y (List.mem_cons_of_mem _ hy)) x hx
      have := h a List.mem_cons_self
      omega
end

section
open PySem PySem.Spec L2 DM
end

section
open PySem PySem.Spec L2 DM
def DtL (F : D → PyData → Prop) (ds : List D) (ps : List PyData) : Prop := ds.length ≤ sizeLine ∧ ds.length = ps.length ∧ ∀ (i : Nat) d p, ds[i]? = some d → ps[i]? = some p → F d p
theorem DtL.cons {F : D → PyData → Prop} {d : D} {p : PyData} {ds : List D} {ps : List PyData} (h : DtL F (d :: ds) (p :: ps)) : F d p ∧ DtL F ds ps :=
  ⟨h.2.2 0 d p rfl rfl, by have := h.1; simp at this; omega, by have := h.2.1; simpa using this, fun i e q h1 h2 => h.2.2 (i + 1) e q (by simpa using h1) (by simpa using h2)⟩
end

section
open PySem PySem.Spec L2 DM
def listsO (L : List (List Int)) : Store := L.map fun xs => O.lst (xs.map .int)
def TabAt (S : Store) (a : Nat) (L : List (List Int)) : Prop := ∀ (i : Nat) xs, L[i]? = some xs → S[a + i]? = some (.lst (xs.map .int))
theorem TabAt.ext {S S' : Store} {a : Nat} {L : List (List Int)} (h : TabAt S a L) (e : Ext S S') : TabAt S' a L := fun i xs hx => e.get (h i xs hx)
theorem Ext.lists {S : Store} {L : List (List Int)} : Ext S (S ++ listsO L) := ⟨by simp, fun j hj => by rw [List.getElem?_append_left hj]⟩
end

section
open PySem PySem.Spec L2 DM
theorem bag_push {S : Store} {b c n : Nat} {o : O} (h : BagC S b c n) : BagC (S ++ [o]) b c n := by
  obtain ⟨cells, a, l, h1, h2, h3, h4, h5, h6⟩ := h
  exact ⟨cells, a, l, st_old h1, st_old h2, h3, h4, h5, h6⟩
theorem eq_str {S : Store} {x y : Str} (hx : PyData.strOk x = true) (hy : PyData.strOk y = true) : eqF S (.d (.str x)) (.d (.str y)) = some (.d (.bl (decide (x = y)))) := by
  have e1 : pyR S (.d (.str x)) = some (.str x) := rfl
  have e2 : pyR S (.d (.str y)) = some (.str y) := rfl
  unfold eqF
  rw [e1, e2]
  have s1 : SeqAt.shaped (.str x) = true := by
    unfold SeqAt.shaped
    have : PyData.canLay0 (.str x) = true := hx
    rw [this]
    simp [PyData.depth]
  have s2 : SeqAt.shaped (.str y) = true := by
    unfold SeqAt.shaped
    have : PyData.canLay0 (.str y) = true := hy
    rw [this]
    simp [PyData.depth]
  show (if SeqAt.shaped (.str x) = true ∧ SeqAt.shaped (.str y) = true then _ else _) = _
  rw [if_pos ⟨s1, s2⟩]
  have : PyData.eqv (.str x) (.str y) = decide (x = y) := by simp [PyData.eqv]; rfl
  rw [this]
end

section
open PySem PySem.Spec L2 DM
section
variable {b n : Nat} {m : Int} {u : Nat} {rows : List (List Int)} {S : Store} {x y : D}
end
end

section
open PySem PySem.Spec L2 DM
def cntA (L : List (List Int)) (r : List Int) : Nat := (L.filter (apartB r)).length
def leftA (L : List (List Int)) (r : List Int) : List (List Int) := L.filter fun s => !apartB r s
def BestK (rows L : List (List Int)) (n : Nat) (r : List Int) : Prop := rows[n]? = some r ∧ (∀ q ∈ rows, cntA L q ≤ cntA L r) ∧ ∀ j q, j < n → rows[j]? = some q → cntA L q < cntA L r
inductive Gre (rows : List (List Int)) : List (List Int) → List Int → Bool × List Int → Prop
  | done (acc : List Int) : Gre rows [] acc (true, acc)
  | miss {s : List Int} {L : List (List Int)} {acc : List Int} (h : ∀ q ∈ rows, cntA (s :: L) q = 0) : Gre rows (s :: L) acc (false, s)
  | step {s : List Int} {L : List (List Int)} {acc : List Int} {n : Nat} {r : List Int} {z : Bool × List Int} (h : BestK rows (s :: L) n r) (h0 : 0 < cntA (s :: L) r) (t : Gre rows (leftA (s :: L) r) (acc ++ [(n : Int)]) z) : Gre rows (s :: L) acc z
theorem eqv_ints : ∀ (xs ys : List Int), PyData.eqvAll (xs.map PyData.int) (ys.map PyData.int) = decide (xs = ys)
  | [], [] => rfl
  | [], y :: ys => by
    rw [decide_eq_false (by simp)]
    simp [PyData.eqvAll]
  | x :: xs, [] => by
    rw [decide_eq_false (by simp)]
    simp [PyData.eqvAll]
  | x :: xs, y :: ys => by
    have ih := eqv_ints xs ys
    rw [List.map_cons, List.map_cons]
    have : PyData.eqvAll (PyData.int x :: xs.map PyData.int) (PyData.int y :: ys.map PyData.int) = ((PyData.eqv (.int x) (.int y)) && PyData.eqvAll (xs.map PyData.int) (ys.map PyData.int)) := by simp [PyData.eqvAll]
    rw [this, ih]
    have h2 : PyData.eqv (.int x) (.int y) = decide (x = y) := by
      simp only [PyData.eqv]
      by_cases h : x = y <;> simp [h]
    rw [h2, ← Bool.decide_and]
    exact decide_eq_decide.mpr (by simp)
end

section
open PySem PySem.Spec L2 DM
local macro_rules | `(tactic| walk_at "w") => `(tactic| simp only [QV_v, QV_own, QV_bor, QI_d, QI_l, QO_d, QO_l, QO_ite, QO_A, QA_s, w_C, w_var, kA2_e, kB2_dd, kB2_ld, kB2_dl, kB2_ll, w_op2, kA1_d, w_op1, kArg_e, kArg2_d, kArg2_l, w_args0, w_args, kOpN_e, w_opN, kIt_e, kIt2_e, kIt3_e, w_items0, w_items, kTup_e, kLst_e, w_tup, w_lst, kB_e, w_bOf, kAnd_t, kAnd_f, kOr_t, kOr_f, kNot_e, w_bAnd, w_bOr, w_bNot, w_bYes, kEAnd_t, kEAnd_f, kEOr_t, kEOr_f, kENot_e, w_eAnd, w_eOr, w_eNot, kEIf_t, kEIf_f, w_eIf, kCall_e, w_call, okR_d, okR_l, okR_ex, kPart2_e, w_part0, w_part, kSl3_d, kSl3_l, kSl2_e, kSl_e, w_sl, kCh_e, kCh1_e, kCh2_t, kCh2_f, w_chain, seq_nx, seq_rt, seq_bk, seq_ct, seq_ex, kX_e, w_seq, w_nop, w_brk, w_cnt, kIf_t, kIf_f, w_if, kRet_d, kRet_l, w_ret, w_retN, QRV_v, QRV_own, w_retV, kDrop_e, w_drop, kSet_d, kSet_l, w_set, kSetS_d, kSetS_l, w_setS, QMv_e, w_move, QG_e, tg_name, tg_tup, tg_tup1, tg_tup2, tg_tup3, tg_tup4, tg_nil, tg_cons, ob_some, kAsg_d, w_asg, kPar_e, w_par, kSixN_e, kSixL_e, QSt_e, kSixO_e, kSixT_e, QSix_o, QSix_l, kSix_d, kSix_l, w_setix, kAppO_d, kAppO_l, QAppT_e, kAppT_d, kAppT_l, QApp_o, QApp_l, w_app, kExtO_l, QExt_o, QS_t, QS_l, QSL_e, QQ_b, QQ_v, w_qVar, kQE_l, kQE_d, w_qE, kQC_l, kQC_d, w_qC, kSeq_e, w_miSeq, kRev_e, w_miRev, kEnum_e, w_miEnum, kZip_e, kZip2_e, w_miZip, kR1_e, w_miRng1, kR2_e, kR3_e, rngD_len, rngD2_len, chk_t, chk_p, chk_s, isT_t, isT_p, isT_s, w_for, lp_nx, lp_rt, lp_bk, lp_ct, lp_ex, frzS_e, frzQ_o, frzQ_v, frzQ_b, frzQ_n, unfS_e, unfQ_o, unfQ_v, unfQ_b, unfQ_n, unf_nx, unf_rt, unf_bk, unf_ct, unf_ex, w_frz, w_comp, EnF_nx, EnF_d, EnF_l, EnF_ex, slot_d, slot_f, add_ii, add_ss, add_tt, add_ll, sub_ii, mul_ii, mul_li, div_ii, mod_ii, pow_ii, shl_ii, shr_ii, lt_ii, le_ii, gt_ii, ge_ii, neg_i, and_ii, or_ii, xor_ii, is_n, isnt_n, isNon_n, isNon_b, isNon_i, isNon_s, isNon_t, isNon_o, isNon_l, isNon_e, lstO_e, lstOf_l, lstOf_o, om_some, ix_t, ix_s, ix_l, ix_o, len_s, len_t, len_l, len_o, sum_l, all_l, any_l, max_ii, min_ii, max_l, min_l, tup_t, tup_l, tup_o, list_t, list_l, list_o, int_i, int_b, str_i, sl_t, sl_l, sl_s, eq_ii, ne_ii, eq_bb, ne_bb, isi_non_int, isi_non_bool, isi_non_str, isi_non_tuple, isi_non_list, isi_non_tl, isi_bl_int, isi_bl_bool, isi_bl_str, isi_bl_tuple, isi_bl_list, isi_bl_tl, isi_int_int, isi_int_bool, isi_int_str, isi_int_tuple, isi_int_list, isi_int_tl, isi_str_int, isi_str_bool, isi_str_str, isi_str_tuple, isi_str_list, isi_str_tl, isi_tup_int, isi_tup_bool, isi_tup_str, isi_tup_tuple, isi_tup_list, isi_tup_tl, isi_l_int, isi_l_bool, isi_l_str, isi_l_tuple, isi_l_list, isi_l_tl, ixN_00, ixN_1, ixN_2, ixN_3, atI_0, atI_1, atI_2, atI_3, intsOf_map, blsOf_map, List.set_cons_zero, List.set_cons_succ, List.getElem?_cons_zero, List.getElem?_cons_succ, List.replicate_succ, List.replicate_zero, List.length_cons, List.length_nil, Nat.zero_add, Nat.add_zero, Nat.reduceAdd, Nat.reduceSub, Nat.reduceLT, Nat.reduceLeDiff, Option.some.injEq, true_and, and_true, List.map_cons, List.map_nil, decide_true, decide_false, Bool.not_true, Bool.not_false, wipeE, QO_gd, startE_1, startE_2, startE_3, startE_4, fb_nx, fl_nx, fl_ct, fl_bk, fl_rt, fl_ex, cut_nx, cut_rt, cut_bk, cut_ct, cut_ex, w_raise, tr_nx, tr_rt, tr_bk, tr_ct, tr_ex, w_try, QCL_e, w_callL, kMt2_e, kMt_l, kMt_s, kMt_o, w_mt, if_true, QXT_e, kExtT_l, kExtT_d, QExt2_o, QExt2_l, exo_e, w_ext2, w_rng2, w_rng3, isB_bb, isntB_bb, beq_self_eq_true, w_ins0, QIns_o, kInsO_d, w_revE, kRevE_l, w_miEnumA, kEnumA_e, w_popAt, kPop_e, kPop2_e, sorted_e, divmod_e, w_lenSet, kLenSet_l, kRevA_l, kRevA_t, kRevA_o, w_revA, kZipM_e, kZipM2_e, w_miZipM, kAppD_e, kAppD2_e, w_appD, w_dnew, w_dput, kDP1_d, kDP2_e, w_dget2, kDG1_e, kDG2_e])
abbrev keyL (b : List Int) : List Key := b.map Sum.inl
theorem keyL_inj {a b : List Int} (h : keyL a = keyL b) : a = b := (List.map_inj_right (fun x y e => Sum.inl.inj e)).mp h
theorem val_snoc (k k' : List Key) (v : D) : ∀ kvs : List (List Key × D), (kvs.any fun kv => decide (kv.1 = k)) = false → valD (kvs ++ [(k, v)]) k' = if k = k' then some v else valD kvs k'
  | [], _ => by
    unfold valD
    by_cases e : k = k'
    · rw [if_pos e]; simp [e]
    · rw [if_neg e]; simp [e]
  | p :: kvs, h => by
    rw [List.any_cons, Bool.or_eq_false_iff] at h
    have ih := val_snoc k k' v kvs h.2
    unfold valD at ih ⊢
    rw [List.cons_append, List.find?_cons, List.find?_cons]
    by_cases e : p.1 = k'
    · have : ¬ k = k' := fun z => by
        have := of_decide_eq_false h.1
        exact this (e.trans z.symm)
      rw [if_neg this]
      simp [e]
    · simp only [e, decide_false]
      exact ih
theorem val_repl (k k' : List Key) (v : D) : ∀ kvs : List (List Key × D), (kvs.any fun kv => decide (kv.1 = k)) = true → valD (kvs.map fun kv => if kv.1 = k then (kv.1, v) else kv) k' = if k = k' then some v else valD kvs k'
  | [], h => by cases h
  | p :: kvs, h => by
    rw [List.any_cons, Bool.or_eq_true] at h
    unfold valD
    rw [List.map_cons, List.find?_cons, List.find?_cons]
    by_cases e : p.1 = k
    · rw [if_pos e]
      by_cases e2 : k = k'
      · rw [if_pos e2]
        simp [e.trans e2]
      · rw [if_neg e2]
        have e3 : ¬ p.1 = k' := fun z => e2 (e.symm.trans z)
        simp only [e3, decide_false]
        have : ∀ l : List (List Key × D), ((l.map fun kv => if kv.1 = k then (kv.1, v) else kv).find? fun kv => decide (kv.1 = k')) = l.find? fun kv => decide (kv.1 = k') := fun l => by
          induction l with
          | nil => rfl
          | cons q l ih =>
            rw [List.map_cons, List.find?_cons, List.find?_cons]
            by_cases z : q.1 = k
            · have z3 : ¬ q.1 = k' := fun y => e2 (z.symm.trans y)
              rw [if_pos z]
              simp only [z3, decide_false]
              exact ih
            · rw [if_neg z, ih]
        rw [this]
    · rw [if_neg e]
      have h2 : (kvs.any fun kv => decide (kv.1 = k)) = true := by
        rcases h with h | h
        · exact (e (of_decide_eq_true h)).elim
        · exact h
      have ih := val_repl k k' v kvs h2
      unfold valD at ih
      by_cases e3 : p.1 = k'
      · have : ¬ k = k' := fun z => e (e3.trans z.symm)
        rw [if_neg this]
        simp [e3]
      · simp only [e3, decide_false]
        exact ih
theorem val_put (kvs : List (List Key × D)) (k k' : List Key) (v : D) : valD (putD kvs k v) k' = if k = k' then some v else valD kvs k' := by
  unfold putD
  cases h : kvs.any fun kv => decide (kv.1 = k) with
  | true => rw [if_pos rfl]; exact val_repl k k' v kvs h
  | false => rw [if_neg Bool.false_ne_true]; exact val_snoc k k' v kvs h
def cntK (rows : List (List Int)) (some b : List Int) : Nat := (rows.filter fun r => decide (some.map (at_ r) = b)).length
theorem cntK_snoc (L : List (List Int)) (r some b : List Int) : cntK (L ++ [r]) some b = cntK L some b + if some.map (at_ r) = b then 1 else 0 := by
  unfold cntK
  rw [List.filter_append, List.length_append]
  congr 1
  by_cases h : some.map (at_ r) = b
  · simp [h]
  · simp [h]
def CntOk (kvs : List (List Key × D)) (L : List (List Int)) (some : List Int) : Prop := ∀ b : List Int, valD kvs (keyL b) = if cntK L some b = 0 then none else Option.some (.int (cntK L some b))
theorem CntOk.nil (some : List Int) : CntOk [] [] some := fun b => rfl
theorem CntOk.get {kvs : List (List Key × D)} {L : List (List Int)} {some : List Int} (h : CntOk kvs L some) (b : List Int) : (valD kvs (keyL b)).getD (.int 0) = .int (cntK L some b) := by
  rw [h b]
  split
  · rename_i z; rw [z]; rfl
  · rfl
theorem CntOk.put {kvs : List (List Key × D)} {L : List (List Int)} {some r : List Int} (h : CntOk kvs L some) : CntOk (putD kvs (keyL (some.map (at_ r))) (.int ((cntK L some (some.map (at_ r)) : Int) + 1))) (L ++ [r]) some := fun b => by
  rw [val_put, cntK_snoc]
  by_cases e : some.map (at_ r) = b
  · subst e
    rw [if_pos rfl, if_pos rfl, if_neg (by omega)]
    congr 2
  · rw [if_neg (fun z => e (keyL_inj z)), if_neg e, Nat.add_zero]
    exact h b
noncomputable def mb_allboxes : MS := (sRet (eCut (eIf (bOf (eOp2 leF (eCall m_times_itself [(eVar 1), (eVar 0)]) (eVar 2))) (eCall m_rows_of_numbers [(eVar 0), (eVar 1)]) (eLst [(eOp2 mulTF (eTup [(eC (.int 0))]) (eVar 0))]))))
noncomputable def m_allboxes : MF := mFun 3 3 (mb_allboxes)
noncomputable def mb_evenfor : MS := (sSeq (sDrop (eCall m_need_tuples [(eCall m_things_of [(eVar 0)]), (eVar 1)]))
    (sSeq (sAsg (tgTup 2 (tgCons (tgName 2) (tgCons (tgName 3) tgNil))) (eVar 0))
    (sSeq (sFor (miSeq (qE (eCall m_rising_tuples [(eCall m_things_of [(eVar 0)]), (eVar 1)]))) (tgName 4) (sSeq (sSet 5 (eDNew true))
    (sSeq (sFrz 3 (sFor (miSeq (qVar 3)) (tgName 6) (sSeq (sSetS 7 (eOpN tupF [(eComp (miSeq (qC (eVar 4))) (tgName 8) bYes (eOp2 ixF (eVar 6) (eVar 8)) [8])]))
    (sDPut (eVar 5) (eVar 7) (eOp2 addF (eDGet2 (eVar 5) (eVar 7) (eC (.int 0))) (eC (.int 1)))))))
    (sFor (miSeq (qE (eCall m_allboxes [(eVar 1), (eVar 2), (eOpN lenF [(eVar 3)])]))) (tgName 7) (sIf (bOf (eOp2 neF (eOp2 mulF (eDGet2 (eVar 5) (eVar 7) (eC (.int 0))) (eCall m_times_itself [(eVar 2), (eVar 1)])) (eOpN lenF [(eVar 3)]))) (sRet (eTup [(eC (.str "uneven")), (eVar 4), (eVar 7), (eDGet2 (eVar 5) (eVar 7) (eC (.int 0)))])) sNop)))))
    (sRet (eTup [(eC (.str "even"))])))))
noncomputable def m_evenfor : MF := mFun 2 9 (mb_evenfor)
end

section
open PySem PySem.Spec L2 DM
end

section
open PySem PySem.Spec L2 DM
end

section
open PySem PySem.Spec L2 DM
end

section
open PySem PySem.Spec L2 DM
end

set_option maxHeartbeats 1000000
section
open PySem PySem.Spec L2 DM
def colK (rows : List (List Int)) (x : Int) : List Int := rows.map fun r => at_ r x
def alikeB (rows : List (List Int)) (x y : Nat) : Bool := decide (colK rows (x : Int) = colK rows (y : Int))
def isRep (rows : List (List Int)) (x : Nat) : Bool := !(List.range x).any fun y => alikeB rows y x
def repsN (rows : List (List Int)) (i : Nat) : List Nat := (List.range i).filter (isRep rows)
def memN (rows : List (List Int)) (i x : Nat) : List Nat := (List.range i).filter fun y => alikeB rows y x
def grpD (n : Nat) (rows : List (List Int)) (rs : List Nat) : List (List Key × D) := rs.map fun x : Nat => (keyL (colK rows (x : Int)), D.loc (n + 1 + x))
def GInv (n : Nat) (rows : List (List Int)) (S0 : Store) (i : Nat) (S : Store) : Prop := S.length = n + 1 + i ∧ (∀ j, j < n → S[j]? = S0[j]?) ∧ S[n]? = some (.dic true (grpD n rows (repsN rows i))) ∧ ∀ x ∈ repsN rows i, S[n + 1 + x]? = some (.lst ((memN rows i x).map fun y : Nat => D.int (y : Int)))
theorem GInv.ext {n i : Nat} {rows : List (List Int)} {S0 S : Store} (h : GInv n rows S0 i S) (hn : n = S0.length) : Ext S0 S := ⟨by have := h.1; omega, fun j hj => h.2.1 j (by omega)⟩
noncomputable def bodyG : MS := (sDrop (eAppD (eSetD (eVar 1) (eOpN tupF [(eComp (miSeq (qC (eOp2 ixF (eVar 0) (eC (.int 1))))) (tgName 3) bYes (eOp2 ixF (eVar 3) (eVar 2)) [3])]) (eLst [])) (eVar 2)))
noncomputable def mb_gath : MS := (sSeq (sSet 1 (eDNew true))
    (sSeq (sFor (miRng1 (eCall m_things_of [(eVar 0)])) (tgName 2) bodyG)
    (sRet (eOpN tupF [(eMaxLen (eVar 1))]))))
noncomputable def m_gath : MF := mFun 1 4 (mb_gath)
end

set_option maxHeartbeats 1000000
section
open PySem PySem.Spec L2 DM
def ones (u : Nat) (s : List Int) : List Int := (List.range u).map fun x : Nat => if (x : Int) ∈ s then 1 else 0
end

set_option maxHeartbeats 1000000
section
open PySem PySem.Spec L2 DM
def lastK (is : List Nat) : Nat := is.getLast?.getD 0
def nextN (N : Nat) (is : List Nat) : List (List Nat) := (List.range (N - lastK is)).map fun j => is ++ [lastK is + j]
def nd (N : Nat) : Nat → List (List Nat)
  | 0 => [[]]
  | t + 1 => (nd N t).flatMap (nextN N)
theorem lastK_snoc (is : List Nat) (k : Nat) : lastK (is ++ [k]) = k := by
  unfold lastK
  simp
def pick {α : Type} (A : List α) (is : List Nat) : List α := is.filterMap fun i => A[i]?
theorem pick_snoc {α : Type} {A : List α} {is : List Nat} {k : Nat} {a : α} (h : A[k]? = some a) : pick A (is ++ [k]) = pick A is ++ [a] := by
  unfold pick
  rw [List.filterMap_append]
  simp [h]
def addV (a b : List Int) : List Int := List.zipWith (· + ·) a b
theorem addV_comm (a b : List Int) : addV a b = addV b a := by
  unfold addV
  rw [List.zipWith_comm]
  congr 1
  funext x y
  omega
theorem addV_assoc (a b c : List Int) : addV (addV a b) c = addV a (addV b c) := by
  unfold addV
  induction a generalizing b c with
  | nil => simp
  | cons x a ih =>
    cases b with
    | nil => simp
    | cons y b =>
      cases c with
      | nil => simp
      | cons z c => simp [ih, Int.add_assoc]
def vsum (Z : List Int) : List (List Int) → List Int
  | [] => Z
  | v :: vs => addV v (vsum Z vs)
theorem vsum_perm {Z : List Int} {a b : List (List Int)} (h : a.Perm b) : vsum Z a = vsum Z b := by
  induction h with
  | nil => rfl
  | cons x _ ih => unfold vsum; rw [ih]
  | swap x y l =>
    show addV y (addV x _) = addV x (addV y _)
    rw [← addV_assoc, ← addV_assoc, addV_comm y x]
  | trans _ _ h1 h2 => rw [h1, h2]
theorem vsum_snoc (Z : List Int) (vs : List (List Int)) (v : List Int) : vsum Z (vs ++ [v]) = addV (vsum Z vs) v := by
  rw [vsum_perm (List.perm_append_comm (l₁ := vs) (l₂ := [v]))]
  show addV v (vsum Z vs) = _
  exact addV_comm _ _
end

set_option maxHeartbeats 1000000
section
open PySem PySem.Spec L2 DM
end

set_option maxHeartbeats 1000000
section
open PySem PySem.Spec L2 DM
end

set_option maxHeartbeats 1000000
section
open PySem PySem.Spec L2 DM
section
open PyProof.Rows PySem.W
end
end

set_option maxHeartbeats 1000000
section
open PySem PySem.Spec L2 DM
theorem mem_putD {kvs : List (List Key × D)} {k : List Key} {v : D} {kv : List Key × D} (h : kv ∈ putD kvs k v) : kv = (k, v) ∨ kv ∈ kvs := by
  unfold putD at h
  split at h
  · obtain ⟨x, hx, e⟩ := List.mem_map.mp h
    by_cases z : x.1 = k
    · rw [if_pos z] at e
      left
      rw [← e, z]
    · rw [if_neg z] at e
      right
      exact e ▸ hx
  · rcases List.mem_append.mp h with h | h
    · exact .inr h
    · exact .inl (List.mem_singleton.mp h)
theorem valD_mem {kvs : List (List Key × D)} {k : List Key} {d : D} (h : valD kvs k = some d) : (k, d) ∈ kvs := by
  unfold valD at h
  obtain ⟨kv, hk, e⟩ := Option.map_eq_some_iff.mp h
  have h1 := List.find?_some hk
  have h2 := List.mem_of_find?_eq_some hk
  have h1 := of_decide_eq_true h1
  rw [← e, ← h1]
  exact h2
section
open PyProof.Rows PySem.W
end
structure FInv (Z : List Int) (KS : List (List Int)) (t : Nat) (kvs : List (List Key × D)) : Prop where
  len : kvs.length ≤ KS.length ^ t
  b : ∀ kv ∈ kvs, ∃ is ∈ nd KS.length t, kv = (keyL (vsum Z (pick KS is)), .int (lastK is : Nat))
  a : ∀ is ∈ nd KS.length t, ∃ v : Nat, valD kvs (keyL (vsum Z (pick KS is))) = some (.int (v : Nat)) ∧ v ≤ lastK is
theorem FInv.zero (Z : List Int) (KS : List (List Int)) : FInv Z KS 0 [(keyL Z, .int 0)] := by
  refine ⟨by simp, fun kv hkv => ⟨[], List.mem_singleton.mpr rfl, List.mem_singleton.mp hkv⟩, fun is his => ?_⟩
  cases List.mem_singleton.mp his
  exact ⟨0, by simp [valD, pick, vsum], Nat.le_refl _⟩
structure GInv2 (Z : List Int) (KS : List (List Int)) (t : Nat) (done : List Int → Nat → Prop) (kvs : List (List Key × D)) : Prop where
  b : ∀ kv ∈ kvs, ∃ is ∈ nd KS.length (t + 1), kv = (keyL (vsum Z (pick KS is)), .int (lastK is : Nat))
  a : ∀ c k v, done c k → KS[k]? = some v → ∃ w : Nat, valD kvs (keyL (addV c v)) = some (.int (w : Nat)) ∧ w ≤ k
theorem GInv2.get {Z : List Int} {KS : List (List Int)} {t : Nat} {done : List Int → Nat → Prop} {kvs : List (List Key × D)} (h : GInv2 Z KS t done kvs) (c : List Int) (k : Nat) : ∃ w : Nat, (valD kvs (keyL c)).getD (.int (k : Nat)) = .int (w : Nat) ∧ ((∃ js ∈ nd KS.length (t + 1), keyL c = keyL (vsum Z (pick KS js)) ∧ w = lastK js) ∨ w = k) := by
  cases e : valD kvs (keyL c) with
  | none => exact ⟨k, rfl, .inr rfl⟩
  | some d =>
    obtain ⟨is, his, e2⟩ := h.b _ (valD_mem e)
    injection e2 with e3 e4
    exact ⟨lastK is, by rw [e4]; rfl, .inl ⟨is, his, e3, rfl⟩⟩
theorem GInv2.put {Z : List Int} {KS : List (List Int)} {t k w : Nat} {done : List Int → Nat → Prop} {kvs : List (List Key × D)} {is : List Nat} {v : List Int} (h : GInv2 Z KS t done kvs) (his : is ∈ nd KS.length t) (hk : lastK is ≤ k) (hv : KS[k]? = some v)
    (hw : (valD kvs (keyL (addV (vsum Z (pick KS is)) v))).getD (.int (k : Nat)) = .int (w : Nat)) :
    GInv2 Z KS t (fun c j => done c j ∨ (c = vsum Z (pick KS is) ∧ j = k)) (putD kvs (keyL (addV (vsum Z (pick KS is)) v)) (.int ((min w k : Nat) : Nat))) := by
  have hkl := (List.getElem?_eq_some_iff.mp hv).1
  have hjs : is ++ [k] ∈ nd KS.length (t + 1) := List.mem_flatMap.mpr ⟨is, his, List.mem_map.mpr ⟨k - lastK is, List.mem_range.mpr (by omega), by rw [show lastK is + (k - lastK is) = k by omega]⟩⟩
  have hsum : vsum Z (pick KS (is ++ [k])) = addV (vsum Z (pick KS is)) v := by rw [pick_snoc hv, vsum_snoc]
  obtain ⟨w', e1, e2⟩ := h.get (addV (vsum Z (pick KS is)) v) k
  have ew : w' = w := by
    rw [hw] at e1
    injection e1 with e1
    omega
  subst ew
  refine ⟨fun kv hkv => ?_, fun c j x hd hx => ?_⟩
  · rcases mem_putD hkv with rfl | hkv
    · by_cases z : w' ≤ k
      · rw [Nat.min_eq_left z]
        rcases e2 with ⟨js, hj, e3, e4⟩ | e2
        · exact ⟨js, hj, by rw [e3, e4]⟩
        · exact ⟨is ++ [k], hjs, by rw [hsum, lastK_snoc, e2]⟩
      · rw [Nat.min_eq_right (by omega)]
        exact ⟨is ++ [k], hjs, by rw [hsum, lastK_snoc]⟩
    · exact h.b kv hkv
  · rw [val_put]
    by_cases z : keyL (addV (vsum Z (pick KS is)) v) = keyL (addV c x)
    · rw [if_pos z]
      refine ⟨min w' k, rfl, ?_⟩
      rcases hd with hd | ⟨rfl, rfl⟩
      · obtain ⟨w2, f1, f2⟩ := h.a c j x hd hx
        rw [← z] at f1
        rw [f1] at hw
        injection hw with hw
        omega
      · exact Nat.min_le_right _ _
    · rw [if_neg z]
      rcases hd with hd | ⟨rfl, rfl⟩
      · exact h.a c j x hd hx
      · rw [hv] at hx
        cases hx
        exact absurd rfl z
theorem GInv2.mono {Z : List Int} {KS : List (List Int)} {t : Nat} {d1 d2 : List Int → Nat → Prop} {kvs : List (List Key × D)} (h : GInv2 Z KS t d1 kvs) (hd : ∀ c k, d2 c k → d1 c k) : GInv2 Z KS t d2 kvs := ⟨h.b, fun c k v z => h.a c k v (hd c k z)⟩
theorem GInv2.nil {Z : List Int} {KS : List (List Int)} {t : Nat} : GInv2 Z KS t (fun _ _ => False) [] := ⟨fun _ h => (nomatch h), fun _ _ _ h => h.elim⟩
theorem GInv2.done {Z : List Int} {KS : List (List Int)} {t : Nat} {kvs kvs' : List (List Key × D)} (h : FInv Z KS t kvs) (g : GInv2 Z KS t (fun c k => ∃ v : Nat, valD kvs (keyL c) = some (.int (v : Nat)) ∧ v ≤ k ∧ k < KS.length) kvs') (hl : kvs'.length ≤ KS.length ^ (t + 1)) : FInv Z KS (t + 1) kvs' := by
  refine ⟨hl, g.b, fun js hjs => ?_⟩
  obtain ⟨is, his, hj⟩ := List.mem_flatMap.mp hjs
  unfold nextN at hj
  obtain ⟨j, hjr, rfl⟩ := List.mem_map.mp hj
  have hjr := List.mem_range.mp hjr
  have hk : lastK is + j < KS.length := by omega
  obtain ⟨v, e1, e2⟩ := h.a is his
  obtain ⟨w, f1, f2⟩ := g.a (vsum Z (pick KS is)) (lastK is + j) _ ⟨v, e1, by omega, hk⟩ (List.getElem?_eq_getElem hk)
  refine ⟨w, ?_, by rw [lastK_snoc]; exact f2⟩
  rw [pick_snoc (List.getElem?_eq_getElem hk), vsum_snoc]
  exact f1
end

set_option maxHeartbeats 1000000
section
open PySem PySem.Spec L2 DM
abbrev HL := List (Int × Int)
def lookH (h : HL) (b : Int) : Option Int := (h.find? fun p => decide (p.1 = b)).map (·.2)
def cntH (h : HL) (t : Int) : Nat := h.countP fun p => decide (p.2 = t)
def sidL (SD : HL) (t : Int) : List Int := match SD[t.toNat]? with
  | some p => [p.1, p.2]
  | none => []
structure GoodH (SD : HL) (h : HL) : Prop where
  nd : (h.map (·.1)).Nodup
  ok : ∀ p ∈ h, 0 ≤ p.2 ∧ p.2 < (SD.length : Int) ∧ p.1 ∈ sidL SD p.2
structure WidT (SD h : HL) (n : Int) (s : List Int) (h' : HL) (s' : List Int) : Prop where
  good : GoodH SD h'
  cnt : ∀ t, cntH h' t = cntH h t + if t = n then 1 else 0
  keep : ∀ c ∈ s, lookH h' c = lookH h c
  sub : ∀ c ∈ s, c ∈ s'
structure WidF (SD h : HL) (bs : List Int) (s : List Int) (h' : HL) (s' : List Int) : Prop where
  same : h' = h
  sub : ∀ c ∈ s, c ∈ s'
  own : ∀ b ∈ bs, b ∈ s'
  cl : ∀ b ∈ s', b ∉ s → ∃ t, lookH h b = some t ∧ ∀ c ∈ sidL SD t, c ∈ s'
  nd : s.Nodup → s'.Nodup
theorem sid_AB {SD : HL} {AB : List Int} (hAB : ∀ p ∈ SD, p.1 ∈ AB ∧ p.2 ∈ AB) (n : Int) : ∀ b ∈ sidL SD n, b ∈ AB := by
  intro b hb
  unfold sidL at hb
  cases e : SD[n.toNat]? with
  | none => rw [e] at hb; cases hb
  | some p =>
    rw [e] at hb
    obtain ⟨h1, h2⟩ := hAB p (List.mem_of_getElem? e)
    simp at hb
    rcases hb with rfl | rfl
    · exact h1
    · exact h2
structure LayOk (SD : HL) (k : Nat) (h : HL) : Prop where
  good : GoodH SD h
  cnt : ∀ t, cntH h t = if 0 ≤ t ∧ t < (k : Int) then 1 else 0
structure CrowdOk (SD : HL) (k : Nat) (h : HL) (s : List Int) : Prop where
  lay : LayOk SD k h
  lt : k < SD.length
  nd : s.Nodup
  own : ∀ b ∈ sidL SD k, b ∈ s
  cl : ∀ b ∈ s, ∃ t, lookH h b = some t ∧ ∀ c ∈ sidL SD t, c ∈ s
end

set_option maxHeartbeats 1000000
section
open PySem PySem.Spec L2 DM
local macro_rules | `(tactic| walk_at "d") => `(tactic| simp! only [w_dnew, w_dput, kDP1_d, kDP2_e])
noncomputable def bdW (rec : MF) : MS := (sIf (bOf (eOp2 dninF (eVar 4) (eVar 3))) (sSeq (sDPut (eVar 3) (eVar 4) (eC (.bl true)))
    (sIf (bOr (bOf (eOp2 dninF (eVar 4) (eVar 1))) (bOf (eCall rec [(eVar 0), (eVar 1), (eOp2 dgetF (eVar 1) (eVar 4)), (eVar 3)]))) (sSeq (sDPut (eVar 1) (eVar 4) (eVar 2))
    (sRet (eC (.bl true)))) sNop)) sNop)
noncomputable def mb_widR (rec : MF) : MS := (sSeq (sFor (miSeq (qE (eOp2 ixF (eVar 0) (eVar 2)))) (tgName 4) (bdW rec))
    (sRet (eC (.bl false))))
noncomputable def m_widR : Nat → MF
  | 0 => fun _ _ => .bad
  | n + 1 => mFun 4 5 (mb_widR (m_widR n))
section
variable {S : Store} {hd sd : Nat} {h h' : HL} {s s' : List Int}
end
theorem nodup_lenI : ∀ (l L : List Int), l.Nodup → (∀ x ∈ l, x ∈ L) → l.length ≤ L.length
  | [], _, _, _ => Nat.zero_le _
  | x :: l, L, hn, h => by
    have hx := h x List.mem_cons_self
    have h1 := nodup_lenI l (L.erase x) (List.nodup_cons.mp hn).2 fun y hy => by
      have hne : y ≠ x := fun z => (List.nodup_cons.mp hn).1 (z ▸ hy)
      exact (List.mem_erase_of_ne hne).mpr (h y (List.mem_cons_of_mem _ hy))
    rw [List.length_erase_of_mem hx] at h1
    have := List.length_pos_of_mem hx
    rw [List.length_cons]
    omega
theorem GoodH.len {SD h : HL} {AB : List Int} (g : GoodH SD h) (hAB : ∀ p ∈ SD, p.1 ∈ AB ∧ p.2 ∈ AB) : h.length ≤ AB.length := by
  have := nodup_lenI (h.map (·.1)) AB g.nd fun x hx => by
    obtain ⟨p, hp, rfl⟩ := List.mem_map.mp hx
    exact sid_AB hAB _ _ (g.ok p hp).2.2
  simpa using this
end

set_option maxHeartbeats 1000000
section
open PySem PySem.Spec L2 DM
structure LayX (SD : HL) (BX : List Int) : Prop where
  len : BX.length = SD.length
  own : ∀ (i : Nat) (b : Int), BX[i]? = some b → b ∈ sidL SD i
  nd : BX.Nodup
structure CrowdX (SD : HL) (TS : List Int) : Prop where
  inc : TS.Pairwise (· < ·)
  rng : ∀ t ∈ TS, 0 ≤ t ∧ t < (SD.length : Int)
  few : ∃ s : List Int, s.length < TS.length ∧ ∀ t ∈ TS, ∀ b ∈ sidL SD t, b ∈ s
theorem LayX.can {SD : HL} {BX TS : List Int} (h : LayX SD BX) (k : CrowdX SD TS) : False := by
  obtain ⟨s, hs, hb⟩ := k.few
  have hn : TS.Nodup := k.inc.imp fun h => by omega
  have h1 := nodup_lenI (TS.map fun t => BX[t.toNat]?.getD 0) s ?_ fun b hb2 => ?_
  · rw [List.length_map] at h1; omega
  · refine List.Pairwise.map _ (R := fun a b : Int => a ∈ TS ∧ b ∈ TS ∧ a ≠ b) ?_ (List.Pairwise.imp_of_mem (fun {a b} ha hb hab => ⟨ha, hb, hab⟩) hn)
    rintro a b ⟨ha, hb, hne⟩ z
    obtain ⟨a0, al⟩ := k.rng a ha
    obtain ⟨b0, bl⟩ := k.rng b hb
    have hla : a.toNat < BX.length := by rw [h.len]; omega
    have hlb : b.toNat < BX.length := by rw [h.len]; omega
    rw [List.getElem?_eq_getElem hla, List.getElem?_eq_getElem hlb] at z
    have z : BX[a.toNat] = BX[b.toNat] := z
    have := (List.getElem_inj h.nd).mp z
    omega
  · obtain ⟨t, ht, rfl⟩ := List.mem_map.mp hb2
    obtain ⟨a0, al⟩ := k.rng t ht
    have hla : t.toNat < BX.length := by rw [h.len]; omega
    have e := List.getElem?_eq_getElem hla
    rw [e]
    have := h.own _ _ e
    have e2 : ((t.toNat : Nat) : Int) = t := by omega
    rw [e2] at this
    exact hb t ht _ this
noncomputable def bdL (mw : MF) : MS := (sSeq (sSet 3 (eDNew false))
    (sIf (bNot (bOf (eCall mw [(eVar 0), (eVar 1), (eVar 2), (eVar 3)]))) (sRet (eTup [(eC (.str "crowded")), (eOpN sortedF [(eOp2 addF (eLst [(eVar 2)]) (eLk 3 (eComp (miKeys 3) (tgName 5) bYes (eOp2 dgetF (eVar 1) (eVar 5)) [5])))])])) sNop))
noncomputable def mb_locR : MS := (sSeq (sSet 1 (eDNew false))
    (sSeq (sFor (miRng1 (eOpN lenF [(eVar 0)])) (tgName 2) (bdL (m_widR 70)))
    (sSeq (sSet 4 (eDictP [(eLk 1 (eComp (miKeys 1) (tgName 5) bYes (eTup [(eOp2 dgetF (eVar 1) (eVar 5)), (eVar 5)]) [5]))]))
    (sRet (eTup [(eC (.str "laid")), (eComp (miRng1 (eOpN lenF [(eVar 0)])) (tgName 2) bYes (eOp2 dgetF (eVar 4) (eVar 2)) [2])])))))
noncomputable def m_locR : MF := mFun 1 6 mb_locR
end

set_option maxHeartbeats 1000000
section
open PySem PySem.Spec L2 DM
def CanLay (SD : HL) : Prop := ∃ BX, LayX SD BX
noncomputable def mb_twoR : MS := (sSeq (sDrop (eCall m_need_two [(eVar 0), (eVar 1), (eVar 2), (eVar 3)]))
    (sSeq (sAsg (tgTup 2 (tgCons (tgName 4) (tgCons (tgName 5) tgNil))) (eCall m_locR [(eCall m_sides_of [(eVar 0), (eVar 1), (eVar 2), (eVar 3)])]))
    (sSeq (sIf (bOf (eOp2 eqF (eVar 4) (eC (.str "crowded")))) (sRet (eTup [(eVar 4), (eOpN tupF [(eComp (miSeq (qC (eVar 5))) (tgName 6) bYes (eOp2 ixF (eVar 3) (eVar 6)) [6])])])) sNop)
    (sRet (eTup [(eVar 4), (eOpN tupF [(eVar 5)])])))))
noncomputable def m_twoR : MF := mFun 4 7 (mb_twoR)
section
variable {b n : Nat} {m : Int} {u : Nat} {rows : List (List Int)} {S : Store}
end
end

set_option maxHeartbeats 1000000
section
open PySem PySem.Spec L2 DM
section
variable {b n : Nat} {m : Int} {u : Nat} {rows : List (List Int)} {S : Store}
end
end

set_option maxHeartbeats 1000000
section
open PySem PySem.Spec L2 DM
end

set_option maxHeartbeats 1000000
section
open PySem PySem.Spec L2 DM
def everN (n : Nat) : List Int := (List.range n).map fun (k : Nat) => (k : Int)
theorem everN_rs (n : Nat) : RsOk n (everN n) := by
  refine ⟨?_, fun x hx => ?_⟩
  · unfold everN
    refine List.Pairwise.map _ (R := (· < ·)) (fun a b h => ?_) List.pairwise_lt_range
    omega
  · obtain ⟨k, hk, rfl⟩ := List.mem_map.mp hx
    have := List.mem_range.mp hk
    omega
theorem everN_len (n : Nat) : (everN n).length = n := by unfold everN; rw [List.length_map, List.length_range]
end

set_option maxHeartbeats 1000000
section
open PySem PySem.Spec L2 DM
theorem CrowdX.not {SD : HL} {TS : List Int} (h : CrowdX SD TS) : ¬ CanLay SD := fun ⟨_, hL⟩ => hL.can h
section
variable {b n : Nat} {m : Int} {u : Nat} {rows : List (List Int)} {S : Store}
end
end

set_option maxHeartbeats 1000000
section
open PySem PySem.Spec L2 DM
end

set_option maxHeartbeats 1000000
section
open PySem PySem.Spec L2 DM
def subsL (l : List Int) : List (List Int) := l.foldl (fun acc x => acc ++ acc.map fun C => C ++ [x]) [[]]
theorem subsL_snoc {l : List Int} {x : Int} : subsL (l ++ [x]) = subsL l ++ (subsL l).map fun C => C ++ [x] := by
  unfold subsL
  rw [List.foldl_append]
  rfl
theorem subsL_len (l : List Int) : (subsL l).length = 2 ^ l.length := by
  generalize hn : l.length = n
  induction n generalizing l with
  | zero =>
    have : l = [] := List.length_eq_zero_iff.mp hn
    subst this
    rfl
  | succ n ih =>
    rcases List.eq_nil_or_concat l with rfl | ⟨L, b, rfl⟩
    · simp at hn
    · rw [List.concat_eq_append, subsL_snoc, List.length_append, List.length_map, ih L (by simpa using hn)]
      omega
theorem subsL_mem {l : List Int} : ∀ C, C ∈ subsL l ↔ C.Sublist l := by
  generalize hn : l.length = n
  induction n generalizing l with
  | zero =>
    have : l = [] := List.length_eq_zero_iff.mp hn
    subst this
    intro C
    show C ∈ [[]] ↔ _
    rw [List.mem_singleton, List.sublist_nil]
  | succ n ih =>
    rcases List.eq_nil_or_concat l with rfl | ⟨L, b, rfl⟩
    · simp at hn
    · intro C
      have ih := ih (l := L) (by simpa using hn)
      rw [List.concat_eq_append, subsL_snoc, List.mem_append, List.mem_map, List.sublist_append_iff]
      constructor
      · rintro (h | ⟨C', h, rfl⟩)
        · exact ⟨C, [], by simp, (ih C).mp h, List.nil_sublist _⟩
        · exact ⟨C', [b], rfl, (ih C').mp h, List.Sublist.refl _⟩
      · rintro ⟨l1, l2, rfl, h1, h2⟩
        cases l2 with
        | nil => left; rw [List.append_nil]; exact (ih l1).mpr h1
        | cons y l2 =>
          right
          have h3 := h2.length_le
          have : l2 = [] := by
            cases l2 with
            | nil => rfl
            | cons _ _ => simp at h3
          subst this
          have hy : y = b := by
            have := h2.subset (List.mem_cons_self)
            simpa using this
          subst hy
          exact ⟨l1, (ih l1).mpr h1, rfl⟩
end

set_option maxHeartbeats 1000000
section
open PySem PySem.Spec L2 DM
def rowK (rows : List (List Int)) (k : Int) : List Int := rows[k.toNat]?.getD []
def pAt (rows : List (List Int)) (sm : List Int) (x : Int) : List (Int × List Int) := (setI (sm.map fun k => at_ (rowK rows k) x)).map fun b => (b, sm.filter fun k => decide (at_ (rowK rows k) x = b))
def knownD (sm : List Int) : D := .tup [.str "known", rowL sm]
def maxN (l : List Nat) : Nat := l.foldl max 0
theorem parts_mem {rows : List (List Int)} {sm : List Int} {x : Int} {p : Int × List Int} (h : p ∈ pAt rows sm x) : p.1 ∈ sm.map (fun k => at_ (rowK rows k) x) ∧ p.2 = sm.filter fun k => decide (at_ (rowK rows k) x = p.1) := by
  unfold pAt at h
  obtain ⟨b, hb, rfl⟩ := List.mem_map.mp h
  exact ⟨setI_mem.mp hb, rfl⟩
theorem parts_fst (rows : List (List Int)) (sm : List Int) (x : Int) : (pAt rows sm x).map (·.1) = setI (sm.map fun k => at_ (rowK rows k) x) := by
  unfold pAt
  rw [List.map_map]
  exact List.map_id' _
theorem parts_lt {rows : List (List Int)} {sm : List Int} {x : Int} (h : 1 < (pAt rows sm x).length) {p : Int × List Int} (hp : p ∈ pAt rows sm x) : p.2.length < sm.length ∧ 0 < p.2.length := by
  obtain ⟨h1, h2⟩ := parts_mem hp
  have hle : p.2.length ≤ sm.length := by rw [h2]; exact List.length_filter_le _ _
  have hpos : 0 < p.2.length := by
    obtain ⟨k, hk, e⟩ := List.mem_map.mp h1
    rw [h2]
    exact List.length_pos_of_mem (List.mem_filter.mpr ⟨hk, decide_eq_true e⟩)
  refine ⟨?_, hpos⟩
  by_cases z : p.2.length = sm.length
  · exfalso
    have hall : ∀ k ∈ sm, at_ (rowK rows k) x = p.1 := by
      rw [h2] at z
      have := List.length_filter_eq_length_iff.mp z
      exact fun k hk => of_decide_eq_true (this k hk)
    have hs : setI (sm.map fun k => at_ (rowK rows k) x) = [p.1] := by
      symm
      refine setI_eq (by simp) fun k => ?_
      rw [List.mem_singleton]
      constructor
      · rintro rfl; exact h1
      · intro hk
        obtain ⟨j, hj, rfl⟩ := List.mem_map.mp hk
        exact hall j hj
    have := congrArg List.length (parts_fst rows sm x)
    rw [hs, List.length_map] at this
    simp at this
    omega
  · omega
end

set_option maxHeartbeats 1000000
section
open PySem PySem.Spec L2 DM
def partD (p : Int × List Int) : D := .tup [.int p.1, rowL p.2]
noncomputable def mb_parR : MS := (sSeq (sSet 3 (eSortedSet (eComp (miSeq (qC (eVar 1))) (tgName 5) bYes (eOp2 ixF (eOp2 ixF (eOp2 ixF (eVar 0) (eC (.int 1))) (eVar 5)) (eVar 2)) [5])))
    (sRet (eComp (miSeq (qC (eVar 3))) (tgName 4) bYes (eTup [(eVar 4), (eOpN tupF [(eComp (miSeq (qC (eVar 1))) (tgName 5) (bOf (eOp2 eqF (eOp2 ixF (eOp2 ixF (eOp2 ixF (eVar 0) (eC (.int 1))) (eVar 5)) (eVar 2)) (eVar 4))) (eVar 5) [5])])]) [4])))
noncomputable def m_parR : MF := mFun 3 6 (mb_parR)
section
variable {m : Int} {u : Nat} {rows : List (List Int)} {S : Store}
theorem rowK_at (h : BookOk m u rows) {k : Int} (k0 : 0 ≤ k) (kl : k < rows.length) : atI (rows.map rowL) k = some (rowL (rowK rows k)) ∧ (rowK rows k).length = u := by
  have hl : k.toNat < rows.length := by omega
  have e : rowK rows k = rows[k.toNat] := by
    unfold rowK
    rw [List.getElem?_eq_getElem hl]
    rfl
  refine ⟨?_, by rw [e]; exact (h.ok _ (List.getElem_mem hl)).1⟩
  rw [atI_map, DM.atI_int k0 kl, List.getElem?_eq_getElem hl, e]
  rfl
theorem parted_w {sm : List Int} {x : Int} (h : BookOk m u rows) (hs : ∀ k ∈ sm, 0 ≤ k ∧ k < rows.length) (hl : sm.length < 64) (x0 : 0 ≤ x) (xu : x < u) : m_parR [.d (bookD m rows), .d (rowL sm), .d (.int x)] S = .ok (.l true ((pAt rows sm x).map partD)) S := by
  refine eq_of (fun_w ?_)
  unfold mb_parR
  simp! only [w_sortedSet]
  refine comp_all (ck := fun _ => True) (l := sm) (F := D.int) (fun k => .int (at_ (rowK rows k) x)) (le_line (by omega)) trivial (fun j k hk => ?_) ?_
  · obtain ⟨k0, kl⟩ := hs k (List.mem_of_getElem? hk)
    obtain ⟨a1, a2⟩ := rowK_at h k0 kl
    have b1 := row_atI (r := rowK rows k) (x := x) x0 (by omega)
    refine ⟨_, rfl, ?_⟩
    simp! only [a1, b1]
  · have e1 : (sm.map fun k => D.int (at_ (rowK rows k) x)) = (sm.map fun k => at_ (rowK rows k) x).map D.int := by rw [List.map_map]; rfl
    rw [e1]
    have e2 := sortedSet_e (S := S) (b := false) (ns := sm.map fun k => at_ (rowK rows k) x) (by rw [List.length_map]; omega)
    simp! only [kSortedSet_l, e2]
    obtain ⟨B, hB⟩ : ∃ B, B = setI (sm.map fun k => at_ (rowK rows k) x) := ⟨_, rfl⟩
    rw [← hB]
    have hBl : B.length ≤ sm.length := by
      have := nodup_lenI B (sm.map fun k => at_ (rowK rows k) x) (by rw [hB]; exact setI_nodup _) fun z hz => by rw [hB] at hz; exact setI_mem.mp hz
      rwa [List.length_map] at this
    refine comp_all (ck := fun _ => True) (l := B) (F := D.int) (fun b => .tup [.int b, rowL (sm.filter fun k => decide (at_ (rowK rows k) x = b))]) (le_line (by omega)) trivial (fun j b hb => ?_) ?_
    · refine ⟨_, rfl, ?_⟩
      walk_at "w"
      refine comp_fil (ck := fun _ => True) (l := sm) (F := D.int) (fun k => decide (at_ (rowK rows k) x = b)) D.int (le_line (by omega)) trivial (fun j k hk => ?_) ?_
      · obtain ⟨k0, kl⟩ := hs k (List.mem_of_getElem? hk)
        obtain ⟨a1, a2⟩ := rowK_at h k0 kl
        have b1 := row_atI (r := rowK rows k) (x := x) x0 (by omega)
        refine ⟨_, rfl, ?_, fun _ => ?_⟩
        · simp! only [a1, b1]
        · walk_at "w"
      · walk_at "w"
        decide
    · walk_at "w"
      unfold pAt
      rw [List.map_map, ← hB]
      rfl
end
structure LOk (n : Nat) (L : List (List Int)) : Prop where
  nd : L.Nodup
  sub : ∀ s ∈ L, s.Sublist (everN n)
theorem nodup_lenL {T : Type} [DecidableEq T] : ∀ (l L : List T), l.Nodup → (∀ x ∈ l, x ∈ L) → l.length ≤ L.length
  | [], _, _, _ => Nat.zero_le _
  | x :: l, L, hn, h => by
    have hx := h x List.mem_cons_self
    have h1 := nodup_lenL l (L.erase x) (List.nodup_cons.mp hn).2 fun y hy => by
      have hne : y ≠ x := fun z => (List.nodup_cons.mp hn).1 (z ▸ hy)
      exact (List.mem_erase_of_ne hne).mpr (h y (List.mem_cons_of_mem _ hy))
    rw [List.length_erase_of_mem hx] at h1
    have := List.length_pos_of_mem hx
    rw [List.length_cons]
    omega
theorem LOk.len {n : Nat} {L : List (List Int)} (h : LOk n L) : L.length ≤ 2 ^ n := by
  have := nodup_lenL L (subsL (everN n)) h.nd fun s hs => (subsL_mem s).mpr (h.sub s hs)
  rwa [subsL_len, everN_len] at this
section
variable {T : Type} {g : List Int → D} {L : List (List Int)} {s : List Int}
end
end

set_option maxHeartbeats 2000000
section
open PySem PySem.Spec L2 DM
theorem foldl_maxN (l : List Nat) : ∀ a, l.foldl max a = max a (l.foldl max 0) := by
  induction l with
  | nil => intro a; simp
  | cons x l ih =>
    intro a
    rw [List.foldl_cons, List.foldl_cons, ih (max a x), ih (max 0 x)]
    omega
theorem maxN_cons {x : Nat} {l : List Nat} : maxN (x :: l) = max x (maxN l) := by
  unfold maxN
  rw [List.foldl_cons, foldl_maxN l (max 0 x)]
  omega
theorem maxI_N : ∀ l : List Nat, maxI (l.map fun (k : Nat) => (k : Int)) = ((maxN l : Nat) : Int)
  | [] => rfl
  | [x] => by
    show (x : Int) = _
    rw [maxN_cons]
    show (x : Int) = ((max x 0 : Nat) : Int)
    omega
  | x :: y :: l => by
    have ih := maxI_N (y :: l)
    rw [maxN_cons]
    show (if maxI ((y :: l).map fun (k : Nat) => (k : Int)) > (x : Int) then maxI ((y :: l).map fun (k : Nat) => (k : Int)) else (x : Int)) = _
    rw [ih]
    split <;> omega
end

set_option maxHeartbeats 1000000
section
open PySem PySem.Spec L2 DM
section
variable {u : Nat} {rows : List (List Int)}
end
end

set_option maxHeartbeats 1000000
section
open PySem PySem.Spec L2 DM
section
variable {u : Nat} {rows : List (List Int)}
theorem part_of {sm : List Int} {x k : Int} (hk : k ∈ sm) : (at_ (rowK rows k) x, sm.filter fun j => decide (at_ (rowK rows j) x = at_ (rowK rows k) x)) ∈ pAt rows sm x := by
  unfold pAt
  exact List.mem_map.mpr ⟨_, setI_mem.mpr (List.mem_map.mpr ⟨k, hk, rfl⟩), rfl⟩
theorem splitsK {sm : List Int} {x j k : Int} (hj : j ∈ sm) (hk : k ∈ sm) (hne : at_ (rowK rows j) x ≠ at_ (rowK rows k) x) : 1 < (pAt rows sm x).length := by
  have h1 := part_of (rows := rows) (x := x) hj
  have h2 := part_of (rows := rows) (x := x) hk
  generalize pAt rows sm x = l at h1 h2
  match l, h1, h2 with
  | [a], h1, h2 =>
    have := (List.mem_singleton.mp h1).trans (List.mem_singleton.mp h2).symm
    injection this with this _
    exact absurd this hne
  | a :: b :: l, _, _ => simp
end
end

section
open PySem PySem.Spec L2 DM
noncomputable def mb_wayR (rec : MF) : MS := (sSeq (sIf (bOr (bNot (bOf (eOpN isiF [(eVar 3), (eC (.ty "tuple"))]))) (bOr (bOf (eOp2 neF (eOpN lenF [(eVar 3)]) (eC (.int 2)))) (bNot (bOf (eCall m_is_whole [(eOp2 ixF (eVar 3) (eC (.int 0)))]))))) (sRet (eC (.bl false))) sNop)
    (sRet (eAnd (eOp2 eqF (eOp2 ixF (eVar 3) (eC (.int 0))) (eVar 1)) (eCall rec [(eVar 0), (eVar 2), (eOp2 ixF (eVar 3) (eC (.int 1)))]))))
noncomputable def m_wayR (rec : MF) : MF := mFun 4 4 (mb_wayR rec)
noncomputable def mb_planR (rec : MF) : MS := (sSeq (sIf (bOr (bNot (bOf (eOpN isiF [(eVar 2), (eC (.ty "tuple"))]))) (bOr (bOf (eOp2 eqF (eOpN lenF [(eVar 2)]) (eC (.int 0)))) (bNot (bOf (eOpN isiF [(eOp2 ixF (eVar 2) (eC (.int 0))), (eC (.ty "str"))]))))) (sRet (eC (.bl false))) sNop)
    (sSeq (sIf (bOf (eOp2 eqF (eOp2 ixF (eVar 2) (eC (.int 0))) (eC (.str "known")))) (sRet (eCall m_is_end [(eVar 0), (eVar 1), (eVar 2)])) sNop)
    (sSeq (sIf (bOr (bOf (eOp2 neF (eOp2 ixF (eVar 2) (eC (.int 0))) (eC (.str "ask")))) (bOr (bOf (eOp2 neF (eOpN lenF [(eVar 2)]) (eC (.int 3)))) (bOr (bNot (bOf (eCall m_is_whole [(eOp2 ixF (eVar 2) (eC (.int 1)))]))) (bNot (bOf (eOpN isiF [(eOp2 ixF (eVar 2) (eC (.int 2))), (eC (.ty "tuple"))])))))) (sRet (eC (.bl false))) sNop)
    (sSeq (sIf (bNot (bOf (eChain leF ltF (eC (.int 0)) (eOp2 ixF (eVar 2) (eC (.int 1))) (eCall m_things_of [(eVar 0)])))) (sRet (eC (.bl false))) sNop)
    (sSeq (sSet 3 (eCall m_parR [(eVar 0), (eVar 1), (eOp2 ixF (eVar 2) (eC (.int 1)))]))
    (sSeq (sIf (bOr (bOf (eOp2 ltF (eOpN lenF [(eVar 3)]) (eC (.int 2)))) (bOf (eOp2 neF (eOpN lenF [(eOp2 ixF (eVar 2) (eC (.int 2)))]) (eOpN lenF [(eVar 3)])))) (sRet (eC (.bl false))) sNop)
    (sRet (eOpN allF [(eComp (miZipM (qC (eVar 3)) (qC (eOp2 ixF (eVar 2) (eC (.int 2))))) (tgTup 2 (tgCons (tgName 4) (tgCons (tgName 5) tgNil))) bYes (eCall (m_wayR rec) [(eVar 0), (eOp2 ixF (eVar 4) (eC (.int 0))), (eOp2 ixF (eVar 4) (eC (.int 1))), (eVar 5)]) [4, 5])]))))))))
noncomputable def m_planR : Nat → MF
  | 0 => fun _ _ => .bad
  | n + 1 => mFun 3 6 (mb_planR (m_planR n))
section
variable {m : Int} {u : Nat} {rows : List (List Int)} {S : Store}
theorem row0R_w (h : BookOk m u rows) : ∃ r0, atI (rows.map rowL) 0 = some (rowL r0) ∧ r0.length = u := by
  have := List.length_pos_iff.mpr h.ne
  obtain ⟨r, er, hr2, hz⟩ := DM.atI_get (l := rows) (i := 0) (by omega) (by omega)
  exact ⟨r, by rw [atI_map, er]; rfl, (h.ok r hr2).1⟩
theorem same_of {sm : List Int} (h : BookOk m u rows) (hs : ∀ k ∈ sm, 0 ≤ k ∧ k < rows.length) (hp : ∀ x : Nat, x < u → ¬ 1 < (pAt rows sm x).length) {k k0 : Int} (hk : k ∈ sm) (hm0 : k0 ∈ sm) : rowK rows k = rowK rows k0 := by
  obtain ⟨_, l1⟩ := rowK_at h (hs k hk).1 (hs k hk).2
  obtain ⟨_, l2⟩ := rowK_at h (hs k0 hm0).1 (hs k0 hm0).2
  refine List.ext_getElem (by omega) fun x hx1 hx2 => ?_
  have e3 : at_ (rowK rows k) x = at_ (rowK rows k0) x := Decidable.byContradiction fun hne => hp x (by omega) (splitsK hk hm0 hne)
  unfold at_ at e3
  rw [Int.toNat_natCast, List.getD_eq_getElem?_getD, List.getD_eq_getElem?_getD, List.getElem?_eq_getElem hx1, List.getElem?_eq_getElem hx2] at e3
  exact e3
end
end

section
open PySem PySem.Spec L2 DM
def wtD (S : Store) : Nat → D → Nat
  | 0, _ => 1
  | k + 1, .tup ds => 1 + (ds.map (wtD S k)).sum
  | k + 1, .loc l => 1 + match S[l]? with
    | some (.lst ds) => (ds.map (wtD S k)).sum
    | _ => 0
  | _ + 1, _ => 1
theorem wt_pos {S : Store} : ∀ {k : Nat} {d : D}, 1 ≤ wtD S k d
  | 0, _ => Nat.le_refl _
  | k + 1, .tup ds => Nat.le_add_right _ _
  | k + 1, .loc l => Nat.le_add_right _ _
  | _ + 1, .non => Nat.le_refl _
  | _ + 1, .bl _ => Nat.le_refl _
  | _ + 1, .int _ => Nat.le_refl _
  | _ + 1, .str _ => Nat.le_refl _
  | _ + 1, .ty _ => Nat.le_refl _
  | _ + 1, .cls _ => Nat.le_refl _
  | _ + 1, .fn _ => Nat.le_refl _
  | _ + 1, .exn _ _ => Nat.le_refl _
  | _ + 1, .scr _ => Nat.le_refl _
theorem wt_up {b : Nat} {S S' : Store} (hg : Grow b S S') : ∀ {k n : Nat} {d : D}, AnyD b S k d → k ≤ n → wtD S' n d = wtD S k d
  | 0, _, _, h, _ => h.elim
  | _ + 1, 0, _, _, h => absurd h (by omega)
  | k + 1, n + 1, .tup ds, h, hn => by
    show 1 + _ = 1 + _
    congr 2
    exact List.map_congr_left fun d hd => wt_up (k := k) hg (h.2 d hd) (by omega)
  | k + 1, n + 1, .loc l, h, hn => by
    obtain ⟨hb, ds, e, _, hd⟩ := h
    have e1 : ds.map (wtD S' n) = ds.map (wtD S k) := List.map_congr_left fun d q => wt_up (k := k) hg (hd d q) (by omega)
    show 1 + (match S'[l]? with
      | some (.lst ds) => (ds.map (wtD S' n)).sum
      | _ => 0) = 1 + (match S[l]? with
      | some (.lst ds) => (ds.map (wtD S k)).sum
      | _ => 0)
    rw [hg.get e hb, e]
    show 1 + (ds.map (wtD S' n)).sum = 1 + (ds.map (wtD S k)).sum
    rw [e1]
  | _ + 1, _ + 1, .non, _, _ => rfl
  | _ + 1, _ + 1, .bl _, _, _ => rfl
  | _ + 1, _ + 1, .int _, _, _ => rfl
  | _ + 1, _ + 1, .str _, _, _ => rfl
  | _ + 1, _ + 1, .ty _, _, _ => rfl
  | _ + 1, _ + 1, .cls _, _, _ => rfl
  | _ + 1, _ + 1, .fn _, _, _ => rfl
  | _ + 1, _ + 1, .exn _ _, _, _ => rfl
  | _ + 1, _ + 1, .scr _, _, _ => rfl
theorem mapM_len {f : D → Option PyData} {g : D → Nat} : ∀ {ds : List D} {ps : List PyData}, ds.mapM f = some ps → (∀ d ∈ ds, ∀ p, f d = some p → (PyData.shown p).length + 10 ≤ 300 * g d) → ((PyData.shownAll ps).map (·.length)).sum + 10 * ps.length ≤ 300 * (ds.map g).sum ∧ ps.length = ds.length
  | [], ps, h, _ => by
    cases h
    exact ⟨Nat.le_refl _, rfl⟩
  | d :: ds, ps, h, hf => by
    rw [List.mapM_cons] at h
    cases e1 : f d with
    | none => rw [e1] at h; cases h
    | some p =>
      rw [e1] at h
      cases e2 : ds.mapM f with
      | none => rw [e2] at h; cases h
      | some qs =>
        rw [e2] at h
        cases h
        have h1 := hf d List.mem_cons_self p e1
        obtain ⟨h2, h3⟩ := mapM_len e2 fun d hd => hf d (List.mem_cons_of_mem _ hd)
        rw [shownAll_map] at h2 ⊢
        simp only [List.map_cons, List.sum_cons, List.length_cons]
        exact ⟨by omega, by omega⟩
theorem shown_wt {b : Nat} {S : Store} : ∀ (k n : Nat) (d : D) (p : PyData), AnyD b S k d → k ≤ n → pyD n S d = some p → (PyData.shown p).length + 10 ≤ 300 * wtD S k d
  | 0, _, _, _, h, _, _ => h.elim
  | _ + 1, 0, _, _, _, h, _ => absurd h (by omega)
  | k + 1, n + 1, .non, p, _, _, e => by
    cases e
    have : (PyData.shown .none).length = 4 := rfl
    have := wt_pos (S := S) (k := k + 1) (d := .non)
    omega
  | k + 1, n + 1, .bl b, p, _, _, e => by
    cases e
    have : (PyData.shown (.bool b)).length ≤ 5 := by cases b <;> decide
    have := wt_pos (S := S) (k := k + 1) (d := .bl b)
    omega
  | k + 1, n + 1, .int i, p, h, _, e => by
    cases e
    have h : i.natAbs < 2 ^ 200 := h
    have h2 : i.natAbs.log2 < 200 := by
      by_cases z : i.natAbs = 0
      · rw [z]; decide
      · exact (Nat.log2_lt z).mpr h
    have := int_text_length_le (a := i) (k := 200) (by decide) h2
    have e : (PyData.shown (.int i)).length = (toString i).length := len_str _
    have := wt_pos (S := S) (k := k + 1) (d := .int i)
    omega
  | k + 1, n + 1, .str x, p, h, _, e => by
    cases e
    have : (PyData.shown (.str x)).length ≤ 200 := h.2.2
    have := wt_pos (S := S) (k := k + 1) (d := .str x)
    omega
  | k + 1, n + 1, .tup ds, p, h, hn, e => by
    have e : (ds.mapM (pyD n S)).map PyData.tuple = some p := e
    cases e2 : ds.mapM (pyD n S) with
    | none => rw [e2] at e; cases e
    | some ps =>
      rw [e2] at e
      cases e
      obtain ⟨h1, h2⟩ := mapM_len (g := wtD S k) e2 fun d hd p hp => shown_wt k n d p (h.2 d hd) (by omega) hp
      have h3 : (PyData.shown (.tuple ps)).length ≤ _ := tupleText_len_le (PyData.shownAll ps)
      have h4 : (PyData.shownAll ps).length = ps.length := by rw [shownAll_map, List.length_map]
      have h5 : wtD S (k + 1) (.tup ds) = 1 + (ds.map (wtD S k)).sum := rfl
      omega
  | k + 1, n + 1, .loc l, p, h, hn, e => by
    obtain ⟨hb, ds, el, hd1, hd⟩ := h
    have e : (match S[l]? with
      | some (.lst ds) => (ds.mapM (pyD n S)).map PyData.list
      | _ => none) = some p := e
    rw [el] at e
    have e : (ds.mapM (pyD n S)).map PyData.list = some p := e
    cases e2 : ds.mapM (pyD n S) with
    | none => rw [e2] at e; cases e
    | some ps =>
      rw [e2] at e
      cases e
      obtain ⟨h1, h2⟩ := mapM_len (g := wtD S k) e2 fun d q p hp => shown_wt k n d p (hd d q) (by omega) hp
      have h3 : (PyData.shown (.list ps)).length ≤ _ := listText_len_le (PyData.shownAll ps)
      have h4 : (PyData.shownAll ps).length = ps.length := by rw [shownAll_map, List.length_map]
      have h5 : wtD S (k + 1) (.loc l) = 1 + (ds.map (wtD S k)).sum := by
        show 1 + (match S[l]? with
          | some (.lst ds) => (ds.map (wtD S k)).sum
          | _ => 0) = _
        rw [el]
      omega
  | _ + 1, _ + 1, .ty _, _, z, _, _ => z.elim
  | _ + 1, _ + 1, .cls _, _, z, _, _ => z.elim
  | _ + 1, _ + 1, .fn _, _, z, _, _ => z.elim
  | _ + 1, _ + 1, .exn _ _, _, z, _, _ => z.elim
  | _ + 1, _ + 1, .scr _, _, z, _, _ => z.elim
structure AnyV (b : Nat) (S : Store) (k w : Nat) (d : D) : Prop where
  any : AnyD b S k d
  wt : wtD S k d ≤ w
theorem anyv_repr {b k w : Nat} {S : Store} {d : D} (h : AnyV b S k w d) (hk : k ≤ 55) (hw : w ≤ 50000) : ∃ X : Str, PyData.canLay0 (.str X) = true ∧ ∀ S', Grow b S S' → reprF S' [.d d] = some (.d (.str X)) := by
  obtain ⟨p, e, h1, h2, h3, h4, h5⟩ := any_py k 64 d h.any (by omega)
  have h6 := shown_wt k 64 d p h.any (by omega) (e S (Grow.refl _ _))
  have h7 := h.wt
  refine ⟨PyData.shown p, okS_ok h4, fun S' x => ?_⟩
  show (pyR S' (.d d)).bind reprP = _
  have e' : pyR S' (.d d) = some p := e S' x
  rw [e']
  show (if SeqAt.shaped p = true ∧ PyData.showable p = true ∧ (PyData.shown p).length ≤ sizeLine then _ else _) = _
  have sh : SeqAt.shaped p = true := by
    unfold SeqAt.shaped
    rw [h1]
    exact decide_eq_true (by omega)
  have hb : (PyData.shown p).length ≤ sizeLine := by
    have : 300 * 50000 ≤ sizeLine := by decide
    omega
  rw [if_pos ⟨sh, h3, hb⟩]
structure AnyL (b : Nat) (S : Store) (k n w : Nat) (ds : List D) : Prop where
  len : ds.length ≤ n
  any : ∀ d ∈ ds, AnyD b S k d
  wt : (ds.map (wtD S k)).sum ≤ w
section
variable {b k n w : Nat} {S S' : Store} {d : D} {ds es : List D}
theorem AnyV.grow (h : AnyV b S k w d) (hg : Grow b S S') : AnyV b S' k w d := ⟨h.any.grow hg, by rw [wt_up hg h.any (Nat.le_refl _)]; exact h.wt⟩
theorem AnyV.up {k2 w2 : Nat} (h : AnyV b S k w d) (hk : k ≤ k2) (hw : w ≤ w2) : AnyV b S k2 w2 d := ⟨h.any.up hk, by rw [wt_up (Grow.refl _ _) h.any hk]; exact Nat.le_trans h.wt hw⟩
theorem AnyL.grow (h : AnyL b S k n w ds) (hg : Grow b S S') : AnyL b S' k n w ds := ⟨h.len, fun d hd => (h.any d hd).grow hg, by
  have : ds.map (wtD S' k) = ds.map (wtD S k) := List.map_congr_left fun d hd => wt_up hg (h.any d hd) (Nat.le_refl _)
  rw [this]
  exact h.wt⟩
theorem AnyL.up {k2 n2 w2 : Nat} (h : AnyL b S k n w ds) (hk : k ≤ k2) (hn : n ≤ n2) (hw : w ≤ w2) : AnyL b S k2 n2 w2 ds := ⟨Nat.le_trans h.len hn, fun d hd => (h.any d hd).up hk, by
  have : ds.map (wtD S k2) = ds.map (wtD S k) := List.map_congr_left fun d hd => wt_up (Grow.refl _ _) (h.any d hd) hk
  rw [this]
  exact Nat.le_trans h.wt hw⟩
theorem AnyL.tup (h : AnyL b S k n w ds) (hn : n ≤ 150) : AnyV b S (k + 1) (w + 1) (.tup ds) := ⟨⟨Nat.le_trans h.len hn, h.any⟩, by
  show 1 + _ ≤ w + 1
  have := h.wt
  omega⟩
theorem AnyL.lst {l : Nat} (h : AnyL b S k n w ds) (hn : n ≤ 150) (hl : S[l]? = some (.lst ds)) (hb : l ≠ b) : AnyV b S (k + 1) (w + 1) (.loc l) := ⟨⟨hb, ds, hl, Nat.le_trans h.len hn, h.any⟩, by
  have h5 : wtD S (k + 1) (.loc l) = 1 + (ds.map (wtD S k)).sum := by
    show 1 + (match S[l]? with
      | some (.lst ds) => (ds.map (wtD S k)).sum
      | _ => 0) = _
    rw [hl]
  have := h.wt
  omega⟩
theorem AnyL.nil : AnyL b S k 0 0 [] := ⟨Nat.le_refl _, fun _ h => (nomatch h), Nat.le_refl _⟩
theorem AnyL.cons {v : Nat} (hd : AnyV b S k v d) (h : AnyL b S k n w ds) : AnyL b S k (n + 1) (v + w) (d :: ds) := ⟨by have := h.len; simp; omega, fun e he => by
  rcases List.mem_cons.mp he with rfl | he
  · exact hd.any
  · exact h.any e he, by
  have h1 := hd.wt
  have h2 := h.wt
  rw [List.map_cons, List.sum_cons]
  omega⟩
theorem AnyL.one (hd : AnyV b S k w d) : AnyL b S k 1 w [d] := AnyL.cons hd .nil
theorem AnyL.app {n2 w2 : Nat} (h : AnyL b S k n w ds) (h2 : AnyL b S k n2 w2 es) : AnyL b S k (n + n2) (w + w2) (ds ++ es) := ⟨by
  have := h.len
  have := h2.len
  rw [List.length_append]
  omega, fun e he => by
  rcases List.mem_append.mp he with he | he
  · exact h.any e he
  · exact h2.any e he, by
  have h1 := h.wt
  have h2 := h2.wt
  rw [List.map_append, List.sum_append]
  omega⟩
theorem sub_sum {f : D → Nat} {l1 l2 : List D} (h : l1.Sublist l2) : (l1.map f).sum ≤ (l2.map f).sum := by
  induction h with
  | slnil => exact Nat.le_refl _
  | cons a _ ih => rw [List.map_cons, List.sum_cons]; omega
  | cons_cons a _ ih => rw [List.map_cons, List.sum_cons, List.map_cons, List.sum_cons]; omega
theorem AnyL.sub (h : AnyL b S k n w ds) (hs : es.Sublist ds) : AnyL b S k n w es := ⟨Nat.le_trans hs.length_le h.len, fun d hd => h.any d (hs.subset hd), Nat.le_trans (sub_sum hs) h.wt⟩
theorem AnyL.rev (h : AnyL b S k n w ds) : AnyL b S k n w ds.reverse := ⟨by rw [List.length_reverse]; exact h.len, fun d hd => h.any d (List.mem_reverse.mp hd), by
  rw [List.map_reverse, List.sum_reverse]
  exact h.wt⟩
theorem AnyL.mem (h : AnyL b S k n w ds) (hd : d ∈ ds) : AnyV b S k w d := ⟨h.any d hd, Nat.le_trans (by
  have := sub_sum (f := wtD S k) (List.singleton_sublist.mpr hd)
  simpa using this) h.wt⟩
theorem AnyV.inv_tup (h : AnyV b S (k + 1) w (.tup ds)) : AnyL b S k 150 w ds := ⟨h.any.1, h.any.2, by
  have : 1 + (ds.map (wtD S k)).sum ≤ w := h.wt
  omega⟩
theorem leafV (h : AnyD b S 1 d) (hk : 1 ≤ k) : AnyV b S k 1 d := ⟨h.up hk, by
  rw [wt_up (Grow.refl _ _) h hk]
  match d, h with
  | .tup ds, h =>
    cases ds with
    | nil => exact Nat.le_refl _
    | cons a l => exact (h.2 a List.mem_cons_self).elim
  | .loc l, h =>
    obtain ⟨_, ds, e, _, hd⟩ := h
    show 1 + (match S[l]? with
      | some (.lst ds) => (ds.map (wtD S 0)).sum
      | _ => 0) ≤ 1
    rw [e]
    cases ds with
    | nil => exact Nat.le_refl _
    | cons a l => exact (hd a List.mem_cons_self).elim
  | .non, _ => exact Nat.le_refl _
  | .bl _, _ => exact Nat.le_refl _
  | .int _, _ => exact Nat.le_refl _
  | .str _, _ => exact Nat.le_refl _⟩
end
end

section
open PySem PySem.Spec L2 DM
def isStB : D → Bool
  | .str _ => true
  | _ => false
def isLsB : D → Bool
  | .loc _ => true
  | _ => false
theorem isi_str_anyB {b n : Nat} {S : Store} {d : D} (h : AnyD b S n d) : isiF S [.d d, .d (.ty "str")] = some (.d (.bl (isStB d))) := by
  cases n with
  | zero => exact h.elim
  | succ n =>
    cases d with
    | loc l => obtain ⟨_, ds, e, _, _⟩ := h; exact isi_loc e rfl
    | non => rfl
    | bl b => rfl
    | int i => rfl
    | str x => rfl
    | tup ds => rfl
    | _ => exact h.elim
theorem isi_list_any {b n : Nat} {S : Store} {d : D} (h : AnyD b S n d) : isiF S [.d d, .d (.ty "list")] = some (.d (.bl (isLsB d))) := by
  cases n with
  | zero => exact h.elim
  | succ n =>
    cases d with
    | loc l => obtain ⟨_, ds, e, _, _⟩ := h; exact isi_loc e rfl
    | non => rfl
    | bl b => rfl
    | int i => rfl
    | str x => rfl
    | tup ds => rfl
    | _ => exact h.elim
def strB (z : Str) : D → Bool
  | .str x => decide (x = z)
  | _ => false
def intB (i : Int) : D → Bool
  | .int x => decide (x = i)
  | _ => false
def rwB (xs : List Int) : D → Bool
  | .tup ds => match intsOf ds with
    | some ns => decide (ns = xs)
    | none => false
  | _ => false
theorem any_len {b n : Nat} {S : Store} {ds : List D} (h : AnyD b S n (.tup ds)) : ds.length ≤ 150 := by
  cases n with
  | zero => exact h.elim
  | succ n => exact h.1
theorem any_mem {b n : Nat} {S : Store} {ds : List D} (h : AnyD b S n (.tup ds)) : ∀ d ∈ ds, AnyD b S n d := by
  cases n with
  | zero => exact h.elim
  | succ n => exact fun d hd => (h.2 d hd).up (by omega)
theorem any_strOk {b n : Nat} {S : Store} {z : Str} (h : AnyD b S n (.str z)) : PyData.strOk z = true := by
  cases n with
  | zero => exact h.elim
  | succ n => exact okS_ok h.1
theorem any_cases {b n : Nat} {S : Store} {d : D} (h : AnyD b S n d) : d = .non ∨ (∃ v, d = .bl v) ∨ (∃ i, d = .int i) ∨ (∃ z, d = .str z) ∨ (∃ ds, d = .tup ds) ∨ ∃ l, d = .loc l := by
  cases n with
  | zero => exact h.elim
  | succ n => cases d <;> first | exact h.elim | simp
theorem gsame_str_any {b n f : Nat} {S : Store} {d : D} {z : Str} (h : AnyD b S n d) (hz : PyData.strOk z = true) : m_l_gsame (f + 1) [.d d, .d (.str z)] S = .ok (.d (.bl (strB z d))) S := by
  have i1 := isi_bool_any h
  have i2 := isi_str_anyB h
  refine eq_of (fun_w ?_)
  unfold mb_l_gsame
  rcases any_cases h with rfl | ⟨v, rfl⟩ | ⟨i, rfl⟩ | ⟨x, rfl⟩ | ⟨ds, rfl⟩ | ⟨l, rfl⟩
  · walk_at "w"; rfl
  · walk_at "w"; rfl
  · walk_at "w"; rfl
  · have e := eq_str (S := S) (any_strOk h) hz
    simp! only [e]; rfl
  · walk_at "w"; rfl
  · have i1 : isiF S [.d (.loc l), .d (.ty "bool")] = some (.d (.bl false)) := i1
    have i2 : isiF S [.d (.loc l), .d (.ty "str")] = some (.d (.bl false)) := i2
    simp! only [i1, i2]; rfl
theorem gsame_int_any {b n f : Nat} {S : Store} {d : D} {i0 : Int} (h : AnyD b S n d) : m_l_gsame (f + 1) [.d d, .d (.int i0)] S = .ok (.d (.bl (intB i0 d))) S := by
  have i1 := isi_bool_any h
  have i2 := isi_int_any h
  refine eq_of (fun_w ?_)
  unfold mb_l_gsame
  rcases any_cases h with rfl | ⟨v, rfl⟩ | ⟨i, rfl⟩ | ⟨x, rfl⟩ | ⟨ds, rfl⟩ | ⟨l, rfl⟩
  · walk_at "w"; rfl
  · walk_at "w"; rfl
  · walk_at "w"; rfl
  · walk_at "w"; rfl
  · walk_at "w"; rfl
  · have i1 : isiF S [.d (.loc l), .d (.ty "bool")] = some (.d (.bl false)) := i1
    have i2 : isiF S [.d (.loc l), .d (.ty "int")] = some (.d (.bl false)) := i2
    simp! only [i1, i2]; rfl
theorem row_ints {xs ns : List Int} : rwB xs (.tup (ns.map .int)) = decide (ns = xs) := by
  show (match intsOf (ns.map .int) with
    | some ns => decide (ns = xs)
    | none => false) = _
  rw [intsOf_map]
theorem row_none {xs : List Int} {ds : List D} (h : ds.all isWh = false) : rwB xs (.tup ds) = false := by
  show (match intsOf ds with
    | some ns => decide (ns = xs)
    | none => false) = _
  rw [ints_none h]
theorem row_zip : ∀ {xs : List Int} {ds : List D}, ds.length = xs.length → ((ds.zip xs).all fun q => intB q.2 q.1) = rwB xs (.tup ds)
  | xs, ds, hl => by
    cases hw : ds.all isWh with
    | false =>
      rw [row_none hw]
      obtain ⟨d, hd, hn⟩ := List.all_eq_false.mp hw
      obtain ⟨k, hk⟩ := List.getElem?_of_mem hd
      have hkl := (List.getElem?_eq_some_iff.mp hk).1
      refine List.all_eq_false.mpr ⟨(d, xs[k]'(by omega)), List.mem_of_getElem? (i := k) (List.getElem?_zip_eq_some.mpr ⟨hk, List.getElem?_eq_getElem (by omega)⟩), ?_⟩
      cases d <;> first | exact Bool.false_ne_true | exact absurd rfl hn
    | true =>
      obtain ⟨ns, rfl⟩ := whole_ints hw
      rw [row_ints, Bool.eq_iff_iff, List.all_eq_true, decide_eq_true_iff]
      rw [List.length_map] at hl
      constructor
      · intro h
        refine List.ext_getElem hl fun k h1 h2 => ?_
        have := h (.int ns[k], xs[k]) (List.mem_of_getElem? (i := k) (List.getElem?_zip_eq_some.mpr ⟨by rw [List.getElem?_map, List.getElem?_eq_getElem h1]; rfl, List.getElem?_eq_getElem h2⟩))
        exact of_decide_eq_true this
      · rintro rfl q hq
        obtain ⟨k, hk⟩ := List.getElem?_of_mem hq
        obtain ⟨h1, h2⟩ := List.getElem?_zip_eq_some.mp hk
        rw [List.getElem?_map, h2] at h1
        have h1 : some (D.int q.2) = some q.1 := h1
        injection h1 with h1
        rw [← h1]
        exact decide_eq_true rfl
theorem gsame_row_any {b n f : Nat} {S : Store} {d : D} {xs : List Int} (h : AnyD b S n d) (hx : xs.length ≤ 4000) : m_l_gsame (f + 2) [.d d, .d (rowL xs)] S = .ok (.d (.bl (rwB xs d))) S := by
  have i1 := isi_bool_any h
  have i2 := isi_tup_any h
  have i3 := isi_list_any h
  have ih := fun (d : D) (v : Int) (hd : AnyD b S n d) => gsame_int_any (f := f) (i0 := v) hd
  have nb : (!(true == false)) = true := rfl
  refine eq_of (fun_w ?_)
  unfold mb_l_gsame
  generalize m_l_gsame (f + 1) = M at ih ⊢
  rcases any_cases h with rfl | ⟨v, rfl⟩ | ⟨i, rfl⟩ | ⟨x, rfl⟩ | ⟨ds, rfl⟩ | ⟨l, rfl⟩
  · simp! only [nb]; rfl
  · simp! only [nb]; rfl
  · simp! only [nb]; rfl
  · simp! only [nb]; rfl
  · by_cases z : ds.length = xs.length
    · have e0 : decide ((ds.length : Int) = ((xs.map D.int).length : Nat)) = true := decide_eq_true (by rw [List.length_map]; omega)
      have hdm := any_mem h
      simp! only [e0, beq_self_eq_true]
      have ez : zipD ds (xs.map D.int) = (ds.zip xs).map fun q => D.tup [q.1, .int q.2] := by
        unfold zipD
        rw [List.zip_eq_zipWith, List.map_zipWith, List.zipWith_map_right]
      rw [ez]
      refine comp_all (ck := fun _ => True) (l := ds.zip xs) (F := fun q => D.tup [q.1, .int q.2]) (fun q => .bl (intB q.2 q.1)) (le_line (by rw [List.length_zip]; omega)) trivial (fun k q hq => ?_) ?_
      · obtain ⟨c, v⟩ := q
        obtain ⟨h1, _⟩ := List.getElem?_zip_eq_some.mp hq
        have := ih c v (hdm c (List.mem_of_getElem? h1))
        refine ⟨_, rfl, ?_⟩
        simp! only [this]
      · have eb : ((ds.zip xs).map fun q => D.bl (intB q.2 q.1)) = ((ds.zip xs).map fun q => intB q.2 q.1).map D.bl := by rw [List.map_map]; rfl
        have e5 : ((ds.zip xs).map fun q => intB q.2 q.1).all id = rwB xs (.tup ds) := by rw [List.all_map]; exact row_zip z
        simp! only [eb, e5]
    · have e0 : decide ((ds.length : Int) = ((xs.map D.int).length : Nat)) = false := decide_eq_false (by rw [List.length_map]; omega)
      have hf : rwB xs (.tup ds) = false := by
        cases hw : ds.all isWh with
        | false => exact row_none hw
        | true =>
          obtain ⟨ns, rfl⟩ := whole_ints hw
          rw [row_ints]
          exact decide_eq_false fun e => z (by rw [List.length_map, e])
      rw [hf]
      simp! only [e0, beq_self_eq_true]
  · have i1 : isiF S [.d (.loc l), .d (.ty "bool")] = some (.d (.bl false)) := i1
    have i2 : isiF S [.d (.loc l), .d (.ty "tuple")] = some (.d (.bl false)) := i2
    simp! only [i1, i2, nb]; rfl
end

section
open PySem PySem.Spec L2 DM
theorem eq_rowsT {S : Store} {xs ys : List Int} : eqF S (.d (rowL xs)) (.d (rowL ys)) = some (.d (.bl (decide (xs = ys)))) := by
  have e1 : ∀ zs : List Int, pyR S (.d (rowL zs)) = some (.tuple (zs.map PyData.int)) := fun zs => by
    show ((zs.map D.int).mapM (pyD 63 S)).map PyData.tuple = _
    rw [ints_py]; rfl
  unfold eqF
  rw [e1, e1]
  show (if SeqAt.shaped (.tuple (xs.map PyData.int)) = true ∧ SeqAt.shaped (.tuple (ys.map PyData.int)) = true then _ else _) = _
  rw [if_pos ⟨shaped_tints, shaped_tints⟩]
  have : PyData.eqv (.tuple (xs.map PyData.int)) (.tuple (ys.map PyData.int)) = decide (xs = ys) := by
    rw [← eqv_ints]
    simp [PyData.eqv]
  rw [this]
theorem ne_rowsT {S : Store} {xs ys : List Int} : neF S (.d (rowL xs)) (.d (rowL ys)) = some (.d (.bl (!decide (xs = ys)))) := by
  have e1 : ∀ zs : List Int, pyR S (.d (rowL zs)) = some (.tuple (zs.map PyData.int)) := fun zs => by
    show ((zs.map D.int).mapM (pyD 63 S)).map PyData.tuple = _
    rw [ints_py]; rfl
  unfold neF
  rw [e1, e1]
  show (if SeqAt.shaped (.tuple (xs.map PyData.int)) = true ∧ SeqAt.shaped (.tuple (ys.map PyData.int)) = true then _ else _) = _
  rw [if_pos ⟨shaped_tints, shaped_tints⟩]
  have : PyData.eqv (.tuple (xs.map PyData.int)) (.tuple (ys.map PyData.int)) = decide (xs = ys) := by
    rw [← eqv_ints]
    simp [PyData.eqv]
  rw [this]
section
variable {u : Nat} {rows : List (List Int)}
theorem splits_iff {sm : List Int} {x : Int} : 1 < (pAt rows sm x).length ↔ ∃ j ∈ sm, ∃ k ∈ sm, at_ (rowK rows j) x ≠ at_ (rowK rows k) x := by
  constructor
  · intro h
    have e1 := congrArg List.length (parts_fst rows sm x)
    rw [List.length_map] at e1
    have hn := setI_nodup (sm.map fun k => at_ (rowK rows k) x)
    have hm : ∀ z ∈ setI (sm.map fun k => at_ (rowK rows k) x), ∃ k ∈ sm, at_ (rowK rows k) x = z := fun z hz => List.mem_map.mp (setI_mem.mp hz)
    rw [e1] at h
    generalize setI (sm.map fun k => at_ (rowK rows k) x) = l at h hn hm
    match l, h with
    | a :: c :: l, _ =>
      obtain ⟨j, hj, ej⟩ := hm a List.mem_cons_self
      obtain ⟨k, hk, ek⟩ := hm c (List.mem_cons_of_mem _ List.mem_cons_self)
      refine ⟨j, hj, k, hk, ?_⟩
      rw [ej, ek]
      rintro rfl
      exact (List.nodup_cons.mp hn).1 List.mem_cons_self
  · rintro ⟨j, hj, k, hk, h⟩
    exact splitsK hj hk h
def muP (rows : List (List Int)) (u : Nat) (sm : List Int) : Nat := ((List.range u).filter fun x : Nat => decide (1 < (pAt rows sm x).length)).length
theorem mu_lt {sm : List Int} {x : Nat} (hx : x < u) (h : 1 < (pAt rows sm x).length) {p : Int × List Int} (hp : p ∈ pAt rows sm x) : muP rows u p.2 < muP rows u sm := by
  obtain ⟨_, e2⟩ := parts_mem hp
  have hnx : ¬ 1 < (pAt rows p.2 (x : Int)).length := fun z => by
    obtain ⟨j, hj, k, hk, ne⟩ := splits_iff.mp z
    rw [e2] at hj hk
    exact ne ((of_decide_eq_true (List.mem_filter.mp hj).2).trans (of_decide_eq_true (List.mem_filter.mp hk).2).symm)
  have := nodup_lenL (x :: (List.range u).filter fun y : Nat => decide (1 < (pAt rows p.2 y).length)) ((List.range u).filter fun y : Nat => decide (1 < (pAt rows sm y).length)) (List.nodup_cons.mpr ⟨fun hm => hnx (of_decide_eq_true (List.mem_filter.mp hm).2), List.nodup_range.filter _⟩) fun y hy => by
    rcases List.mem_cons.mp hy with rfl | hy
    · exact List.mem_filter.mpr ⟨List.mem_range.mpr hx, decide_eq_true h⟩
    · obtain ⟨h1, h2⟩ := List.mem_filter.mp hy
      refine List.mem_filter.mpr ⟨h1, decide_eq_true ?_⟩
      obtain ⟨j, hj, k, hk, ne⟩ := splits_iff.mp (of_decide_eq_true h2)
      rw [e2] at hj hk
      exact splits_iff.mpr ⟨j, (List.mem_filter.mp hj).1, k, (List.mem_filter.mp hk).1, ne⟩
  rw [List.length_cons] at this
  exact this
theorem mu_le {sm : List Int} : muP rows u sm ≤ u := Nat.le_trans (List.length_filter_le _ _) (by rw [List.length_range]; exact Nat.le_refl _)
end
def sameB (rows : List (List Int)) (sm : List Int) : Bool := sm.all fun k => decide (rowK rows k = rowK rows (sm.headD 0))
def endB (rows : List (List Int)) (sm : List Int) (x : D) : Bool := rwB sm x && sameB rows sm
def wyB (rec : List Int → D → Bool) (p : Int × List Int) : D → Bool
  | .tup [w, pl] => intB p.1 w && rec p.2 pl
  | _ => false
def askB (rows : List (List Int)) (u : Nat) (rec : List Int → D → Bool) (sm : List Int) : D → D → Bool
  | .int x, .tup ws => decide (0 ≤ x) && (decide (x < (u : Int)) && (decide (2 ≤ (pAt rows sm x).length) && (decide (ws.length = (pAt rows sm x).length) && ((pAt rows sm x).zip ws).all fun q => wyB rec q.1 q.2)))
  | _, _ => false
def planL (rows : List (List Int)) (u : Nat) (rec : List Int → D → Bool) (sm : List Int) : List D → Bool
  | [w, x] => strB (Str.ofString "known") w && endB rows sm x
  | [w, x, ws] => strB (Str.ofString "ask") w && askB rows u rec sm x ws
  | _ => false
def planB (rows : List (List Int)) (u : Nat) : Nat → List Int → D → Bool
  | 0, _, _ => false
  | f + 1, sm, .tup ds => planL rows u (planB rows u f) sm ds
  | _ + 1, _, _ => false
section
variable {m : Int} {u b n : Nat} {rows : List (List Int)} {S : Store}
theorem is_end_len {sm : List Int} {ds : List D} (h : ds.length ≠ 2) : m_is_end [.d (bookD m rows), .d (rowL sm), .d (.tup ds)] S = .ok (.d (.bl false)) S := by
  have e2 : decide ((ds.length : Int) = 2) = false := decide_eq_false (by omega)
  refine eq_of (fun_w ?_)
  unfold mb_is_end
  simp! only [e2]
theorem is_end_any {sm : List Int} {w x : D} (h : BookOk m u rows) (hs : ∀ k ∈ sm, 0 ≤ k ∧ k < rows.length) (hl : sm.length ≤ 1000) (hn : sm ≠ []) (hu : u ≤ 1000) (hx : AnyD b S n x) : m_is_end [.d (bookD m rows), .d (rowL sm), .d (.tup [w, x])] S = .ok (.d (.bl (endB rows sm x))) S := by
  obtain ⟨k0, hm0, a0, hh⟩ : ∃ k0, k0 ∈ sm ∧ atI (sm.map D.int) 0 = some (.int k0) ∧ sm.headD 0 = k0 := by
    cases sm with
    | nil => exact absurd rfl hn
    | cons a l => exact ⟨a, List.mem_cons_self, by rw [List.map_cons, atI_0], rfl⟩
  have e2 : decide (((2 : Nat) : Int) = 2) = true := rfl
  have i1 := isi_tup_any hx
  refine eq_of (fun_w ?_)
  unfold mb_is_end
  cases ht : isTup x with
  | false =>
    rw [ht] at i1
    have hf : endB rows sm x = false := by
      unfold endB
      have : rwB sm x = false := by cases x <;> first | rfl | cases ht
      rw [this]; rfl
    rw [hf]
    simp! only [e2, i1]
  | true =>
    obtain ⟨ds, rfl⟩ : ∃ ds, x = .tup ds := by cases x <;> first | exact ⟨_, rfl⟩ | cases ht
    have hdl := any_len hx
    have hdm := any_mem hx
    simp! only [e2]
    refine comp_map (fun d => .bl (isWh d)) (le_line (by omega)) trivial (fun k x hk => ?_) ?_
    · have hw := is_whole_any (hdm x (List.mem_of_getElem? hk))
      refine ⟨_, rfl, ?_⟩
      simp! only [hw]
    · have e : (ds.map fun d => D.bl (isWh d)) = (ds.map isWh).map D.bl := by rw [List.map_map]; rfl
      have e3 : (ds.map isWh).all id = ds.all isWh := by rw [List.all_map]; rfl
      simp! only [e, e3]
      cases hw : ds.all isWh with
      | false =>
        have hf : endB rows sm (.tup ds) = false := by
          unfold endB
          rw [row_none hw]; rfl
        rw [hf]
        walk_at "w"
      | true =>
        obtain ⟨ns, rfl⟩ := whole_ints hw
        have hq : eqF S (.d (.tup (ns.map D.int))) (.d (rowL sm)) = some (.d (.bl (decide (ns = sm)))) := eq_rowsT
        have he : endB rows sm (.tup (ns.map D.int)) = (decide (ns = sm) && sameB rows sm) := by
          unfold endB
          rw [row_ints]
        rw [he]
        simp! only [hq]
        cases hz : decide (ns = sm) with
        | false =>
          walk_at "w"
          rfl
        | true =>
          rw [Bool.true_and]
          walk_at "w"
          obtain ⟨b0, hbl⟩ := rowK_at h (hs k0 hm0).1 (hs k0 hm0).2
          refine comp_all (ck := fun _ => True) (l := sm) (F := D.int) (fun k => .bl (decide (rowK rows k = rowK rows (sm.headD 0)))) (le_line (by omega)) trivial (fun j k hk => ?_) ?_
          · have hkm := List.mem_of_getElem? hk
            obtain ⟨b1, _⟩ := rowK_at h (hs k hkm).1 (hs k hkm).2
            rw [hh]
            refine ⟨_, rfl, ?_⟩
            simp! only [b1, a0, b0, eq_rowsT]
          · have eb : (sm.map fun k => D.bl (decide (rowK rows k = rowK rows (sm.headD 0)))) = (sm.map fun k => decide (rowK rows k = rowK rows (sm.headD 0))).map D.bl := by rw [List.map_map]; rfl
            have e5 : (sm.map fun k => decide (rowK rows k = rowK rows (sm.headD 0))).all id = sameB rows sm := by rw [List.all_map]; rfl
            simp! only [eb, e5]
theorem way_any {M : MF} {rec : List Int → D → Bool} {p : Int × List Int} {d : D} (hd : AnyD b S n d) (ih : ∀ pl, AnyD b S n pl → M [.d (bookD m rows), .d (rowL p.2), .d pl] S = .ok (.d (.bl (rec p.2 pl))) S) : m_wayR M [.d (bookD m rows), .d (.int p.1), .d (rowL p.2), .d d] S = .ok (.d (.bl (wyB rec p d))) S := by
  have i1 := isi_tup_any hd
  refine eq_of (fun_w ?_)
  unfold mb_wayR
  cases ht : isTup d with
  | false =>
    rw [ht] at i1
    have hf : wyB rec p d = false := by cases d <;> first | rfl | cases ht
    rw [hf]
    simp! only [i1]
  | true =>
    obtain ⟨ds, rfl⟩ : ∃ ds, d = .tup ds := by cases d <;> first | exact ⟨_, rfl⟩ | cases ht
    have hdm := any_mem hd
    by_cases z : ds.length = 2
    · match ds, z with
      | [w, pl], _ =>
        have d2 : decide (((2 : Nat) : Int) = 2) = true := rfl
        have hw := is_whole_any (hdm w (by simp))
        have hp := ih pl (hdm pl (by simp))
        show WS _ (EnF (fun a S1 => a = .d (.bl (intB p.1 w && rec p.2 pl)) ∧ S1 = S) XF)
        cases hz : isWh w with
        | false =>
          rw [hz] at hw
          have : intB p.1 w = false := by cases w <;> first | rfl | cases hz
          rw [this]
          simp! only [d2, hw]
          rfl
        | true =>
          obtain ⟨v, rfl⟩ : ∃ v, w = .int v := by cases w <;> first | exact ⟨_, rfl⟩ | cases hz
          show WS _ (EnF (fun a S1 => a = .d (.bl (decide (v = p.1) && rec p.2 pl)) ∧ S1 = S) XF)
          cases hv : decide (v = p.1) with
          | false =>
            simp! only [d2, whole_int, hv]
            rfl
          | true =>
            rw [Bool.true_and]
            simp! only [d2, whole_int, hv, hp]
    · have d2 : decide ((ds.length : Int) = 2) = false := decide_eq_false (by omega)
      have hf : wyB rec p (.tup ds) = false := by
        match ds, z with
        | [], _ => rfl
        | [_], _ => rfl
        | [_, _], z => exact absurd rfl z
        | _ :: _ :: _ :: _, _ => rfl
      rw [hf]
      simp! only [d2]
theorem ne_strT {S : Store} {x y : Str} (hx : PyData.strOk x = true) (hy : PyData.strOk y = true) : neF S (.d (.str x)) (.d (.str y)) = some (.d (.bl (!decide (x = y)))) := by
  have e1 : pyR S (.d (.str x)) = some (.str x) := rfl
  have e2 : pyR S (.d (.str y)) = some (.str y) := rfl
  unfold neF
  rw [e1, e2]
  have s1 : SeqAt.shaped (.str x) = true := by
    unfold SeqAt.shaped
    have : PyData.canLay0 (.str x) = true := hx
    rw [this]
    simp [PyData.depth]
  have s2 : SeqAt.shaped (.str y) = true := by
    unfold SeqAt.shaped
    have : PyData.canLay0 (.str y) = true := hy
    rw [this]
    simp [PyData.depth]
  show (if SeqAt.shaped (.str x) = true ∧ SeqAt.shaped (.str y) = true then _ else _) = _
  rw [if_pos ⟨s1, s2⟩]
  have : PyData.eqv (.str x) (.str y) = decide (x = y) := by simp [PyData.eqv]; rfl
  rw [this]
theorem ask_ints {rec : List Int → D → Bool} {sm : List Int} {x : Int} {ws : List D} : askB rows u rec sm (.int x) (.tup ws) = (decide (0 ≤ x) && (decide (x < (u : Int)) && (decide (2 ≤ (pAt rows sm x).length) && (decide (ws.length = (pAt rows sm x).length) && ((pAt rows sm x).zip ws).all fun q => wyB rec q.1 q.2)))) := rfl
theorem ask_int {rec : List Int → D → Bool} {sm : List Int} {x y : D} (h : isWh x = false) : askB rows u rec sm x y = false := by
  cases x <;> first | rfl | cases h
theorem ask_tup {rec : List Int → D → Bool} {sm : List Int} {x y : D} (h : isTup y = false) : askB rows u rec sm x y = false := by
  cases x <;> cases y <;> first | rfl | cases h
theorem planL_len {rec : List Int → D → Bool} {sm : List Int} {ds : List D} (h2 : ds.length ≠ 2) (h3 : ds.length ≠ 3) : planL rows u rec sm ds = false := by
  match ds, h2, h3 with
  | [], _, _ => rfl
  | [_], _, _ => rfl
  | [_, _], h, _ => exact absurd rfl h
  | [_, _, _], _, h => exact absurd rfl h
  | _ :: _ :: _ :: _ :: _, _, _ => rfl
theorem plan_tup {f : Nat} {sm : List Int} {d : D} (h : isTup d = false) : planB rows u f sm d = false := by
  cases f with
  | zero => rfl
  | succ f => cases d <;> first | rfl | cases h
theorem parts_le (sm : List Int) (x : Int) : (pAt rows sm x).length ≤ sm.length := by
  have e1 := parts_fst rows sm x
  have e2 := nodup_lenI (setI (sm.map fun k => at_ (rowK rows k) x)) (sm.map fun k => at_ (rowK rows k) x) (setI_nodup _) fun z hz => setI_mem.mp hz
  rw [← e1, List.length_map, List.length_map] at e2
  exact e2
theorem plan_any (h : BookOk m u rows) (hu : u ≤ 1000) : ∀ (f : Nat) (sm : List Int) (d : D), muP rows u sm < f → sm.length ≤ 60 → sm ≠ [] → (∀ k ∈ sm, 0 ≤ k ∧ k < rows.length) → AnyD b S n d → m_planR f [.d (bookD m rows), .d (rowL sm), .d d] S = .ok (.d (.bl (planB rows u f sm d))) S
  | 0, _, _, h, _, _, _, _ => by omega
  | f + 1, sm, d, hf, hl, hn, hs, hd => by
    have i1 := isi_tup_any hd
    cases ht : isTup d with
    | false =>
      rw [ht] at i1
      rw [plan_tup ht]
      refine eq_of (fun_w ?_)
      unfold mb_planR
      generalize m_planR f = M
      simp! only [i1]
    | true =>
      obtain ⟨ds, rfl⟩ : ∃ ds, d = .tup ds := by cases d <;> first | exact ⟨_, rfl⟩ | cases ht
      have hdm := any_mem hd
      have hdl := any_len hd
      have ePl : planB rows u (f + 1) sm (.tup ds) = planL rows u (planB rows u f) sm ds := rfl
      rw [ePl]
      have d20 : decide (((2 : Nat) : Int) = 0) = false := rfl
      have d30 : decide (((3 : Nat) : Int) = 0) = false := rfl
      have d23 : decide (((2 : Nat) : Int) = 3) = false := rfl
      have d33 : decide (((3 : Nat) : Int) = 3) = true := rfl
      have k1 : ∀ z : Str, PyData.strOk z = true → eqF S (.d (.str z)) (.d (.str "known")) = some (.d (.bl (decide (z = Str.ofString "known")))) := fun z okz => eq_str okz (by decide +kernel)
      have k2 : ∀ z : Str, PyData.strOk z = true → neF S (.d (.str z)) (.d (.str "ask")) = some (.d (.bl (!decide (z = Str.ofString "ask")))) := fun z okz => ne_strT okz (by decide +kernel)
      have hie := fun (l : List D) (hl : l.length ≠ 2) => is_end_len (m := m) (rows := rows) (S := S) (sm := sm) hl
      by_cases l2 : ds.length = 2
      · obtain ⟨w, x, rfl⟩ : ∃ w x, ds = [w, x] := by
          match ds, l2 with
          | [w, x], _ => exact ⟨w, x, rfl⟩
        have hw := hdm w (by simp)
        have i2 := isi_str_anyB hw
        have e : planL rows u (planB rows u f) sm [w, x] = (strB (Str.ofString "known") w && endB rows sm x) := rfl
        rw [e]
        cases hz : isStB w with
        | false =>
          rw [hz] at i2
          have hb : strB (Str.ofString "known") w = false := by cases w <;> first | rfl | cases hz
          rw [hb]
          refine eq_of (fun_w ?_)
          unfold mb_planR
          generalize m_planR f = M
          simp! only [d20, i2]
          rfl
        | true =>
          obtain ⟨z, rfl⟩ : ∃ z, w = .str z := by cases w <;> first | exact ⟨_, rfl⟩ | cases hz
          have q1 := k1 z (any_strOk hw)
          have q2 := k2 z (any_strOk hw)
          have ie := is_end_any (w := .str z) h hs (by omega) hn hu (hdm x (by simp))
          have e : strB (Str.ofString "known") (.str z) = decide (z = Str.ofString "known") := rfl
          rw [e]
          refine eq_of (fun_w ?_)
          unfold mb_planR
          generalize m_planR f = M
          cases zk : decide (z = Str.ofString "known") with
          | true =>
            rw [zk] at q1
            rw [Bool.true_and]
            simp! only [d20, q1, ie]
          | false =>
            rw [zk] at q1
            cases za : decide (z = Str.ofString "ask") with
            | true =>
              rw [za] at q2
              simp! only [d20, d23, q1, q2]
              rfl
            | false =>
              rw [za] at q2
              simp! only [d20, q1, q2]
              rfl
      · by_cases l3 : ds.length = 3
        · obtain ⟨w, x, y, rfl⟩ : ∃ w x y, ds = [w, x, y] := by
            match ds, l3 with
            | [w, x, y], _ => exact ⟨w, x, y, rfl⟩
          have hw := hdm w (by simp)
          have hx := hdm x (by simp)
          have hy := hdm y (by simp)
          have i2 := isi_str_anyB hw
          have e : planL rows u (planB rows u f) sm [w, x, y] = (strB (Str.ofString "ask") w && askB rows u (planB rows u f) sm x y) := rfl
          rw [e]
          cases hz : isStB w with
          | false =>
            rw [hz] at i2
            have hb : strB (Str.ofString "ask") w = false := by cases w <;> first | rfl | cases hz
            rw [hb]
            refine eq_of (fun_w ?_)
            unfold mb_planR
            generalize m_planR f = M
            simp! only [d30, i2]
            rfl
          | true =>
            obtain ⟨z, rfl⟩ : ∃ z, w = .str z := by cases w <;> first | exact ⟨_, rfl⟩ | cases hz
            have q1 := k1 z (any_strOk hw)
            have q2 := k2 z (any_strOk hw)
            have ie := hie _ l2
            have e : strB (Str.ofString "ask") (.str z) = decide (z = Str.ofString "ask") := rfl
            rw [e]
            cases za : decide (z = Str.ofString "ask") with
            | false =>
              rw [za] at q2
              refine eq_of (fun_w ?_)
              unfold mb_planR
              generalize m_planR f = M
              cases zk : decide (z = Str.ofString "known") with
              | true =>
                rw [zk] at q1
                simp! only [d30, q1, ie]
                rfl
              | false =>
                rw [zk] at q1
                simp! only [d30, q1, q2]
                rfl
            | true =>
              rw [za] at q2
              rw [of_decide_eq_true za] at q1 q2 ie ⊢
              rw [show decide (Str.ofString "ask" = Str.ofString "known") = false by decide +kernel] at q1
              rw [Bool.true_and]
              have hwx := is_whole_any hx
              have iy := isi_tup_any hy
              have hth := things_of_w (S := S) h
              cases hwz : isWh x with
              | false =>
                rw [hwz] at hwx
                rw [ask_int hwz]
                refine eq_of (fun_w ?_)
                unfold mb_planR
                generalize m_planR f = M
                simp! only [d30, d33, q1, q2, hwx]
              | true =>
                obtain ⟨xI, rfl⟩ : ∃ v, x = .int v := by cases x <;> first | exact ⟨_, rfl⟩ | cases hwz
                cases hty : isTup y with
                | false =>
                  rw [hty] at iy
                  rw [ask_tup hty]
                  refine eq_of (fun_w ?_)
                  unfold mb_planR
                  generalize m_planR f = M
                  simp! only [d30, d33, q1, q2, whole_int, iy]
                | true =>
                  obtain ⟨ws, rfl⟩ : ∃ ws, y = .tup ws := by cases y <;> first | exact ⟨_, rfl⟩ | cases hty
                  have hwm := any_mem hy
                  have hwl := any_len hy
                  rw [ask_ints]
                  by_cases x0 : 0 ≤ xI
                  · by_cases xu : xI < u
                    · rw [decide_eq_true x0, decide_eq_true xu, Bool.true_and, Bool.true_and]
                      have hgp := parted_w (S := S) (sm := sm) (x := xI) h hs (by omega) x0 xu
                      have hple := parts_le (rows := rows) sm xI
                      have ihw : ∀ q : (Int × List Int) × D, q ∈ (pAt rows sm xI).zip ws → 2 ≤ (pAt rows sm xI).length → m_wayR (m_planR f) [.d (bookD m rows), .d (.int q.1.1), .d (rowL q.1.2), .d q.2] S = .ok (.d (.bl (wyB (planB rows u f) q.1 q.2))) S := fun q hq h2 => by
                        obtain ⟨p, pl⟩ := q
                        obtain ⟨hp, hpl⟩ := List.of_mem_zip hq
                        obtain ⟨xN, hxN⟩ := Int.eq_ofNat_of_zero_le x0
                        subst hxN
                        have hmu := mu_lt (u := u) (rows := rows) (by omega) (show 1 < (pAt rows sm (xN : Int)).length by omega) hp
                        have hlt := parts_lt (show 1 < (pAt rows sm (xN : Int)).length by omega) hp
                        have hps : ∀ k ∈ p.2, k ∈ sm := fun k hk => by
                          rw [(parts_mem hp).2] at hk
                          exact (List.mem_filter.mp hk).1
                        exact way_any (hwm pl hpl) fun pl2 hpl2 => plan_any h hu f p.2 pl2 (by omega) (by omega) (fun z => by rw [z] at hlt; simp at hlt) (fun k hk => hs k (hps k hk)) hpl2
                      have c0 : decide (0 ≤ xI) = true := decide_eq_true x0
                      have cu : decide (xI < (u : Int)) = true := decide_eq_true xu
                      refine eq_of (fun_w ?_)
                      unfold mb_planR
                      generalize m_wayR (m_planR f) = M at ihw ⊢
                      by_cases p2 : 2 ≤ (pAt rows sm xI).length
                      · have d7 : decide (((((pAt rows sm xI).map partD).length : Nat) : Int) < 2) = false := decide_eq_false (by rw [List.length_map]; omega)
                        rw [decide_eq_true p2, Bool.true_and]
                        by_cases pw : ws.length = (pAt rows sm xI).length
                        · have d8 : decide (((ws.length : Nat) : Int) = ((((pAt rows sm xI).map partD).length : Nat) : Int)) = true := decide_eq_true (by rw [List.length_map]; omega)
                          rw [decide_eq_true pw, Bool.true_and]
                          simp! only [d30, d33, q1, q2, whole_int, hth, c0, cu, hgp, d7, d8, w_miZipM, kZipM_e, kZipM2_e]
                          have ez : zipD ((pAt rows sm xI).map partD) ws = ((pAt rows sm xI).zip ws).map fun q => D.tup [partD q.1, q.2] := by
                            unfold zipD
                            rw [List.zip_eq_zipWith, List.map_zipWith, List.zipWith_map_left]
                          rw [ez]
                          refine comp_all (ck := fun _ => True) (l := (pAt rows sm xI).zip ws) (F := fun q => D.tup [partD q.1, q.2]) (fun q => .bl (wyB (planB rows u f) q.1 q.2)) (le_line (by rw [List.length_zip]; omega)) trivial (fun k q hq => ?_) ?_
                          · have hq2 := ihw q (List.mem_of_getElem? hq) p2
                            unfold partD
                            refine ⟨_, rfl, ?_⟩
                            simp! only [hq2]
                          · have eb : (((pAt rows sm xI).zip ws).map fun q => D.bl (wyB (planB rows u f) q.1 q.2)) = (((pAt rows sm xI).zip ws).map fun q => wyB (planB rows u f) q.1 q.2).map D.bl := by rw [List.map_map]; rfl
                            have e5 : (((pAt rows sm xI).zip ws).map fun q => wyB (planB rows u f) q.1 q.2).all id = ((pAt rows sm xI).zip ws).all fun q => wyB (planB rows u f) q.1 q.2 := by rw [List.all_map]; rfl
                            simp! only [eb, e5]
                        · have d8 : decide (((ws.length : Nat) : Int) = ((((pAt rows sm xI).map partD).length : Nat) : Int)) = false := decide_eq_false (by rw [List.length_map]; omega)
                          rw [decide_eq_false pw]
                          simp! only [d30, d33, q1, q2, whole_int, hth, c0, cu, hgp, d7, d8]
                          rfl
                      · have d7 : decide (((((pAt rows sm xI).map partD).length : Nat) : Int) < 2) = true := decide_eq_true (by rw [List.length_map]; omega)
                        rw [decide_eq_false p2]
                        simp! only [d30, d33, q1, q2, whole_int, hth, c0, cu, hgp, d7]
                        rfl
                    · have c0 : decide (0 ≤ xI) = true := decide_eq_true x0
                      have cu : decide (xI < (u : Int)) = false := decide_eq_false xu
                      rw [c0, cu]
                      refine eq_of (fun_w ?_)
                      unfold mb_planR
                      generalize m_planR f = M
                      simp! only [d30, d33, q1, q2, whole_int, hth, c0, cu]
                      rfl
                  · have c0 : decide (0 ≤ xI) = false := decide_eq_false x0
                    rw [c0]
                    refine eq_of (fun_w ?_)
                    unfold mb_planR
                    generalize m_planR f = M
                    simp! only [d30, d33, q1, q2, whole_int, hth, c0]
                    rfl
        · rw [planL_len l2 l3]
          refine eq_of (fun_w ?_)
          unfold mb_planR
          generalize m_planR f = M
          by_cases l0 : ds.length = 0
          · have e0 : decide ((ds.length : Int) = 0) = true := decide_eq_true (by omega)
            simp! only [e0]
          · have e0 : decide ((ds.length : Int) = 0) = false := decide_eq_false (by omega)
            have e3 : decide ((ds.length : Int) = 3) = false := decide_eq_false (by omega)
            obtain ⟨w, aw, wm, _⟩ := DM.atI_get (l := ds) (i := 0) (by omega) (by omega)
            have hw := hdm w wm
            have i2 := isi_str_anyB hw
            have ie := hie ds l2
            cases hz : isStB w with
            | false =>
              rw [hz] at i2
              simp! only [e0, aw, i2]
            | true =>
              obtain ⟨z, rfl⟩ : ∃ z, w = .str z := by cases w <;> first | exact ⟨_, rfl⟩ | cases hz
              have q1 := k1 z (any_strOk hw)
              have q2 := k2 z (any_strOk hw)
              cases zk : decide (z = Str.ofString "known") with
              | true =>
                rw [zk] at q1
                simp! only [e0, aw, q1, ie]
              | false =>
                rw [zk] at q1
                cases za : decide (z = Str.ofString "ask") with
                | true =>
                  rw [za] at q2
                  simp! only [e0, e3, aw, q1, q2]
                | false =>
                  rw [za] at q2
                  simp! only [e0, aw, q1, q2]
end
end

section
open PySem PySem.Spec L2 DM
theorem sum_filters {f : Int → Int} : ∀ (B sm : List Int), B.Nodup → (B.map fun b => (sm.filter fun k => decide (f k = b)).length).sum ≤ sm.length
  | [], sm, _ => Nat.zero_le _
  | b :: B, sm, h => by
    obtain ⟨h1, h2⟩ := List.nodup_cons.mp h
    have ih := sum_filters (f := f) B (sm.filter fun k => !decide (f k = b)) h2
    have e : (B.map fun c => (sm.filter fun k => decide (f k = c)).length) = B.map fun c => ((sm.filter fun k => !decide (f k = b)).filter fun k => decide (f k = c)).length := List.map_congr_left fun c hc => by
      rw [List.filter_filter]
      congr 1
      apply List.filter_congr
      intro k _
      by_cases z : f k = c
      · have : f k ≠ b := fun w => h1 (by rw [← w, z]; exact hc)
        simp [z]
        rw [← z]
        exact this
      · simp [z]
    rw [List.map_cons, List.sum_cons, e]
    have e2 : (sm.filter fun k => decide (f k = b)).length + (sm.filter fun k => !decide (f k = b)).length = sm.length := by
      rw [← List.countP_eq_length_filter, ← List.countP_eq_length_filter]
      have := List.length_eq_countP_add_countP (fun k => decide (f k = b)) (l := sm)
      have e3 : List.countP (fun k => !decide (f k = b)) sm = List.countP (fun k => decide ¬decide (f k = b) = true) sm := List.countP_congr fun k _ => by simp
      omega
    omega
section
variable {u : Nat} {rows : List (List Int)}
theorem pAt_sum {sm : List Int} {x : Int} : ((pAt rows sm x).map fun p => p.2.length).sum ≤ sm.length := by
  have := sum_filters (f := fun k => at_ (rowK rows k) x) (setI (sm.map fun k => at_ (rowK rows k) x)) sm (setI_nodup _)
  unfold pAt
  rw [List.map_map]
  exact this
def waysD (PL : List (Int × List Int)) (pls : List D) : List D := List.zipWith (fun p pl => D.tup [.int p.1, pl]) PL pls
def IsB (rows : List (List Int)) (u : Nat) : Nat → List Int → D → Prop
  | 0, _, _ => False
  | f + 1, sm, d => (d = knownD sm ∧ ∀ x : Nat, x < u → ¬ 1 < (pAt rows sm x).length) ∨ ∃ (x : Nat) (pls : List D), x < u ∧ 1 < (pAt rows sm x).length ∧ pls.length = (pAt rows sm x).length ∧ d = .tup [.str "ask", .int x, .tup (waysD (pAt rows sm x) pls)] ∧ ∀ (i : Nat) p pl, (pAt rows sm x)[i]? = some p → pls[i]? = some pl → IsB rows u f p.2 pl
theorem ways_len {PL : List (Int × List Int)} {pls : List D} (h : pls.length = PL.length) : (waysD PL pls).length = PL.length := by
  unfold waysD
  rw [List.length_zipWith]
  omega
theorem ways_get {PL : List (Int × List Int)} {pls : List D} {i : Nat} {d : D} (h : (waysD PL pls)[i]? = some d) : ∃ p pl, PL[i]? = some p ∧ pls[i]? = some pl ∧ d = .tup [.int p.1, pl] := by
  unfold waysD at h
  rw [List.getElem?_zipWith] at h
  cases e1 : PL[i]? with
  | none => rw [e1] at h; cases h
  | some p =>
    cases e2 : pls[i]? with
    | none => rw [e1, e2] at h; cases h
    | some pl =>
      rw [e1, e2] at h
      cases h
      exact ⟨p, pl, rfl, rfl, rfl⟩
theorem part_sub {sm : List Int} {x : Int} {p : Int × List Int} (hp : p ∈ pAt rows sm x) : ∀ k ∈ p.2, k ∈ sm := fun k hk => by
  rw [(parts_mem hp).2] at hk
  exact (List.mem_filter.mp hk).1
theorem part_ne {sm : List Int} {x : Int} {p : Int × List Int} (h1 : 1 < (pAt rows sm x).length) (hp : p ∈ pAt rows sm x) : p.2 ≠ [] := fun z => by
  have := (parts_lt h1 hp).2
  rw [z] at this
  exact absurd this (by decide)
theorem intB_self (i : Int) : intB i (.int i) = true := decide_eq_true rfl
theorem strB_self (z : Str) : strB z (.str z) = true := decide_eq_true rfl
theorem isB_plan {m : Int} (h : BookOk m u rows) : ∀ (f : Nat) (sm : List Int) (d : D), sm ≠ [] → (∀ k ∈ sm, 0 ≤ k ∧ k < rows.length) → IsB rows u f sm d → planB rows u f sm d = true
  | 0, _, _, _, _, hB => hB.elim
  | f + 1, sm, d, hn, hs, hB => by
    rcases hB with ⟨rfl, hp⟩ | ⟨x, pls, hx, h1, hl, rfl, hsub⟩
    · show (strB (Str.ofString "known") (.str "known") && (rwB sm (.tup (sm.map .int)) && sameB rows sm)) = true
      rw [strB_self, row_ints, decide_eq_true rfl, Bool.true_and, Bool.true_and]
      unfold sameB
      refine List.all_eq_true.mpr fun k hk => decide_eq_true ?_
      have hm0 : sm.headD 0 ∈ sm := by
        cases sm with
        | nil => exact absurd rfl hn
        | cons a l => exact List.mem_cons_self
      exact same_of h hs hp hk hm0
    · show (strB (Str.ofString "ask") (.str "ask") && askB rows u (planB rows u f) sm (.int x) (.tup (waysD (pAt rows sm x) pls))) = true
      rw [strB_self, ask_ints, ways_len hl, decide_eq_true (show (0 : Int) ≤ (x : Int) by omega), decide_eq_true (show (x : Int) < (u : Int) by omega), decide_eq_true (show 2 ≤ (pAt rows sm (x : Int)).length by omega), decide_eq_true rfl]
      simp only [Bool.true_and]
      refine List.all_eq_true.mpr fun q hq => ?_
      obtain ⟨i, hi⟩ := List.getElem?_of_mem hq
      obtain ⟨e1, e2⟩ := List.getElem?_zip_eq_some.mp hi
      obtain ⟨p, pl, e3, e4, e5⟩ := ways_get e2
      rw [e1] at e3
      cases e3
      rw [e5]
      show (intB q.1.1 (.int q.1.1) && planB rows u f q.1.2 pl) = true
      have hp := List.mem_of_getElem? e1
      rw [intB_self, Bool.true_and]
      exact isB_plan h f q.1.2 pl (part_ne h1 hp) (fun k hk => hs k (part_sub hp k hk)) (hsub i q.1 pl e1 e4)
theorem isB_up : ∀ (f g : Nat) (sm : List Int) (d : D), f ≤ g → IsB rows u f sm d → IsB rows u g sm d
  | 0, _, _, _, _, hB => hB.elim
  | f + 1, 0, _, _, h, _ => absurd h (by omega)
  | f + 1, g + 1, sm, d, h, hB => by
    rcases hB with hB | ⟨x, pls, hx, h1, hl, e, hsub⟩
    · exact .inl hB
    · exact .inr ⟨x, pls, hx, h1, hl, e, fun i p pl h2 h3 => isB_up f g p.2 pl (by omega) (hsub i p pl h2 h3)⟩
end
section
variable {m : Int} {u b : Nat} {rows : List (List Int)} {S : Store}
theorem wordV {w : Str} {k : Nat} (h1 : PyData.strOk w = true) (h2 : PyData.strOk (reprText w) = true) (h3 : (reprText w).length ≤ 200) (hk : 1 ≤ k) : AnyV b S k 1 (.str w) := leafV (show AnyD b S 1 (.str w) from ⟨okS_of h1, okS_of h2, h3⟩) hk
theorem intV {i : Int} {k : Nat} (h : -(2 ^ 190) < i ∧ i < 2 ^ 190) (hk : 1 ≤ k) : AnyV b S k 1 (.int i) := leafV (any_int h) hk
theorem rowVV {k : Nat} {s : List Int} (hk : 1 ≤ k) (hl : s.length ≤ 100) (hs : ∀ z ∈ s, 0 ≤ z ∧ z < 1000000000) : AnyL b S k s.length s.length (s.map D.int) := by
  obtain ⟨k', rfl⟩ : ∃ k', k = k' + 1 := ⟨k - 1, by omega⟩
  refine ⟨Nat.le_of_eq (List.length_map _), fun d hd => any_ints2 hs d hd, ?_⟩
  rw [List.map_map]
  have : ∀ (l : List Int), (l.map (wtD S (k' + 1) ∘ D.int)).sum = l.length := fun l => by
    induction l with
    | nil => rfl
    | cons a l ih => rw [List.map_cons, List.sum_cons, ih, List.length_cons]; show 1 + _ = _; omega
  rw [this]
  exact Nat.le_refl _
theorem ways_wt {k : Nat} {B : Int} {W : Int × List Int → Nat} : ∀ {PL : List (Int × List Int)} {pls : List D}, pls.length = PL.length → (∀ p ∈ PL, 0 ≤ p.1 ∧ p.1 < B) → B ≤ 1000000000 → (∀ (i : Nat) p pl, PL[i]? = some p → pls[i]? = some pl → AnyV b S k (W p) pl) → 1 ≤ k → AnyL b S (k + 1) PL.length (PL.map fun p => W p + 2).sum (waysD PL pls)
  | [], [], _, _, _, _, _ => AnyL.nil
  | [], _ :: _, h, _, _, _, _ => absurd h (by simp)
  | _ :: _, [], h, _, _, _, _ => absurd h (by simp)
  | p :: PL, pl :: pls, h, hb, hB, hw, hk => by
    have ih := ways_wt (PL := PL) (pls := pls) (W := W) (by simpa using h) (fun q hq => hb q (List.mem_cons_of_mem _ hq)) hB (fun i q ql h1 h2 => hw (i + 1) q ql h1 h2) hk
    have h0 := hw 0 p pl rfl rfl
    have hp := hb p List.mem_cons_self
    have := AnyL.cons ((AnyL.cons (intV (b := b) (S := S) (i := p.1) (by omega) hk) (.one h0)).tup (by omega)) ih
    refine this.up (Nat.le_refl _) (by rw [List.length_cons]; exact Nat.le_refl _) ?_
    rw [List.map_cons, List.sum_cons]
    omega
theorem sum_scale {PL : List (Int × List Int)} (h : ∀ p ∈ PL, 1 ≤ p.2.length) : (PL.map fun p => (12 * p.2.length - 8) + 2).sum + 6 * PL.length ≤ 12 * (PL.map fun p => p.2.length).sum := by
  induction PL with
  | nil => exact Nat.le_refl _
  | cons p PL ih =>
    have := ih fun q hq => h q (List.mem_cons_of_mem _ hq)
    have := h p List.mem_cons_self
    rw [List.map_cons, List.sum_cons, List.map_cons, List.sum_cons, List.length_cons]
    omega
theorem isB_any (h : BookOk m u rows) (hu : u ≤ 1000) (hm : m ≤ 1000000) : ∀ (f : Nat) (sm : List Int) (d : D), sm ≠ [] → sm.length ≤ 60 → (∀ k ∈ sm, 0 ≤ k ∧ k < rows.length) → rows.length ≤ 1000 → IsB rows u f sm d → AnyV b S (3 * f) (12 * sm.length - 8) d
  | 0, _, _, _, _, _, _, hB => hB.elim
  | f + 1, sm, d, hn, hl, hs, hr, hB => by
    have hpos : 1 ≤ sm.length := List.length_pos_iff.mpr hn
    rcases hB with ⟨rfl, _⟩ | ⟨x, pls, hx, h1, hpl, rfl, hsub⟩
    · have hrow := (rowVV (b := b) (S := S) (k := 1) (s := sm) (by omega) (by omega) fun z hz => by have := hs z hz; omega).tup (by omega)
      have := (AnyL.cons (wordV (b := b) (S := S) (w := Str.ofString "known") (k := 2) (by decide +kernel) (by decide +kernel) (by decide +kernel) (by omega)) (.one hrow)).tup (by omega)
      exact this.up (by omega) (by omega)
    · have hple := parts_le (rows := rows) sm (x : Int)
      have hps := pAt_sum (rows := rows) (sm := sm) (x := (x : Int))
      have hf : 1 ≤ f := by
        obtain ⟨p, hp⟩ : ∃ p, (pAt rows sm (x : Int))[0]? = some p := ⟨_, List.getElem?_eq_getElem (by omega)⟩
        obtain ⟨pl, hpl2⟩ : ∃ pl, pls[0]? = some pl := ⟨_, List.getElem?_eq_getElem (by omega)⟩
        have := hsub 0 p pl hp hpl2
        cases f with
        | zero => exact this.elim
        | succ f => omega
      have hw := ways_wt (b := b) (S := S) (k := 3 * f) (B := m) (W := fun p => 12 * p.2.length - 8) hpl (fun p hp => by
        obtain ⟨e1, _⟩ := parts_mem hp
        obtain ⟨k, hk, e⟩ := List.mem_map.mp e1
        obtain ⟨k0, kl⟩ := hs k hk
        obtain ⟨b1, b2⟩ := rowK_at h k0 kl
        have hrm : rowK rows k ∈ rows := by
          unfold rowK
          rw [List.getElem?_eq_getElem (by omega)]
          exact List.getElem_mem _
        have hro := h.ok _ hrm
        have hmm : at_ (rowK rows k) (x : Int) ∈ rowK rows k := by
          unfold at_
          rw [List.getD_eq_getElem?_getD, List.getElem?_eq_getElem (by omega)]
          exact List.getElem_mem _
        have := hro.2 _ hmm
        rw [e] at this
        exact this) (by omega) (fun i p pl h2 h3 => by
        have hp := List.mem_of_getElem? h2
        have hlt := parts_lt h1 hp
        exact isB_any h hu hm f p.2 pl (part_ne h1 hp) (by omega) (fun k hk => hs k (part_sub hp k hk)) hr (hsub i p pl h2 h3)) (by omega)
      have hsc := sum_scale (PL := pAt rows sm (x : Int)) fun p hp => (parts_lt h1 hp).2
      have hwt := hw.tup (by omega)
      have := (AnyL.cons (wordV (b := b) (S := S) (w := Str.ofString "ask") (k := 3 * f + 2) (by decide +kernel) (by decide +kernel) (by decide +kernel) (by omega)) (.cons (intV (b := b) (S := S) (i := (x : Int)) (k := 3 * f + 2) (by omega) (by omega)) (.one hwt))).tup (by omega)
      refine this.up (by omega) ?_
      omega
def subD : D → D
  | .tup [_, pl] => pl
  | _ => .non
def deepB : Nat → D → Nat
  | 0, _ => 0
  | f + 1, .tup [_, _, .tup ws] => 1 + maxN (ws.map fun w => deepB f (subD w))
  | _ + 1, _ => 0
theorem max_nats {L : List Nat} (h : L ≠ []) : maxF S [.l false (L.map fun k => D.int ((k : Nat) : Int))] = some (.d (.int ((maxN L : Nat) : Int))) := by
  have e1 : (L.map fun k => D.int ((k : Nat) : Int)) = (L.map fun (k : Nat) => (k : Int)).map D.int := by
    rw [List.map_map]; rfl
  rw [e1, max_l, intsOf_map]
  show gd _ _ = _
  unfold gd
  rw [if_pos (fun z => h (List.map_eq_nil_iff.mp z)), maxI_N]
theorem isB_deep : ∀ (f : Nat) (sm : List Int) (d : D), sm.length ≤ 1000 → IsB rows u f sm d → m_asks_of f [.d (bookD m rows), .d d] S = .ok (.d (.int ((deepB f d : Nat) : Int))) S ∧ m_l_gdeep f [.d d] S = .ok (.d (.int ((deepB f d : Nat) : Int))) S
  | 0, _, _, _, hB => hB.elim
  | f + 1, sm, d, hl, hB => by
    have q1 : eqF S (.d (.str "known")) (.d (.str "known")) = some (.d (.bl true)) := by
      rw [eq_str (by decide +kernel) (by decide +kernel), decide_eq_true rfl]
    have q2 : eqF S (.d (.str "ask")) (.d (.str "known")) = some (.d (.bl false)) := by
      rw [eq_str (by decide +kernel) (by decide +kernel)]
      have e : decide (Str.ofString "ask" = Str.ofString "known") = false := by decide +kernel
      rw [e]
    rcases hB with ⟨rfl, _⟩ | ⟨x, pls, hx, h1, hpl, rfl, hsub⟩
    · have e0 : deepB (f + 1) (knownD sm) = 0 := rfl
      rw [e0]
      constructor
      · refine eq_of (fun_w ?_)
        unfold mb_asks_of knownD
        simp! only [q1]
        rfl
      · refine eq_of (fun_w ?_)
        unfold mb_l_gdeep knownD
        simp! only [q1]
        rfl
    · have hple := parts_le (rows := rows) sm (x : Int)
      have e0 : deepB (f + 1) (.tup [.str "ask", .int (x : Int), .tup (waysD (pAt rows sm x) pls)]) = 1 + maxN ((waysD (pAt rows sm x) pls).map fun w => deepB f (subD w)) := rfl
      rw [e0]
      have hwl := ways_len hpl
      have ih : ∀ (k : Nat) (w : D), (waysD (pAt rows sm (x : Int)) pls)[k]? = some w → ∃ (v : Int) (pl : D), w = .tup [.int v, pl] ∧ m_asks_of f [.d (bookD m rows), .d pl] S = .ok (.d (.int ((deepB f pl : Nat) : Int))) S ∧ m_l_gdeep f [.d pl] S = .ok (.d (.int ((deepB f pl : Nat) : Int))) S := fun k w hw => by
        obtain ⟨p, pl, e1, e2, e3⟩ := ways_get hw
        have hp := List.mem_of_getElem? e1
        have hlt := parts_lt h1 hp
        obtain ⟨i1, i2⟩ := isB_deep f p.2 pl (by omega) (hsub k p pl e1 e2)
        exact ⟨p.1, pl, e3, i1, i2⟩
      have hne : (waysD (pAt rows sm (x : Int)) pls) ≠ [] := fun z => by
        rw [z] at hwl
        simp at hwl
        omega
      have hline : (waysD (pAt rows sm (x : Int)) pls).length ≤ sizeLine := by rw [hwl]; exact le_line (by omega)
      generalize waysD (pAt rows sm (x : Int)) pls = WS at ih hne hline ⊢
      have em : maxF S [.l false (WS.map fun w => D.int ((deepB f (subD w) : Nat) : Int))] = some (.d (.int ((maxN (WS.map fun w => deepB f (subD w)) : Nat) : Int))) := by
        have := max_nats (S := S) (L := WS.map fun w => deepB f (subD w)) (fun z => hne (List.map_eq_nil_iff.mp z))
        rw [List.map_map] at this
        exact this
      constructor
      · refine eq_of (fun_w ?_)
        unfold mb_asks_of
        generalize m_asks_of f = M at ih ⊢
        simp! only [q2]
        refine comp_map (fun w => .int ((deepB f (subD w) : Nat) : Int)) hline trivial (fun k w hw => ?_) ?_
        · obtain ⟨v, pl, rfl, i1, _⟩ := ih k w hw
          refine ⟨_, rfl, ?_⟩
          simp! only [i1]
          rfl
        · simp! only [em]
          rw [Int.natCast_add]
          rfl
      · refine eq_of (fun_w ?_)
        unfold mb_l_gdeep
        generalize m_l_gdeep f = M at ih ⊢
        simp! only [q2]
        refine comp_map (fun w => .int ((deepB f (subD w) : Nat) : Int)) hline trivial (fun k w hw => ?_) ?_
        · obtain ⟨v, pl, rfl, _, i2⟩ := ih k w hw
          refine ⟨_, rfl, ?_⟩
          simp! only [i2]
          rfl
        · simp! only [em]
          rw [Int.natCast_add]
          rfl
end
end

section
open PySem PySem.Spec L2 DM
section
variable {p : Int} {s t : List Int}
theorem room_parts {d : D} (h : roomB p t d = true) : ∃ c e : Int, d = .tup [.int c, .int e, .tup (cellL p c e ((t.length : Int) * (t.length : Int)) t)] ∧ (1 ≤ c ∧ c < p) ∧ (0 ≤ e ∧ e < p) ∧ (t.map (boxF p c e ((t.length : Int) * (t.length : Int)))).Nodup := by
  obtain ⟨c, e, rfl, hn⟩ := roomB_true h
  have h2 : roomB p t (.tup [.int c, .int e, .tup (cellL p c e ((t.length : Int) * (t.length : Int)) t)]) = (isPairB p (.int c) (.int e) && (decide ((t.map (boxF p c e ((t.length : Int) * (t.length : Int)))).Nodup) && cellsB t (cellL p c e ((t.length : Int) * (t.length : Int)) t) (.tup (cellL p c e ((t.length : Int) * (t.length : Int)) t)))) := rfl
  rw [h2, Bool.and_eq_true] at h
  obtain ⟨a, b, e1, e2, h3, h4⟩ := isPairB_true h.1
  cases e1
  cases e2
  exact ⟨c, e, rfl, by omega, h4, hn⟩
structure Tab (p : Int) (s : List Int) (a b : Int) (R : List D) : Prop where
  ha : 1 ≤ a ∧ a < p
  hb : 0 ≤ b ∧ b < p
  meet : 2 * meetL (s.map (boxF p a b (s.length : Int))) < (s.length : Int)
  len : R.length = s.length
  room : ∀ (i : Nat) (r : D), R[i]? = some r → roomB p (inBox p (a, b) (s.length : Int) (i : Int) s) r = true
def tabD (a b : Int) (R : List D) : D := .tup [.int a, .int b, .tup R]
theorem parts_get {a b : Int} {i : Nat} (hi : i < s.length) : (partsP p a b s)[i]? = some (inBox p (a, b) (s.length : Int) (i : Int) s) := by
  unfold partsP
  rw [List.getElem?_map, List.getElem?_range hi]
  rfl
theorem Tab.ok {a b : Int} {R : List D} (T : Tab p s a b R) (h1 : 1 ≤ s.length) : floorsB p s (tabD a b R) = true := by
  have e : floorsB p s (tabD a b R) = (isPairB p (.int a) (.int b) && (decide (R.length = s.length) && ((((partsP p a b s).zip R).all fun q => roomB p q.1 q.2) && decide (squaresI (partsP p a b s) < 2 * (s.length : Int))))) := rfl
  have hm := T.meet
  rw [e, pair_B T.ha T.hb, squares_parts h1, decide_eq_true T.len, decide_eq_true (by omega)]
  have : (((partsP p a b s).zip R).all fun q => roomB p q.1 q.2) = true := by
    rw [List.all_eq_true]
    intro q hq
    obtain ⟨i, hi⟩ := List.mem_iff_getElem?.mp hq
    obtain ⟨h2, h3⟩ := List.getElem?_zip_eq_some.mp hi
    have hil := (List.getElem?_eq_some_iff.mp h3).1
    rw [parts_get (by rw [← T.len]; exact hil)] at h2
    have := T.room i q.2 h3
    have e2 := Option.some.inj h2
    rw [← e2]
    exact this
  rw [this]
  rfl
theorem Tab.small {a b : Int} {R : List D} {i : Nat} (T : Tab p s a b R) (h1 : 1 ≤ s.length) (hi : i < s.length) : (inBox p (a, b) (s.length : Int) (i : Int) s).length * (inBox p (a, b) (s.length : Int) (i : Int) s).length < 2 * s.length := by
  have h := mem_le_sum (l := (partsP p a b s).map fun t => (t.length : Int) * (t.length : Int)) (fun x hx => by
    obtain ⟨j, _, rfl⟩ := List.mem_map.mp hx
    exact Int.mul_nonneg (by omega) (by omega)) _ (List.mem_map.mpr ⟨_, List.mem_of_getElem? (parts_get hi), rfl⟩)
  have h2 := squares_parts (p := p) (a := a) (b := b) h1
  unfold squaresI at h2
  rw [h2] at h
  have := T.meet
  have h3 : (((inBox p (a, b) (s.length : Int) (i : Int) s).length * (inBox p (a, b) (s.length : Int) (i : Int) s).length : Nat) : Int) < ((2 * s.length : Nat) : Int) := by
    push_cast
    omega
  exact_mod_cast h3
variable {b n : Nat} {S : Store}
theorem each_wt {k w : Nat} : ∀ {L : List D}, (∀ x ∈ L, AnyV b S k w x) → (L.map (wtD S k)).sum ≤ L.length * w
  | [], _ => by simp
  | x :: L, h => by
    rw [List.map_cons, List.sum_cons, List.length_cons, Nat.succ_mul]
    have h1 := (h x List.mem_cons_self).wt
    have h2 := each_wt (L := L) fun y hy => h y (List.mem_cons_of_mem _ hy)
    omega
theorem each {k m w : Nat} {L : List D} (h : ∀ x ∈ L, AnyV b S k w x) (hl : L.length ≤ m) : AnyL b S k m (m * w) L := ⟨hl, fun d hd => (h d hd).any, Nat.le_trans (each_wt h) (Nat.mul_le_mul_right _ hl)⟩
theorem cell_in {c e M : Int} {x : D} (ht : RsOk p t) (p6 : p ≤ 1000000) (h : x ∈ cellL p c e M t) : x = .non ∨ ∃ v, x = .int v ∧ 0 ≤ v ∧ v ≤ 1000000 := by
  rcases cellD_two h with rfl | ⟨v, rfl⟩
  · exact .inl rfl
  · refine .inr ⟨v, rfl, ?_⟩
    unfold cellL at h
    obtain ⟨i, _, hi⟩ := List.mem_map.mp h
    have := ht.2 v (cellD_out hi)
    omega
def RoomD (m : Nat) (r : D) : Prop := ∃ (c e : Int) (L : List D), r = .tup [.int c, .int e, .tup L] ∧ (0 ≤ c ∧ c ≤ 1000000) ∧ (0 ≤ e ∧ e ≤ 1000000) ∧ L.length ≤ m ∧ ∀ x ∈ L, x = .non ∨ ∃ v, x = .int v ∧ 0 ≤ v ∧ v ≤ 1000000
theorem Tab.rooms {a q : Int} {R : List D} (T : Tab p s a q R) (hs : RsOk p s) (p6 : p ≤ 1000000) (h1 : 1 ≤ s.length) (h2 : s.length ≤ 12) : ∀ r ∈ R, RoomD 24 r := fun r hr => by
  obtain ⟨i, hi⟩ := List.mem_iff_getElem?.mp hr
  have hil := (List.getElem?_eq_some_iff.mp hi).1
  have hsm := T.small h1 (show i < s.length by rw [← T.len]; exact hil)
  obtain ⟨c, e, rfl, hc, he, _⟩ := room_parts (T.room i r hi)
  have hrs := (inBox_rs (q := (a, q)) (m := (s.length : Int)) (box := (i : Int)) hs).1
  generalize inBox p (a, q) (s.length : Int) (i : Int) s = t at *
  exact ⟨c, e, _, rfl, by omega, by omega, by rw [cellL_len, sq_nat]; omega, fun x hx => cell_in hrs p6 hx⟩
def TabD (m : Nat) (d : D) : Prop := ∃ (a q : Int) (R : List D), d = tabD a q R ∧ (0 ≤ a ∧ a ≤ 1000000) ∧ (0 ≤ q ∧ q ≤ 1000000) ∧ R.length ≤ 12 ∧ ∀ r ∈ R, RoomD m r
theorem Tab.D {a q : Int} {R : List D} (T : Tab p s a q R) (hs : RsOk p s) (p6 : p ≤ 1000000) (h1 : 1 ≤ s.length) (h2 : s.length ≤ 12) : TabD 24 (tabD a q R) := by
  have ha := T.ha
  have hb := T.hb
  exact ⟨a, q, R, rfl, by omega, by omega, by rw [T.len]; exact h2, T.rooms hs p6 h1 h2⟩
end
end

section
open PySem PySem.Spec L2 DM TL
def strN (n : Nat) : Str := Str.ofString (toString (n : Int))
end

section
open PySem PySem.Spec L2 DM TL
end

section
open PySem PySem.Spec L2 DM TL
abbrev rowI (r : List Nat) : List D := r.map fun (n : Nat) => D.int (n : Int)
def wObj (m q : Nat) : O := .obj 7 [("boxes", .int (m : Int)), ("rows", .loc q)]
structure WAt (S : Store) (B p m q : Nat) (ls : List Nat) (rows : List (List Nat)) : Prop where
  bp : B ≤ p
  bq : B ≤ q
  bl : ∀ l ∈ ls, B ≤ l
  pq : p ≠ q
  pl : p ∉ ls
  ql : q ∉ ls
  nd : ls.Nodup
  hp : S[p]? = some (wObj m q)
  hq : S[q]? = some (.lst (ls.map D.loc))
  len : ls.length = rows.length
  row : ∀ (i l : Nat) (r : List Nat), ls[i]? = some l → rows[i]? = some r → S[l]? = some (.lst (rowI r))
def lastR (rows : List (List Nat)) : List Nat := rows.getLast?.getD []
def headR (rows : List (List Nat)) : List Nat := rows.head?.getD []
section
variable {S : Store} {B p m q : Nat} {ls : List Nat} {rows : List (List Nat)}
theorem WAt.ne (h : WAt S B p m q ls rows) (hne : rows ≠ []) : ls ≠ [] := fun z => hne (List.length_eq_zero_iff.mp (by rw [← h.len, z]; rfl))
theorem WAt.first (h : WAt S B p m q ls rows) (hne : rows ≠ []) : ∃ l0, atI (ls.map D.loc) 0 = some (.loc l0) ∧ S[l0]? = some (.lst (rowI (headR rows))) := by
  cases ls with
  | nil => exact absurd rfl (h.ne hne)
  | cons l0 r =>
    refine ⟨l0, DM.atI_nat (l := (l0 :: r).map D.loc) (j := 0) (by simp), ?_⟩
    cases rows with
    | nil => exact absurd rfl hne
    | cons x xs => exact h.row 0 l0 x rfl rfl
end
def fullR (rows : List (List Nat)) : Nat := if 1 < rows.length then (headR rows).length else 64
def putL (rows : List (List Nat)) (n : Nat) : List (List Nat) := rows.dropLast ++ [lastR rows ++ [n]]
structure GoodR (rows : List (List Nat)) : Prop where
  len : rows.length ≤ 600
  row : ∀ r ∈ rows, r.length ≤ 64
  lf : (lastR rows).length ≤ fullR rows
def Low (B : Nat) (S S' : Store) : Prop := S.length ≤ S'.length ∧ ∀ j, j < B → S'[j]? = S[j]?
theorem Low.refl {B : Nat} (S : Store) : Low B S S := ⟨Nat.le_refl _, fun _ _ => rfl⟩
theorem Low.trans {B : Nat} {S S1 S2 : Store} (a : Low B S S1) (b : Low B S1 S2) : Low B S S2 := ⟨Nat.le_trans a.1 b.1, fun j h => (b.2 j h).trans (a.2 j h)⟩
theorem Low.set {B l : Nat} {S : Store} {o : O} (h : B ≤ l) : Low B S (S.set l o) := ⟨by rw [List.length_set]; exact Nat.le_refl _, fun j hj => List.getElem?_set_ne (by omega)⟩
theorem Low.push {B : Nat} {S : Store} {o : O} (h : B ≤ S.length) : Low B S (S ++ [o]) := ⟨by simp, fun j hj => List.getElem?_append_left (by omega)⟩
section
variable {S : Store} {B p m q : Nat} {ls : List Nat} {rows : List (List Nat)}
theorem WAt.pb (h : WAt S B p m q ls rows) : p < S.length := (List.getElem?_eq_some_iff.mp h.hp).1
theorem WAt.lb (h : WAt S B p m q ls rows) {l : Nat} (hl : l ∈ ls) : l < S.length := by
  obtain ⟨i, hi⟩ := List.getElem?_of_mem hl
  have hr : i < rows.length := by rw [← h.len]; exact (List.getElem?_eq_some_iff.mp hi).1
  exact (List.getElem?_eq_some_iff.mp (h.row i l _ hi (List.getElem?_eq_getElem hr))).1
theorem WAt.boxes (h : WAt S B p m q ls rows) (n : Nat) : WAt (S.set p (wObj n q)) B p n q ls rows :=
  ⟨h.bp, h.bq, h.bl, h.pq, h.pl, h.ql, h.nd, List.getElem?_set_self h.pb, by rw [List.getElem?_set_ne h.pq]; exact h.hq, h.len, fun i l r h1 h2 => by
    rw [List.getElem?_set_ne (show p ≠ l from fun z => h.pl (z ▸ List.mem_of_getElem? h1))]; exact h.row i l r h1 h2⟩
theorem WAt.put (h : WAt S B p m q ls rows) (hne : rows ≠ []) {lz n : Nat} (hz : ls[ls.length - 1]? = some lz) : WAt (S.set lz (.lst (rowI (lastR rows ++ [n])))) B p m q ls (putL rows n) := by
  have hm := List.mem_of_getElem? hz
  have hn := List.length_pos_iff.mpr (h.ne hne)
  have hd : rows.dropLast.length = ls.length - 1 := by rw [List.length_dropLast, h.len]
  refine ⟨h.bp, h.bq, h.bl, h.pq, h.pl, h.ql, h.nd, by rw [List.getElem?_set_ne (show lz ≠ p from fun z => h.pl (z ▸ hm))]; exact h.hp, by rw [List.getElem?_set_ne (show lz ≠ q from fun z => h.ql (z ▸ hm))]; exact h.hq, ?_, fun i l r h1 h2 => ?_⟩
  · unfold putL; rw [List.length_append, hd]; simp; omega
  · unfold putL at h2
    by_cases hi : i < ls.length - 1
    · rw [List.getElem?_append_left (by omega)] at h2
      have h3 : rows[i]? = some r := by
        rw [List.getElem?_dropLast] at h2
        split at h2
        · exact h2
        · cases h2
      have e : lz ≠ l := fun z => by
        subst z
        have g1 := (List.getElem?_eq_some_iff.mp hz).2
        have g2 := (List.getElem?_eq_some_iff.mp h1).2
        have := (List.getElem_inj h.nd).mp (g1.trans g2.symm)
        omega
      rw [List.getElem?_set_ne e]
      exact h.row i l r h1 h3
    · have hi' : i = ls.length - 1 := by
        have := (List.getElem?_eq_some_iff.mp h1).1; omega
      subst hi'
      rw [hz] at h1
      cases h1
      rw [List.getElem?_append_right (by omega), hd] at h2
      simp at h2
      subst h2
      exact List.getElem?_set_self (h.lb hm)
end
end

section
open PySem PySem.Spec L2 DM TL
section
variable {S : Store} {B p m q : Nat} {ls : List Nat} {rows : List (List Nat)} {w : Str}
theorem GoodR.head (g : GoodR rows) : (headR rows).length ≤ 64 := by
  cases rows with
  | nil => simp [headR]
  | cons r _ => exact g.row r (by simp)
theorem GoodR.full (g : GoodR rows) : fullR rows ≤ 64 := by
  unfold fullR
  split
  · exact g.head
  · exact Nat.le_refl _
theorem lastR_app {r : List Nat} : lastR (rows ++ [r]) = r := by simp [lastR]
theorem full_put {n : Nat} (hne : rows ≠ []) : fullR (putL rows n) = fullR rows := by
  have hl : (putL rows n).length = rows.length := by
    have := List.length_pos_iff.mpr hne
    unfold putL; rw [List.length_append, List.length_dropLast]; simp; omega
  unfold fullR
  rw [hl]
  split
  · rename_i h1
    congr 1
    unfold headR putL
    match rows, h1 with
    | a :: b :: r, _ => rfl
  · rfl
theorem GoodR.put (g : GoodR rows) (hne : rows ≠ []) (hf : (lastR rows).length ≠ fullR rows) (n : Nat) : GoodR (putL rows n) := by
  have h2 := g.lf
  have h3 := g.full
  refine ⟨?_, fun r hr => ?_, ?_⟩
  · have := g.len; have := List.length_pos_iff.mpr hne
    unfold putL
    rw [List.length_append, List.length_dropLast]; simp; omega
  · unfold putL at hr
    rcases List.mem_append.mp hr with hr | hr
    · exact g.row r (List.dropLast_subset _ hr)
    · have e : r = lastR rows ++ [n] := by simpa using hr
      subst e
      simp; omega
  · rw [full_put hne]
    unfold putL
    rw [lastR_app]
    simp; omega
end
end

section
open PySem PySem.Spec L2 DM TL
end

section
open PySem PySem.Spec L2 DM TL
def blank : Str := Str.ofString " "
structure BkN (m : Nat) (rows : List (List Nat)) : Prop where
  m1 : 1 ≤ m
  m2 : m ≤ 64
  ne : rows ≠ []
  r2 : rows.length ≤ 600
  u : ∃ u, 1 ≤ u ∧ u ≤ 64 ∧ ∀ r ∈ rows, r.length = u ∧ ∀ b ∈ r, b < m
end

section
open PySem PySem.Spec L2 DM TL
end

section
open PySem PySem.Spec L2 DM TL
structure BkT (m : Nat) (rows : List (List Nat)) : Prop where
  m : m < 1000000
  r : rows.length ≤ 1000
  u : ∀ r ∈ rows, r.length ≤ 1000 ∧ ∀ b ∈ r, b < 1000000
theorem BkN.t {m : Nat} {rows : List (List Nat)} (h : BkN m rows) : BkT m rows := by
  obtain ⟨u, u1, u2, hu⟩ := h.u
  have := h.m2
  exact ⟨by omega, Nat.le_trans h.r2 (by decide), fun r hr => ⟨by rw [(hu r hr).1]; omega, fun b hb => by have := (hu r hr).2 b hb; omega⟩⟩
theorem log_nat {n : Nat} (h : n < 1000000) : ((n : Int)).natAbs.log2 < 1920 := by
  rw [Int.natAbs_natCast]
  by_cases h0 : n = 0
  · rw [h0]; decide
  · exact Nat.lt_trans ((Nat.log2_lt h0).mpr (show n < 2 ^ 20 by omega)) (by decide)
end

section
open PySem PySem.Spec L2 DM TL
end

section
open PySem PySem.Spec L2 DM TL
end

section
open PySem PySem.Spec L2 DM TL
theorem log_int {i : Int} (h0 : 0 ≤ i) (h : i < 1000000) : i.natAbs.log2 < 1920 := by
  obtain ⟨n, rfl⟩ := Int.eq_ofNat_of_zero_le h0
  exact log_nat (by omega)
theorem str_len_app {x y : Str} : (x ++ y).length = x.length + y.length := by
  rw [len_tl, tl_append, List.length_append, ← len_tl, ← len_tl]
def rowAB (w : Str) (ns : List Nat) : Bool :=
  if w = Str.ofString "two" then decide (2 < ns.length)
  else if (ns.length : Int) = (tab_ASKED.lookup w).getD (-1) then (if w = Str.ofString "even" ∨ w = Str.ofString "missed" then decide (1 ≤ ns.headD 0 ∧ ns.headD 0 ≤ 4) else true)
  else false
abbrev natD (ns : List Nat) : List D := ns.map fun (n : Nat) => D.int (n : Int)
end

section
open PySem PySem.Spec L2 DM TL
end

section
open PySem PySem.Spec L2 DM TL
noncomputable def mb_evtR : MS := (sSeq (sSet 2 (eCall m_evenfor [(eVar 0), (eVar 1)]))
    (sSeq (sIf (bOf (eOp2 eqF (eOpN lenF [(eVar 2)]) (eC (.int 1)))) (sRet (eC (.str "even"))) sNop)
    (sRet (eMt "str" joinF (eC (.str " ")) [(eLst [(eOp2 ixF (eVar 2) (eC (.int 0))), (eCall m_by_commas [(eOp2 ixF (eVar 2) (eC (.int 1)))]), (eC (.str ":")), (eCall m_by_commas [(eOp2 ixF (eVar 2) (eC (.int 2)))]), (eC (.str ":")), (eOpN strF [(eOp2 ixF (eVar 2) (eC (.int 3)))])])]))))
noncomputable def m_evtR : MF := mFun 2 3 (mb_evtR)
noncomputable def mb_ansR : MS := (sSeq (sIf (bOf (eOp2 eqF (eVar 1) (eC (.str "meets")))) (sRet (eOpN strF [(eCall m_meets [(eVar 0), (eOp2 ixF (eVar 2) (eC (.int 0))), (eOp2 ixF (eVar 2) (eC (.int 1)))])])) sNop)
    (sSeq (sIf (bOf (eOp2 eqF (eVar 1) (eC (.str "worst")))) (sRet (eCall m_worst_text [(eVar 0)])) sNop)
    (sSeq (sIf (bOf (eOp2 eqF (eVar 1) (eC (.str "even")))) (sRet (eCall m_evtR [(eVar 0), (eOp2 ixF (eVar 2) (eC (.int 0)))])) sNop)
    (sSeq (sIf (bOf (eOp2 eqF (eVar 1) (eC (.str "parted")))) (sRet (eOpN strF [(eCall m_parted_by [(eVar 0)])])) sNop)
    (sSeq (sIf (bOf (eOp2 eqF (eVar 1) (eC (.str "missed")))) (sRet (eCall m_missed_text [(eVar 0), (eOp2 ixF (eVar 2) (eC (.int 0)))])) sNop)
    (sSeq (sIf (bOf (eOp2 eqF (eVar 1) (eC (.str "gathered")))) (sRet (eCall m_by_commas [(eCall m_gath [(eVar 0)])])) sNop)
    (sSeq (sSet 3 (eCall m_twoR [(eVar 0), (eOp2 ixF (eVar 2) (eC (.int 0))), (eOp2 ixF (eVar 2) (eC (.int 1))), (eOpN tupF [(eSl (some (eC (.int 2))) none (eVar 2))])]))
    (sRet (eOp2 addF (eOp2 addF (eOp2 ixF (eVar 3) (eC (.int 0))) (eC (.str " "))) (eCall m_by_commas [(eOp2 ixF (eVar 3) (eC (.int 1)))]))))))))))
noncomputable def m_ansR : MF := mFun 3 4 (mb_ansR)
noncomputable def mb_sayR : MS := (sSeq (sSet 2 (eMt "str" splitF (eVar 1) [(eC (.str " "))]))
    (sSeq (sIf (bAnd (bOf (eOp2 eqF (eOp2 ixF (eVar 2) (eC (.int 0))) (eC (.str "book")))) (bOf (eOp2 gtF (eOpN lenF [(eVar 2)]) (eC (.int 1))))) (sSeq (sFld 8 "book" (eVar 0) (eCall m_read_book [(eSl (some (eC (.int 5))) none (eVar 1))]))
    (sRet (eC (.str "ok")))) sNop)
    (sSeq (sSet 3 (eComp (miSeq (qC (eSl (some (eC (.int 1))) none (eVar 2)))) (tgName 4) bYes (eCall m_number_of [(eVar 4)]) [4]))
    (sSeq (sIf (bOf (eOp2 inF (eC .non) (eVar 3))) (sRaise 5) sNop)
    (sSeq (sIf (bAnd (bOf (eOp1 (inGF tab_MADE) (eOp2 ixF (eVar 2) (eC (.int 0))))) (bOf (eCall m_is_made [(eOp2 ixF (eVar 2) (eC (.int 0))), (eVar 3)]))) (sSeq (sFld 8 "book" (eVar 0) (eCall m_made_by [(eOp2 ixF (eVar 2) (eC (.int 0))), (eVar 3)]))
    (sRet (eC (.str "ok")))) sNop)
    (sSeq (sIf (bOr (bOf (eOp2 isF (eFld 8 "book" (eVar 0)) (eC .non))) (bNot (bOf (eCall m_is_asked [(eOp2 ixF (eVar 2) (eC (.int 0))), (eVar 3)])))) (sRaise 5) sNop)
    (sRet (eCall m_ansR [(eFld 8 "book" (eVar 0)), (eOp2 ixF (eVar 2) (eC (.int 0))), (eVar 3)]))))))))
noncomputable def m_sayR : MF := mFun 2 5 (mb_sayR)
def deskO (d : D) : O := .obj 8 [("book", d)]
end

section
open PySem PySem.Spec L2 DM TL
section
variable {S : Store} {bk : D} {p : Bool} {Q : RV → Store → Prop} {X : QX}
end
end

section
open PySem PySem.Spec L2 DM TL
end

section
open PySem PySem.Spec L2 DM TL
def rowW (w : Str) (ns : List Nat) : Str := Txt.join blank (w :: ns.map strN)
section
variable {S : Store} {p : Nat} {bk : D} {Q : RV → Store → Prop} {X : QX}
end
end

section
open PySem PySem.Spec L2 DM
end

section
open PySem PySem.Spec L2 DM TL
structure DkB (m : Int) (u : Nat) (rows : List (List Int)) : Prop where
  ok : BookOk m u rows
  m1 : 1 ≤ m
  m2 : m ≤ 64
  u1 : 1 ≤ u
  u2 : u ≤ 64
  len : rows.length ≤ 600
end

section
open PySem PySem.Spec L2 DM TL
section
variable {m : Int} {u : Nat} {rows : List (List Int)} {S : Store} {Q : RV → Store → Prop} {X : QX}
end
end

section
open PySem PySem.Spec L2 DM TL
noncomputable def mb_saidR : MS := (sSeq (sSet 2 (eC .non))
    (sSeq (sSetS 3 (eC .non))
    (sSeq (sTry 4 2 (sSetS 3 (eMeth 8 "say" m_sayR (eVar 0) [(eVar 1)])))
    (sRet (eCut (eIf (bOf (eOp2 isF (eVar 2) (eC .non))) (eVar 3) (eLst [(eCall m_l_gkind [(eVar 2)])])))))))
noncomputable def m_saidR : MF := mFun 2 5 (mb_saidR)
end

section
open PySem PySem.Spec L2 DM TL
section
variable {S : Store} {Q : RV → Store → Prop} {X : QX} {p : Bool}
end
end

section
open PySem PySem.Spec L2 DM TL
local macro_rules | `(tactic| walk_at "s") => `(tactic| (repeat (refine ⟨by (first | exact log_int (by omega) (by omega) | (refine le_line ?_; (try simp only [str_len_app]); omega) | decide), ?_⟩)))
end

section
open PySem PySem.Spec L2 DM TL
structure WordOk (w : Str) : Prop where
  bl : 32 ∉ tl w
  ok : PyData.strOk w = true
  len : w.length ≤ 100
  nb : w ≠ Str.ofString "book"
  nm : tab_MADE.lookup w = none
structure AskR (x w : Str) (ns : List Nat) : Prop where
  e : x = rowW w ns
  ask : rowAB w ns = true
  n : ∀ n ∈ ns, n < 1000
  l : ns.length ≤ 1000
section
variable {m : Int} {u : Nat} {rows : List (List Int)} {S : Store} {p : Nat} {x w : Str} {ns : List Nat} {Q : RV → Store → Prop} {X : QX}
def sayO : Str ⊕ Nat → RV
  | .inl t => .d (.str t)
  | .inr c => .l true [.str (kindS c)]
end
end

section
open PySem PySem.Spec L2 DM
section
variable {m : Int} {u : Nat} {rows : List (List Int)} {S : Store}
end
end

section
open PySem PySem.Spec L2 DM TL
structure TwoOk (m : Int) (u : Nat) (rows : List (List Int)) (i j : Nat) (s : List Nat) : Prop where
  i : i < rows.length
  j : j < rows.length
  s : RsOk (u : Int) (s.map fun (n : Nat) => (n : Int))
abbrev natI (s : List Nat) : List Int := s.map fun (n : Nat) => (n : Int)
section
variable {m : Int} {u : Nat} {rows : List (List Int)} {S : Store} {Q : RV → Store → Prop} {X : QX} {p i j : Nat} {x : Str} {s : List Nat}
end
end

section
open PySem PySem.Spec L2 DM TL
abbrev Bk := Option (Int × Nat × List (List Int))
def obD : Bk → D
  | none => .non
  | some b => bookD b.1 b.2.2
def obOk : Bk → Prop
  | none => True
  | some b => DkB b.1 b.2.1 b.2.2
structure StayR (x : Str) (o : Bk → Str ⊕ Nat) : Prop where
  ok : PyData.strOk x = true
  len : x.length ≤ 1000000
  txt : ∀ ob, obOk ob → ∀ t, o ob = .inl t → PyData.strOk t = true
  run : ∀ (ob : Bk) (p : Nat) (S : Store) (Q : RV → Store → Prop) (X : QX), obOk ob → S[p]? = some (deskO (obD ob)) → (∀ S', Grow p S S' → S'[p]? = some (deskO (obD ob)) → Q (sayO (o ob)) S') → WR (okR (m_saidR [.d (.loc p), .d (.str x)] S)) Q X
theorem k5 : kindS 5 = Str.ofString "row" := rfl
end

end LM
namespace LK
open PySem PySem.Spec L2 DM LM
def topS (i : Nat) : Stmt := PySem.Challenge.pw_partbook_k64_asks_looked_at.main.body.getD i (.Pass ⟨0, 0, 0, 0⟩)
noncomputable def mb_is_way (rec : MF) : MS := (sSeq (sIf (bOr (bNot (bOf (eOpN isiF [(eVar 3), (eC (.ty "tuple"))]))) (bOr (bOf (eOp2 neF (eOpN lenF [(eVar 3)]) (eC (.int 2)))) (bNot (bOf (eCall m_is_whole [(eOp2 ixF (eVar 3) (eC (.int 0)))]))))) (sRet (eC (.bl false))) sNop)
    (sRet (eAnd (eOp2 eqF (eOp2 ixF (eVar 3) (eC (.int 0))) (eVar 1)) (eCall rec [(eVar 0), (eVar 2), (eOp2 ixF (eVar 3) (eC (.int 1)))]))))
noncomputable def m_is_way (rec : MF) : MF := mFun 4 4 (mb_is_way rec)
noncomputable def mb_is_plan (rec : MF) : MS := (sSeq (sIf (bOr (bNot (bOf (eOpN isiF [(eVar 2), (eC (.ty "tuple"))]))) (bOr (bOf (eOp2 eqF (eOpN lenF [(eVar 2)]) (eC (.int 0)))) (bNot (bOf (eOpN isiF [(eOp2 ixF (eVar 2) (eC (.int 0))), (eC (.ty "str"))]))))) (sRet (eC (.bl false))) sNop)
    (sSeq (sIf (bOf (eOp2 eqF (eOp2 ixF (eVar 2) (eC (.int 0))) (eC (.str "known")))) (sRet (eCall m_is_end [(eVar 0), (eVar 1), (eVar 2)])) sNop)
    (sSeq (sIf (bOr (bOf (eOp2 neF (eOp2 ixF (eVar 2) (eC (.int 0))) (eC (.str "ask")))) (bOr (bOf (eOp2 neF (eOpN lenF [(eVar 2)]) (eC (.int 3)))) (bOr (bNot (bOf (eCall m_is_whole [(eOp2 ixF (eVar 2) (eC (.int 1)))]))) (bNot (bOf (eOpN isiF [(eOp2 ixF (eVar 2) (eC (.int 2))), (eC (.ty "tuple"))])))))) (sRet (eC (.bl false))) sNop)
    (sSeq (sIf (bNot (bOf (eChain leF ltF (eC (.int 0)) (eOp2 ixF (eVar 2) (eC (.int 1))) (eCall m_things_of [(eVar 0)])))) (sRet (eC (.bl false))) sNop)
    (sSeq (sSet 3 (eCall m_parted_at [(eVar 0), (eVar 1), (eOp2 ixF (eVar 2) (eC (.int 1)))]))
    (sSeq (sIf (bOr (bOf (eOp2 ltF (eOpN lenF [(eVar 3)]) (eC (.int 2)))) (bOf (eOp2 neF (eOpN lenF [(eOp2 ixF (eVar 2) (eC (.int 2)))]) (eOpN lenF [(eVar 3)])))) (sRet (eC (.bl false))) sNop)
    (sRet (eOpN allF [(eComp (miZipM (qC (eVar 3)) (qC (eOp2 ixF (eVar 2) (eC (.int 2))))) (tgTup 2 (tgCons (tgName 4) (tgCons (tgName 5) tgNil))) bYes (eCall (m_is_way rec) [(eVar 0), (eOp2 ixF (eVar 4) (eC (.int 0))), (eOp2 ixF (eVar 4) (eC (.int 1))), (eVar 5)]) [4, 5])]))))))))
noncomputable def m_is_plan : Nat → MF
  | 0 => fun _ _ => .bad
  | n + 1 => mFun 3 6 (mb_is_plan (m_is_plan n))
noncomputable def mb_is_asks : MS := (sRet (eCall (m_is_plan 12) [(eVar 0), (eOpN tupRgF [(eOpN lenF [(eOp2 ixF (eVar 0) (eC (.int 1)))])]), (eVar 1)]))
noncomputable def m_is_asks : MF := mFun 2 2 (mb_is_asks)
noncomputable def mb_l_gbuilt (rec : MF) : MS := (sSeq (sSet 3 (eComp (miRng1 (eOpN lenF [(eOp2 ixF (eOp2 ixF (eVar 1) (eC (.int 1))) (eC (.int 0)))])) (tgName 4) (bOf (eOp2 gtF (eOpN lenF [(eCall m_l_gparted [(eVar 1), (eVar 2), (eVar 4)])]) (eC (.int 1)))) (eVar 4) [4]))
    (sSeq (sIf (bOf (eOp2 eqF (eVar 3) (eLst []))) (sRet (eTup [(eC (.str "known")), (eVar 2)])) sNop)
    (sSeq (sSetS 4 (eOp2 ixF (eVar 3) (eCall m_l_gdraw [(eVar 0), (eOpN lenF [(eVar 3)])])))
    (sSeq (sSet 5 (eComp (miSeq (qC (eCall m_l_gparted [(eVar 1), (eVar 2), (eVar 4)]))) (tgTup 2 (tgCons (tgName 6) (tgCons (tgName 7) tgNil))) bYes (eTup [(eVar 6), (eCall rec [(eVar 0), (eVar 1), (eVar 7)])]) [6, 7]))
    (sRet (eTup [(eC (.str "ask")), (eVar 4), (eOpN tupF [(eVar 5)])]))))))
noncomputable def m_l_gbuilt : Nat → MF
  | 0 => fun _ _ => .bad
  | n + 1 => mFun 3 8 (mb_l_gbuilt (m_l_gbuilt n))
noncomputable def mb_l_gbent_end : MS := (sSeq (sSet 2 (eCall m_l_gdraw [(eVar 0), (eC (.int 20))]))
    (sSeq (sAsg (tgTup 2 (tgCons (tgName 3) (tgCons (tgName 4) tgNil))) (eVar 1))
    (sSeq (sSetS 5 (eOpN tupF [(eComp (miSeq (qC (eVar 4))) (tgName 10) bYes (eCut (eIf (bOf (eOp2 ltF (eVar 10) (eC (.int 2)))) (eOp2 eqF (eVar 10) (eC (.int 1))) (eVar 10))) [10])]))
    (sSeq (sSet 6 (eLst [(eTup [(eC (.str "known")), (eSl (some (eC (.int 1))) none (eVar 4))]), (eTup [(eC (.str "known")), (eOp2 addF (eVar 4) (eSl (some (eOp1 negF (eC (.int 1)))) none (eVar 4)))]), (eTup [(eC (.str "known")), (eRevA (eVar 4))]), (eTup [(eC (.str "known")), (eOpN listF [(eVar 4)])])]))
    (sSeq (sSet 6 (eOp2 addF (eVar 6) (eLst [(eTup [(eC (.str "ask")), (eVar 4)]), (eTup [(eC (.str "known")), (eOp2 addF (eVar 4) (eTup [(eOp2 addF (eOp2 ixF (eVar 4) (eOp1 negF (eC (.int 1)))) (eC (.int 1)))]))]), (eTup [(eVar 3), (eVar 4), (eTup [])]), (eTup [(eVar 3)]), (eLst [(eVar 3), (eVar 4)]), (eC .non)])))
    (sSeq (sSet 6 (eOp2 addF (eVar 6) (eLst [(eVar 4), (eTup [(eVar 3), (eVar 5)]), (eTup [(eVar 3), (eC .non)]), (eTup [(eVar 3), (eC (.int 5))])])))
    (sSeq (sSet 7 (eCall m_l_gdraw [(eVar 0), (eOp2 addF (eOpN lenF [(eVar 4)]) (eC (.int 1)))]))
    (sSeq (sSetS 8 (eOp2 ixF (eLst [(eC .non), (eC (.str "0")), (eTup [(eC (.int 0))]), (eLst [(eC (.int 0))]), (eOp1 negF (eC (.int 1))), (eOp2 powF (eC (.int 10)) (eC (.int 39))), (eC (.bl true)), (eOp2 addF (eOp2 ixF (eVar 4) (eOp1 negF (eC (.int 1)))) (eC (.int 1)))]) (eCall m_l_gdraw [(eVar 0), (eC (.int 8))])))
    (sSeq (sSetS 9 (eOp2 ixF (eLst [(eC (.str "")), (eC (.str "none")), (eC (.str "Known")), (eC (.str "known ")), (eC (.str "know")), (eC (.str "k")), (eC .non), (eC (.int 0))]) (eCall m_l_gdraw [(eVar 0), (eC (.int 8))])))
    (sSeq (sSet 6 (eOp2 addF (eVar 6) (eLst [(eTup [(eVar 3), (eC (.str "0"))]), (eTup [(eLst [(eVar 3)]), (eVar 4)]), (eTup [(eVar 9), (eVar 4)]), (eTup [(eVar 3), (eOp2 addF (eOp2 addF (eSl none (some (eVar 7)) (eVar 4)) (eTup [(eVar 8)])) (eSl (some (eVar 7)) none (eVar 4)))])])))
    (sSeq (sApp 6 (eTup [(eVar 3), (eOp2 addF (eOp2 addF (eSl none (some (eVar 7)) (eVar 4)) (eSl (some (eOpN maxF [(eC (.int 0)), (eOp2 subF (eVar 7) (eC (.int 1)))])) (some (eVar 7)) (eVar 4))) (eSl (some (eOp2 addF (eVar 7) (eC (.int 1)))) none (eVar 4)))]))
    (sRet (eOp2 ixF (eOp2 addF (eVar 6) (eLst [(eTup [(eVar 3), (eOp2 addF (eOp2 addF (eSl none (some (eVar 7)) (eVar 4)) (eTup [(eVar 8)])) (eSl (some (eOp2 addF (eVar 7) (eC (.int 1)))) none (eVar 4)))])])) (eVar 2))))))))))))))
noncomputable def m_l_gbent_end : MF := mFun 2 11 (mb_l_gbent_end)
noncomputable def mb_l_gall (rec : MF) : MS := (sSeq (sIf (bOf (eOp2 eqF (eOp2 ixF (eVar 0) (eC (.int 0))) (eC (.str "known")))) (sRet (eOp2 ixF (eVar 0) (eC (.int 1)))) sNop)
    (sSeq (sSet 1 (eLst []))
    (sSeq (sFor (miSeq (qE (eOp2 ixF (eVar 0) (eC (.int 2))))) (tgTup 2 (tgCons (tgName 2) (tgCons (tgName 3) tgNil))) (sSet 1 (eOp2 addF (eVar 1) (eOpN listF [(eCall rec [(eVar 3)])]))))
    (sRet (eOpN tupF [(eOpN sortedF [(eVar 1)])])))))
noncomputable def m_l_gall : Nat → MF
  | 0 => fun _ _ => .bad
  | n + 1 => mFun 1 4 (mb_l_gall (m_l_gall n))
noncomputable def mb_l_gbent (rec : MF) : MS := (sSeq (sIf (bOf (eOp2 eqF (eOp2 ixF (eVar 2) (eC (.int 0))) (eC (.str "known")))) (sRet (eCall m_l_gbent_end [(eVar 0), (eVar 2)])) sNop)
    (sSeq (sAsg (tgTup 3 (tgCons (tgName 3) (tgCons (tgName 4) (tgCons (tgName 5) tgNil)))) (eVar 2))
    (sSeq (sPar 6 7 [(eCall m_l_gdraw [(eVar 0), (eC (.int 10))]), (eCall m_l_gdraw [(eVar 0), (eOpN lenF [(eVar 5)])])])
    (sSeq (sAsg (tgTup 2 (tgCons (tgName 8) (tgCons (tgName 9) tgNil))) (eOp2 ixF (eVar 5) (eVar 7)))
    (sSeq (sSetS 10 (eOp2 ixF (eLst [(eOp2 addF (eVar 4) (eC (.int 1))), (eOp2 subF (eVar 4) (eC (.int 1))), (eOpN lenF [(eOp2 ixF (eOp2 ixF (eVar 1) (eC (.int 1))) (eC (.int 0)))]), (eOp1 negF (eC (.int 1))), (eC (.bl true)), (eC (.bl false)), (eC .non), (eC (.str "0")), (eOp2 powF (eC (.int 10)) (eC (.int 39))), (eC (.int 0))]) (eCall m_l_gdraw [(eVar 0), (eC (.int 10))])))
    (sSeq (sIf (bOf (eOp2 ltF (eVar 6) (eC (.int 5)))) (sRet (eTup [(eVar 3), (eVar 4), (eOp2 addF (eOp2 addF (eSl none (some (eVar 7)) (eVar 5)) (eTup [(eTup [(eVar 8), (eCall rec [(eVar 0), (eVar 1), (eVar 9)])])])) (eSl (some (eOp2 addF (eVar 7) (eC (.int 1)))) none (eVar 5)))])) sNop)
    (sSeq (sIf (bOf (eOp2 eqF (eVar 6) (eC (.int 5)))) (sRet (eTup [(eVar 3), (eVar 10), (eVar 5)])) sNop)
    (sSeq (sIf (bOf (eOp2 eqF (eVar 6) (eC (.int 6)))) (sRet (eTup [(eVar 3), (eVar 4), (eOp2 addF (eOp2 addF (eSl none (some (eVar 7)) (eVar 5)) (eTup [(eTup [(eVar 10), (eVar 9)])])) (eSl (some (eOp2 addF (eVar 7) (eC (.int 1)))) none (eVar 5)))])) sNop)
    (sSeq (sIf (bOf (eOp2 eqF (eVar 6) (eC (.int 7)))) (sSeq (sSetS 11 (eLst [(eOp2 addF (eSl none (some (eVar 7)) (eVar 5)) (eSl (some (eOp2 addF (eVar 7) (eC (.int 1)))) none (eVar 5))), (eOp2 addF (eVar 5) (eSl (some (eVar 7)) (some (eOp2 addF (eVar 7) (eC (.int 1)))) (eVar 5))), (eRevA (eVar 5))]))
    (sSeq (sApp 11 (eOp2 addF (eOp2 addF (eSl none (some (eVar 7)) (eVar 5)) (eSl (some (eOpN maxF [(eC (.int 0)), (eOp2 subF (eVar 7) (eC (.int 1)))])) (some (eVar 7)) (eVar 5))) (eSl (some (eOp2 addF (eVar 7) (eC (.int 1)))) none (eVar 5))))
    (sSeq (sApp 11 (eOpN tupF [(eComp (miZip (qC (eVar 5)) (qC (eOp2 addF (eSl (some (eC (.int 1))) none (eVar 5)) (eSl none (some (eC (.int 1))) (eVar 5))))) (tgTup 2 (tgCons (tgName 14) (tgCons (tgName 15) tgNil))) bYes (eTup [(eOp2 ixF (eVar 14) (eC (.int 0))), (eOp2 ixF (eVar 15) (eC (.int 1)))]) [14, 15])]))
    (sRet (eTup [(eVar 3), (eVar 4), (eOp2 ixF (eVar 11) (eCall m_l_gdraw [(eVar 0), (eC (.int 5))]))]))))) sNop)
    (sSeq (sIf (bOf (eOp2 eqF (eVar 6) (eC (.int 8)))) (sSeq (sSet 12 (eLst [(eTup [(eVar 8)]), (eLst [(eVar 8), (eVar 9)]), (eTup [(eVar 8), (eVar 9), (eVar 9)]), (eVar 9), (eC .non), (eC (.int 5)), (eTup [(eLst [(eC (.str "0"))]), (eVar 9)]), (eC (.str "0"))]))
    (sRet (eTup [(eVar 3), (eVar 4), (eOp2 addF (eOp2 addF (eSl none (some (eVar 7)) (eVar 5)) (eTup [(eOp2 ixF (eVar 12) (eCall m_l_gdraw [(eVar 0), (eC (.int 8))]))])) (eSl (some (eOp2 addF (eVar 7) (eC (.int 1)))) none (eVar 5)))]))) sNop)
    (sSeq (sSet 12 (eLst [(eTup [(eVar 3), (eVar 4), (eOpN listF [(eVar 5)])]), (eTup [(eVar 3), (eVar 4)]), (eTup [(eVar 3), (eVar 4), (eVar 5), (eTup [])]), (eOpN listF [(eVar 2)]), (eTup [(eC (.str "known")), (eVar 4), (eVar 5)]), (eTup [(eC (.str "asks")), (eVar 4), (eVar 5)])]))
    (sSeq (sSetS 11 (eCall (m_l_gall 12) [(eVar 2)]))
    (sSeq (sSetS 13 (eCall m_l_gdraw [(eVar 0), (eOpN lenF [(eOp2 ixF (eOp2 ixF (eVar 1) (eC (.int 1))) (eC (.int 0)))])]))
    (sSeq (sSet 12 (eOp2 addF (eVar 12) (eLst [(eTup [(eC (.str "known")), (eVar 11)]), (eTup [(eC (.str "ask")), (eVar 13), (eTup [(eTup [(eOp2 ixF (eOp2 ixF (eOp2 ixF (eVar 1) (eC (.int 1))) (eOp2 ixF (eVar 11) (eC (.int 0)))) (eVar 13)), (eVar 2)])])]), (eTup [(eC (.str "known")), (eVar 11)])])))
    (sSeq (sSet 12 (eOp2 addF (eVar 12) (eLst [(eTup [(eVar 3), (eVar 4), (eC .non)]), (eTup [(eVar 3), (eVar 4), (eC (.int 7))]), (eTup [(eVar 3), (eVar 4), (eC (.str "0"))]), (eTup [(eLst [(eVar 3)]), (eVar 4), (eVar 5)]), (eTup [(eVar 3), (eC .non), (eVar 5)])])))
    (sSeq (sSetS 3 (eOp2 ixF (eLst [(eC (.str "")), (eC (.str "Ask")), (eC (.str "ask ")), (eC (.str "as")), (eC .non), (eC (.int 0))]) (eCall m_l_gdraw [(eVar 0), (eC (.int 6))])))
    (sRet (eOp2 ixF (eOp2 addF (eVar 12) (eLst [(eC .non), (eC (.int 5)), (eTup []), (eVar 5), (eTup [(eVar 3), (eVar 4), (eVar 5)])])) (eCall m_l_gdraw [(eVar 0), (eC (.int 19))])))))))))))))))))))
noncomputable def m_l_gbent : Nat → MF
  | 0 => fun _ _ => .bad
  | n + 1 => mFun 3 16 (mb_l_gbent (m_l_gbent n))
noncomputable def mb_l_gmore_ways (rec : MF) : MS := (sSeq (sIf (bOf (eOp2 eqF (eOp2 ixF (eVar 2) (eC (.int 0))) (eC (.str "known")))) (sRet (eCall m_l_gbent_end [(eVar 0), (eVar 2)])) sNop)
    (sSeq (sAsg (tgTup 3 (tgCons (tgName 3) (tgCons (tgName 4) (tgCons (tgName 5) tgNil)))) (eVar 2))
    (sSeq (sSet 6 (eCall m_l_gdraw [(eVar 0), (eOpN lenF [(eVar 5)])]))
    (sSeq (sIf (bAnd (bOf (eOp2 eqF (eOp2 ixF (eOp2 ixF (eOp2 ixF (eVar 5) (eVar 6)) (eC (.int 1))) (eC (.int 0))) (eC (.str "ask")))) (bOf (eOp2 eqF (eCall m_l_gdraw [(eVar 0), (eC (.int 2))]) (eC (.int 0))))) (sSeq (sSetS 7 (eTup [(eOp2 ixF (eOp2 ixF (eVar 5) (eVar 6)) (eC (.int 0))), (eCall rec [(eVar 0), (eVar 1), (eOp2 ixF (eOp2 ixF (eVar 5) (eVar 6)) (eC (.int 1)))])]))
    (sRet (eTup [(eVar 3), (eVar 4), (eOp2 addF (eOp2 addF (eSl none (some (eVar 6)) (eVar 5)) (eTup [(eVar 7)])) (eSl (some (eOp2 addF (eVar 6) (eC (.int 1)))) none (eVar 5)))]))) sNop)
    (sSeq (sSet 8 (eDictT (eVar 5)))
    (sSeq (sSet 9 (eComp (miRng1 (eOp2 addF (eOpN minF [(eOp2 ixF (eVar 1) (eC (.int 0))), (eC (.int 40))]) (eC (.int 2)))) (tgName 11) (bOf (eOp2 dninKF (eVar 11) (eVar 8))) (eVar 11) [11]))
    (sSeq (sCut (sIf (bOf (eOp2 eqF (eCall m_l_gdraw [(eVar 0), (eC (.int 2))]) (eC (.int 0)))) (sSet 9 (eLst [(eOp2 ixF (eVar 9) (eCall m_l_gdraw [(eVar 0), (eOpN lenF [(eVar 9)])]))])) sNop))
    (sSeq (sSetS 10 (eOp2 ixF (eLst [(eTup [(eC (.str "known")), (eTup [])]), (eTup [(eC (.str "known")), (eSl none (some (eC (.int 1))) (eCall (m_l_gall 12) [(eVar 2)]))]), (eVar 2)]) (eCall m_l_gdraw [(eVar 0), (eC (.int 3))])))
    (sRet (eTup [(eVar 3), (eVar 4), (eOpN tupF [(eSortTP (eOp2 addF (eVar 5) (eOpN tupF [(eComp (miSeq (qC (eVar 9))) (tgName 11) bYes (eTup [(eVar 11), (eVar 10)]) [11])])))])]))))))))))
noncomputable def m_l_gmore_ways : Nat → MF
  | 0 => fun _ _ => .bad
  | n + 1 => mFun 3 12 (mb_l_gmore_ways (m_l_gmore_ways n))
noncomputable def mb_l_gtwice : MS := (sSeq (sIf (bOf (eOp2 eqF (eOp2 ixF (eVar 2) (eC (.int 0))) (eC (.str "known")))) (sRet (eCall m_l_gbent_end [(eVar 0), (eVar 2)])) sNop)
    (sSeq (sAsg (tgTup 3 (tgCons (tgName 3) (tgCons (tgName 4) (tgCons (tgName 5) tgNil)))) (eVar 2))
    (sSeq (sSet 6 (eComp (miSeq (qC (eSl none (some (eC (.int 2))) (eVar 5)))) (tgTup 2 (tgCons (tgName 7) (tgCons (tgName 8) tgNil))) bYes (eTup [(eVar 7), (eCall (m_l_gbent 12) [(eVar 0), (eVar 1), (eVar 8)])]) [7, 8]))
    (sRet (eTup [(eVar 3), (eVar 4), (eOp2 addF (eOpN tupF [(eVar 6)]) (eSl (some (eC (.int 2))) none (eVar 5)))])))))
noncomputable def m_l_gtwice : MF := mFun 3 9 (mb_l_gtwice)
noncomputable def mb_l_gspread : MS := (sSeq (sSet 2 (eOp2 ixF (eLst [(eC (.int 1)), (eC (.int 1)), (eC (.int 13)), (eC (.int 800))]) (eCall m_l_gdraw [(eVar 0), (eC (.int 4))])))
    (sSeq (sSet 3 (eComp (miRng1 (eOp2 ixF (eVar 1) (eC (.int 0)))) (tgName 4) bYes (eOp2 addF (eOp2 mulF (eVar 4) (eVar 2)) (eCall m_l_gdraw [(eVar 0), (eVar 2)])) [4]))
    (sRet (eTup [(eOp2 mulF (eOp2 ixF (eVar 1) (eC (.int 0))) (eVar 2)), (eOpN tupF [(eComp (miSeq (qC (eOp2 ixF (eVar 1) (eC (.int 1))))) (tgName 5) bYes (eOpN tupF [(eComp (miSeq (qC (eVar 5))) (tgName 4) bYes (eOp2 ixF (eVar 3) (eVar 4)) [4])]) [5])])]))))
noncomputable def m_l_gspread : MF := mFun 2 6 (mb_l_gspread)
noncomputable def mb_l_glone_right : MS := (sSeq (sSet 1 (eOp2 addF (eC (.int 8)) (eCall m_l_gdraw [(eVar 0), (eC (.int 2))])))
    (sSeq (sSet 2 (eTup [(eC (.int 2)), (eOpN tupF [(eComp (miRng1 (eVar 1)) (tgName 4) bYes (eOpN tupF [(eComp (miRng1 (eOp2 subF (eVar 1) (eC (.int 1)))) (tgName 6) bYes (eOpN intF [(eOp2 eqF (eVar 6) (eVar 4))]) [6])]) [4])])]))
    (sSeq (sSetS 3 (eTup [(eC (.str "known")), (eTup [(eOp2 subF (eVar 1) (eC (.int 1)))])]))
    (sSeq (sFor (miRng3 (eOp2 subF (eVar 1) (eC (.int 2))) (eOp1 negF (eC (.int 1))) (eOp1 negF (eC (.int 1)))) (tgName 4) (sSetS 3 (eTup [(eC (.str "ask")), (eVar 4), (eTup [(eTup [(eC (.int 0)), (eVar 3)]), (eTup [(eC (.int 1)), (eTup [(eC (.str "known")), (eTup [(eVar 4)])])])])])))
    (sSeq (sIf (bOr (bOf (eOp2 isntBF (eCall m_is_asks [(eVar 2), (eVar 3)]) (eC (.bl true)))) (bNot (bOf (eCall (m_l_gsame 12) [(eCall (m_asks_of 12) [(eVar 2), (eVar 3)]), (eOp2 subF (eVar 1) (eC (.int 1)))])))) (sRet (eC (.bl false))) sNop)
    (sSeq (sSet 5 (eCall (m_l_gbent 12) [(eVar 0), (eVar 2), (eVar 3)]))
    (sRet (eCall (m_l_gsame 12) [(eCall m_is_asks [(eVar 2), (eVar 5)]), (eCall (m_l_gis_plan 12) [(eVar 2), (eOpN tupRgF [(eVar 1)]), (eVar 5)])]))))))))
noncomputable def m_l_glone_right : MF := mFun 1 7 (mb_l_glone_right)
noncomputable def mb_law : MS := (sSeq (sSetS 1 (eLst [(eOpN listF [(eSl none (some (eC (.int 63))) (eVar 0))]), (eC (.int 0)), (eC (.int 0))]))
    (sSeq (sFor (miRng1 (eC (.int 4))) (tgName 2) (sSeq (sSet 3 (eCall m_l_gspread [(eVar 1), (eCall m_l_gbook [(eVar 1), (eC (.int 5)), (eC (.int 7)), (eOp2 ixF (eLst [(eC (.int 8)), (eC (.int 8)), (eC (.int 12)), (eC (.int 40))]) (eVar 2))])]))
    (sSeq (sSet 4 (eOpN tupRgF [(eOpN lenF [(eOp2 ixF (eVar 3) (eC (.int 1)))])]))
    (sFor (miRng1 (eC (.int 2))) (tgName 5) (sSeq (sSet 6 (eCall (m_l_gbuilt 12) [(eVar 1), (eVar 3), (eVar 4)]))
    (sSeq (sIf (bOr (bOf (eOp2 isntBF (eCall m_is_asks [(eVar 3), (eVar 6)]) (eC (.bl true)))) (bNot (bOf (eCall (m_l_gsame 12) [(eCall (m_asks_of 12) [(eVar 3), (eVar 6)]), (eCall (m_l_gdeep 12) [(eVar 6)])])))) (sRet (eC (.bl false))) sNop)
    (sSeq (sSet 7 (eComp (miRng1 (eC (.int 5))) (tgName 10) bYes (eCall (m_l_gbent 12) [(eVar 1), (eVar 3), (eVar 6)]) [10]))
    (sFor (miSeq (qE (eOp2 addF (eVar 7) (eLst [(eCall m_l_gtwice [(eVar 1), (eVar 3), (eVar 6)]), (eCall (m_l_gmore_ways 12) [(eVar 1), (eVar 3), (eVar 6)])])))) (tgName 8) (sSeq (sSet 9 (eOpN reprF [(eVar 8)]))
    (sIf (bOr (bNot (bOf (eCall (m_l_gsame 12) [(eCall m_is_asks [(eVar 3), (eVar 8)]), (eCall (m_l_gis_plan 12) [(eVar 3), (eVar 4), (eVar 8)])]))) (bOf (eOp2 neF (eOpN reprF [(eVar 8)]) (eVar 9)))) (sRet (eC (.bl false))) sNop))))))))))
    (sRet (eCall m_l_glone_right [(eVar 1)]))))
noncomputable def m_law : MF := mFun 1 11 (mb_law)
abbrev gT (K : PySem.W.Frag) (cl fns : List Addr) : GT := ⟨K, cl, fns, fun _ _ _ _ => False⟩
structure Txt (K : PySem.W.Frag) (mg : Str → Option Value) (cl fns : List Addr) : Prop where
  b_all : mg "all" = none
  b_bool : mg "bool" = none
  b_dict : mg "dict" = none
  b_int : mg "int" = none
  b_isinstance : mg "isinstance" = none
  b_len : mg "len" = none
  b_list : mg "list" = none
  b_max : mg "max" = none
  b_min : mg "min" = none
  b_range : mg "range" = none
  b_repr : mg "repr" = none
  b_set : mg "set" = none
  b_sorted : mg "sorted" = none
  b_str : mg "str" = none
  b_tuple : mg "tuple" = none
  b_zip : mg "zip" = none
section
variable {P : Program} {w : World} {K : PySem.W.Frag} {mg : Str → Option Value} {base : Heap} {cl fns : List Addr}
abbrev s_is_whole : Stmt := topS 1
theorem sc_is_whole : FnScope ["thing"] ["thing"] (defScope s_is_whole) := ⟨rfl, rfl, rfl, by decide +kernel, rfl, by decide +kernel, by decide +kernel⟩
theorem ok_is_whole {f : Addr} {fd : FuncData} (T : Txt K mg cl fns) (F : Fun K "is_whole" "is_whole" s_is_whole f fd) (hm : mg "is_whole" = some (.ref f)) (hb : Binds K fd ["thing"] [])  : Cal (gT K cl fns) P w K mg base 1 "is_whole" 1 (m_is_whole) :=
  cal_mk F hm hb (fn_ok F sc_is_whole fun cdv A outer s H E hr tk hp =>
    have nd := sc_is_whole.nd
    (sp_one (sp_ret (se_and (se_isi (by rfl) T.b_isinstance (sa_cons (se_var (i := 0) rfl rfl (.inl rfl)) (sa_cons (se_ty (n := "int") rfl (by rfl) T.b_int bt_int) (sa_nil rfl)))) (se_one (se_not (se_isi (by rfl) T.b_isinstance (sa_cons (se_var (i := 0) rfl rfl (.inl rfl)) (sa_cons (se_ty (n := "bool") rfl (by rfl) T.b_bool bt_bool) (sa_nil rfl))))))))))
abbrev s_things_of : Stmt := topS 3
theorem sc_things_of : FnScope ["book"] ["book"] (defScope s_things_of) := ⟨rfl, rfl, rfl, by decide +kernel, rfl, by decide +kernel, by decide +kernel⟩
theorem ok_things_of {f : Addr} {fd : FuncData} (T : Txt K mg cl fns) (F : Fun K "things_of" "things_of" s_things_of f fd) (hm : mg "things_of" = some (.ref f)) (hb : Binds K fd ["book"] [])  : Cal (gT K cl fns) P w K mg base 1 "things_of" 1 (m_things_of) :=
  cal_mk F hm hb (fn_ok F sc_things_of fun cdv A outer s H E hr tk hp =>
    have nd := sc_things_of.nd
    (sp_one (sp_ret (se_len (by rfl) T.b_len (sa_cons (se_sub_ (se_sub_ (se_var (i := 0) rfl rfl (.inl rfl)) (se_int rfl)) (se_int rfl)) (sa_nil rfl))))))
abbrev s_parted_at : Stmt := topS 5
theorem sc_parted_at : FnScope ["book", "some", "x", "boxes", "box", "k"] ["book", "some", "x"] (defScope s_parted_at) := ⟨rfl, rfl, rfl, by decide +kernel, rfl, by decide +kernel, by decide +kernel⟩
theorem ok_parted_at {f : Addr} {fd : FuncData} (T : Txt K mg cl fns) (F : Fun K "parted_at" "parted_at" s_parted_at f fd) (hm : mg "parted_at" = some (.ref f)) (hb : Binds K fd ["book", "some", "x"] [])  : Cal (gT K cl fns) P w K mg base 1 "parted_at" 3 (m_parted_at) :=
  cal_mk F hm hb (fn_ok F sc_parted_at fun cdv A outer s H E hr tk hp =>
    have nd := sc_parted_at.nd
    (sp_cons (sp_set (i := 3) (se_sortedSet rfl (by rfl) T.b_sorted (by rfl) T.b_set (se_lc (own := [("k", 5)]) (ix := [5]) (g := (gName 5)) rfl nd (si_seq (sq_c (se_var (i := 1) rfl rfl (.inr (.inl rfl))))) (blkOk_by (own := [("k", 5)]) (by kernel_rfl)) (by decide) (fun _ _ _ _ _ => (pg_name (i := 5) nd rfl (.inl rfl))) og_name (fun _ _ _ _ _ => (sts_nil rfl)) (fun _ _ _ _ _ => (se_sub_ (se_sub_ (se_sub_ (se_var (i := 0) rfl rfl (.inr (.inl rfl))) (se_int rfl)) (se_var (i := 5) rfl rfl (.inl rfl))) (se_var (i := 2) rfl rfl (.inr (.inl rfl))))))) nd rfl (.inl rfl))
    (sp_one (sp_ret (se_lc (own := [("box", 4)]) (ix := [4]) (g := (gName 4)) rfl nd (si_seq (sq_c (se_var (i := 3) rfl rfl (.inl rfl)))) (blkOk_by (own := [("box", 4)]) (by kernel_rfl)) (by decide) (fun _ _ _ _ _ => (pg_name (i := 4) nd rfl (.inr rfl))) og_name (fun _ _ _ _ _ => (sts_nil rfl)) (fun _ _ _ _ _ => (se_tup (si_cons (se_var (i := 4) rfl rfl (.inr (.inl rfl))) (si_cons (se_tuple (by rfl) T.b_tuple (sa_cons (se_lc (own := [("k", 5)]) (ix := [5]) (g := (gName 5)) rfl nd (si_seq (sq_c (se_var (i := 1) rfl rfl (.inr (.inl rfl))))) (blkOk_by (own := [("k", 5)]) (by kernel_rfl)) (by decide) (fun _ _ _ _ _ => (pg_name (i := 5) nd rfl (.inl rfl))) og_name (fun _ _ _ _ _ => (sts_one (sb_eq hr.units (se_sub_ (se_sub_ (se_sub_ (se_var (i := 0) rfl rfl (.inr (.inl rfl))) (se_int rfl)) (se_var (i := 5) rfl rfl (.inl rfl))) (se_var (i := 2) rfl rfl (.inr (.inl rfl)))) (se_var (i := 4) rfl rfl (.inr (.inl rfl)))))) (fun _ _ _ _ _ => (se_var (i := 5) rfl rfl (.inl rfl)))) (sa_nil rfl))) (si_nil rfl))))))))))
abbrev s_is_end : Stmt := topS 6
theorem sc_is_end : FnScope ["book", "some", "thing", "k", "one"] ["book", "some", "thing"] (defScope s_is_end) := ⟨rfl, rfl, rfl, by decide +kernel, rfl, by decide +kernel, by decide +kernel⟩
theorem ok_is_end {f : Addr} {fd : FuncData} (T : Txt K mg cl fns) (F : Fun K "is_end" "is_end" s_is_end f fd) (hm : mg "is_end" = some (.ref f)) (hb : Binds K fd ["book", "some", "thing"] []) (c_is_whole : Cal (gT K cl fns) P w K mg base 1 "is_whole" 1 m_is_whole) : Cal (gT K cl fns) P w K mg base 2 "is_end" 3 (m_is_end) :=
  cal_mk F hm hb (fn_ok F sc_is_end fun cdv A outer s H E hr tk hp =>
    have nd := sc_is_end.nd
    (sp_cons (sp_if (sb_w (sbw_or (sb_ne hr.units (se_len (by rfl) T.b_len (sa_cons (se_var (i := 2) rfl rfl (.inl rfl)) (sa_nil rfl))) (se_int rfl)) (sbw_or (sb_not (sb_val (se_isi (by rfl) T.b_isinstance (sa_cons (se_sub_ (se_var (i := 2) rfl rfl (.inl rfl)) (se_int rfl)) (sa_cons (se_ty (n := "tuple") rfl (by rfl) T.b_tuple bt_tuple) (sa_nil rfl)))))) (sbw_or1 (sb_not (sb_val (se_all rfl (by rfl) T.b_all (sa_cons (se_lc (own := [("one", 4)]) (ix := [4]) (g := (gName 4)) rfl nd (si_seq (sq_c (se_sub_ (se_var (i := 2) rfl rfl (.inl rfl)) (se_int rfl)))) (blkOk_by (own := [("one", 4)]) (by kernel_rfl)) (by decide) (fun _ _ _ _ _ => (pg_name (i := 4) nd rfl (.inl rfl))) og_name (fun _ _ _ _ _ => (sts_nil rfl)) (fun _ _ _ _ _ => (se_callC takes0 c_is_whole (hr.mono (by omega)) (by rfl) (sa_cons (se_var (i := 4) rfl rfl (.inl rfl)) (sa_nil rfl))))) (sa_nil rfl))))))))) (sp_one (sp_ret (se_bl rfl))) (sp_nil rfl))
    (sp_one (sp_ret (se_and (se_eq hr.units (se_sub_ (se_var (i := 2) rfl rfl (.inl rfl)) (se_int rfl)) (se_var (i := 1) rfl rfl (.inr (.inl rfl)))) (se_one (se_all rfl (by rfl) T.b_all (sa_cons (se_lc (own := [("k", 3)]) (ix := [3]) (g := (gName 3)) rfl nd (si_seq (sq_c (se_var (i := 1) rfl rfl (.inr (.inl rfl))))) (blkOk_by (own := [("k", 3)]) (by kernel_rfl)) (by decide) (fun _ _ _ _ _ => (pg_name (i := 3) nd rfl (.inl rfl))) og_name (fun _ _ _ _ _ => (sts_nil rfl)) (fun _ _ _ _ _ => (se_eq hr.units (se_sub_ (se_sub_ (se_var (i := 0) rfl rfl (.inr (.inl rfl))) (se_int rfl)) (se_var (i := 3) rfl rfl (.inl rfl))) (se_sub_ (se_sub_ (se_var (i := 0) rfl rfl (.inr (.inl rfl))) (se_int rfl)) (se_sub_ (se_var (i := 1) rfl rfl (.inr (.inl rfl))) (se_int rfl)))))) (sa_nil rfl)))))))))
abbrev s_is_way : Stmt := topS 7
theorem sc_is_way : FnScope ["book", "box", "others", "thing"] ["book", "box", "others", "thing"] (defScope s_is_way) := ⟨rfl, rfl, rfl, by decide +kernel, rfl, by decide +kernel, by decide +kernel⟩
theorem ok_is_way {f : Addr} {fd : FuncData} (T : Txt K mg cl fns) (F : Fun K "is_way" "is_way" s_is_way f fd) (hm : mg "is_way" = some (.ref f)) (hb : Binds K fd ["book", "box", "others", "thing"] []) (c_is_whole : Cal (gT K cl fns) P w K mg base 1 "is_whole" 1 m_is_whole) (n : Nat) {rec : MF} (ih : Cal (gT K cl fns) P w K mg base (3 + 2 * n) "is_plan" 3 rec) : Cal (gT K cl fns) P w K mg base (3 + 2 * n + 1) "is_way" 4 (m_is_way rec) :=
  cal_mk F hm hb (show FnOk P w K mg base (L2.CX P w) (3 + 2 * n + 1) f fd ["book", "box", "others", "thing"] (spM (gT K cl fns) 4 (m_is_way rec)) from fn_ok F sc_is_way fun cdv A outer s H E hr tk hp =>
    have nd := sc_is_way.nd
    (sp_cons (sp_if (sb_w (sbw_or (sb_not (sb_val (se_isi (by rfl) T.b_isinstance (sa_cons (se_var (i := 3) rfl rfl (.inl rfl)) (sa_cons (se_ty (n := "tuple") rfl (by rfl) T.b_tuple bt_tuple) (sa_nil rfl)))))) (sbw_or (sb_ne hr.units (se_len (by rfl) T.b_len (sa_cons (se_var (i := 3) rfl rfl (.inl rfl)) (sa_nil rfl))) (se_int rfl)) (sbw_or1 (sb_not (sb_val (se_callC tk c_is_whole (hr.mono (by omega)) (by rfl) (sa_cons (se_sub_ (se_var (i := 3) rfl rfl (.inl rfl)) (se_int rfl)) (sa_nil rfl))))))))) (sp_one (sp_ret (se_bl rfl))) (sp_nil rfl))
    (sp_one (sp_ret (se_and (se_eq hr.units (se_sub_ (se_var (i := 3) rfl rfl (.inl rfl)) (se_int rfl)) (se_var (i := 1) rfl rfl (.inl rfl))) (se_one (se_callC tk ih hr (by rfl) (sa_cons (se_var (i := 0) rfl rfl (.inl rfl)) (sa_cons (se_var (i := 2) rfl rfl (.inl rfl)) (sa_cons (se_sub_ (se_var (i := 3) rfl rfl (.inl rfl)) (se_int rfl)) (sa_nil rfl)))))))))))
abbrev s_is_plan : Stmt := topS 8
theorem sc_is_plan : FnScope ["book", "some", "thing", "parts", "part", "way"] ["book", "some", "thing"] (defScope s_is_plan) := ⟨rfl, rfl, rfl, by decide +kernel, rfl, by decide +kernel, by decide +kernel⟩
theorem ok_is_plan {f : Addr} {fd : FuncData} (T : Txt K mg cl fns) (F : Fun K "is_plan" "is_plan" s_is_plan f fd) (hm : mg "is_plan" = some (.ref f)) (hb : Binds K fd ["book", "some", "thing"] []) {fv : Addr} {fdv : FuncData} (Fv : Fun K "is_way" "is_way" s_is_way fv fdv) (hmv : mg "is_way" = some (.ref fv)) (hbv : Binds K fdv ["book", "box", "others", "thing"] []) (c_is_end : Cal (gT K cl fns) P w K mg base 2 "is_end" 3 m_is_end) (c_is_whole : Cal (gT K cl fns) P w K mg base 1 "is_whole" 1 m_is_whole) (c_things_of : Cal (gT K cl fns) P w K mg base 1 "things_of" 1 m_things_of) (c_parted_at : Cal (gT K cl fns) P w K mg base 1 "parted_at" 3 m_parted_at)  : ∀ n, Cal (gT K cl fns) P w K mg base (3 + 2 * n) "is_plan" 3 (m_is_plan n)
  | 0 => cal_zero F hm hb sc_is_plan
  | n + 1 => cal_mk F hm hb (show FnOk P w K mg base (L2.CX P w) (3 + 2 * n + 1 + 1) f fd ["book", "some", "thing"] (spM (gT K cl fns) 3 (m_is_plan (n + 1))) from fn_ok F sc_is_plan fun cdv A outer s H E hr tk hp =>
    have nd := sc_is_plan.nd
    have ih := ok_is_plan T F hm hb Fv hmv hbv c_is_end c_is_whole c_things_of c_parted_at n
    have c_is_way := ok_is_way T Fv hmv hbv c_is_whole n ih
    (sp_cons (sp_if (sb_w (sbw_or (sb_not (sb_val (se_isi (by rfl) T.b_isinstance (sa_cons (se_var (i := 2) rfl rfl (.inl rfl)) (sa_cons (se_ty (n := "tuple") rfl (by rfl) T.b_tuple bt_tuple) (sa_nil rfl)))))) (sbw_or (sb_eq hr.units (se_len (by rfl) T.b_len (sa_cons (se_var (i := 2) rfl rfl (.inl rfl)) (sa_nil rfl))) (se_int rfl)) (sbw_or1 (sb_not (sb_val (se_isi (by rfl) T.b_isinstance (sa_cons (se_sub_ (se_var (i := 2) rfl rfl (.inl rfl)) (se_int rfl)) (sa_cons (se_ty (n := "str") rfl (by rfl) T.b_str bt_str) (sa_nil rfl)))))))))) (sp_one (sp_ret (se_bl rfl))) (sp_nil rfl))
    (sp_cons (sp_if (sb_eq hr.units (se_sub_ (se_var (i := 2) rfl rfl (.inl rfl)) (se_int rfl)) (se_str rfl)) (sp_one (sp_ret (se_callC tk c_is_end (hr.mono (by omega)) (by rfl) (sa_cons (se_var (i := 0) rfl rfl (.inr (.inl rfl))) (sa_cons (se_var (i := 1) rfl rfl (.inl rfl)) (sa_cons (se_var (i := 2) rfl rfl (.inl rfl)) (sa_nil rfl))))))) (sp_nil rfl))
    (sp_cons (sp_if (sb_w (sbw_or (sb_ne hr.units (se_sub_ (se_var (i := 2) rfl rfl (.inl rfl)) (se_int rfl)) (se_str rfl)) (sbw_or (sb_ne hr.units (se_len (by rfl) T.b_len (sa_cons (se_var (i := 2) rfl rfl (.inl rfl)) (sa_nil rfl))) (se_int rfl)) (sbw_or (sb_not (sb_val (se_callC tk c_is_whole (hr.mono (by omega)) (by rfl) (sa_cons (se_sub_ (se_var (i := 2) rfl rfl (.inl rfl)) (se_int rfl)) (sa_nil rfl))))) (sbw_or1 (sb_not (sb_val (se_isi (by rfl) T.b_isinstance (sa_cons (se_sub_ (se_var (i := 2) rfl rfl (.inl rfl)) (se_int rfl)) (sa_cons (se_ty (n := "tuple") rfl (by rfl) T.b_tuple bt_tuple) (sa_nil rfl))))))))))) (sp_one (sp_ret (se_bl rfl))) (sp_nil rfl))
    (sp_cons (sp_if (sb_not (sb_chain co_le co_lt (se_int rfl) (se_sub_ (se_var (i := 2) rfl rfl (.inl rfl)) (se_int rfl)) (se_callC tk c_things_of (hr.mono (by omega)) (by rfl) (sa_cons (se_var (i := 0) rfl rfl (.inr (.inl rfl))) (sa_nil rfl))))) (sp_one (sp_ret (se_bl rfl))) (sp_nil rfl))
    (sp_cons (sp_set (i := 3) (se_callC tk c_parted_at (hr.mono (by omega)) (by rfl) (sa_cons (se_var (i := 0) rfl rfl (.inr (.inl rfl))) (sa_cons (se_var (i := 1) rfl rfl (.inl rfl)) (sa_cons (se_sub_ (se_var (i := 2) rfl rfl (.inl rfl)) (se_int rfl)) (sa_nil rfl))))) nd rfl (.inl rfl))
    (sp_cons (sp_if (sb_w (sbw_or (sb_lt (se_len (by rfl) T.b_len (sa_cons (se_var (i := 3) rfl rfl (.inl rfl)) (sa_nil rfl))) (se_int rfl)) (sbw_or1 (sb_ne hr.units (se_len (by rfl) T.b_len (sa_cons (se_sub_ (se_var (i := 2) rfl rfl (.inl rfl)) (se_int rfl)) (sa_nil rfl))) (se_len (by rfl) T.b_len (sa_cons (se_var (i := 3) rfl rfl (.inl rfl)) (sa_nil rfl))))))) (sp_one (sp_ret (se_bl rfl))) (sp_nil rfl))
    (sp_one (sp_ret (se_all rfl (by rfl) T.b_all (sa_cons (se_lc (own := [("part", 4), ("way", 5)]) (ix := [4, 5]) (g := (gTup K 2 (gCons (gName 4) (gCons (gName 5) gNil)))) rfl nd (si_zipM (sq_c (se_var (i := 3) rfl rfl (.inl rfl))) (sq_c (se_sub_ (se_var (i := 2) rfl rfl (.inl rfl)) (se_int rfl))) (by rfl) T.b_zip) (blkOk_by (own := [("part", 4), ("way", 5)]) (by kernel_rfl)) (by decide) (fun _ _ _ _ _ => (pg_tup rfl (pgs_cons (pg_name (i := 4) nd rfl (.inl rfl)) (pgs_cons (pg_name (i := 5) nd rfl (.inl rfl)) pgs_nil)))) (og_tup rfl (ogs_cons og_name (ogs_cons og_name ogs_nil))) (fun _ _ _ _ _ => (sts_nil rfl)) (fun _ _ _ _ _ => (se_callC takes0 c_is_way hr (by rfl) (sa_cons (se_var (i := 0) rfl rfl (.inr (.inl rfl))) (sa_cons (se_sub_ (se_var (i := 4) rfl rfl (.inl rfl)) (se_int rfl)) (sa_cons (se_sub_ (se_var (i := 4) rfl rfl (.inl rfl)) (se_int rfl)) (sa_cons (se_var (i := 5) rfl rfl (.inl rfl)) (sa_nil rfl)))))))) (sa_nil rfl))))))))))))
abbrev s_is_asks : Stmt := topS 9
theorem sc_is_asks : FnScope ["book", "thing"] ["book", "thing"] (defScope s_is_asks) := ⟨rfl, rfl, rfl, by decide +kernel, rfl, by decide +kernel, by decide +kernel⟩
theorem ok_is_asks {f : Addr} {fd : FuncData} (T : Txt K mg cl fns) (F : Fun K "is_asks" "is_asks" s_is_asks f fd) (hm : mg "is_asks" = some (.ref f)) (hb : Binds K fd ["book", "thing"] []) (c_is_plan : Cal (gT K cl fns) P w K mg base 27 "is_plan" 3 (m_is_plan 12)) : Cal (gT K cl fns) P w K mg base 28 "is_asks" 2 (m_is_asks) :=
  cal_mk F hm hb (fn_ok F sc_is_asks fun cdv A outer s H E hr tk hp =>
    have nd := sc_is_asks.nd
    (sp_one (sp_ret (se_callC tk c_is_plan (hr.mono (by omega)) (by rfl) (sa_cons (se_var (i := 0) rfl rfl (.inl rfl)) (sa_cons (se_tupRg1 rfl (by rfl) T.b_tuple (by rfl) T.b_range (sa_cons (se_len (by rfl) T.b_len (sa_cons (se_sub_ (se_var (i := 0) rfl rfl (.inl rfl)) (se_int rfl)) (sa_nil rfl))) (sa_nil rfl))) (sa_cons (se_var (i := 1) rfl rfl (.inl rfl)) (sa_nil rfl))))))))
abbrev s_asks_of : Stmt := topS 10
theorem sc_asks_of : FnScope ["book", "plan", "box", "one"] ["book", "plan"] (defScope s_asks_of) := ⟨rfl, rfl, rfl, by decide +kernel, rfl, by decide +kernel, by decide +kernel⟩
theorem ok_asks_of {f : Addr} {fd : FuncData} (T : Txt K mg cl fns) (F : Fun K "asks_of" "asks_of" s_asks_of f fd) (hm : mg "asks_of" = some (.ref f)) (hb : Binds K fd ["book", "plan"] [])  : ∀ n, Cal (gT K cl fns) P w K mg base (1 + n) "asks_of" 2 (m_asks_of n)
  | 0 => cal_zero F hm hb sc_asks_of
  | n + 1 => cal_mk F hm hb (show FnOk P w K mg base (L2.CX P w) (1 + n + 1) f fd ["book", "plan"] (spM (gT K cl fns) 2 (m_asks_of (n + 1))) from fn_ok F sc_asks_of fun cdv A outer s H E hr tk hp =>
    have nd := sc_asks_of.nd
    have ih := ok_asks_of T F hm hb  n
    (sp_cons (sp_if (sb_eq hr.units (se_sub_ (se_var (i := 1) rfl rfl (.inl rfl)) (se_int rfl)) (se_str rfl)) (sp_one (sp_ret (se_int rfl))) (sp_nil rfl))
    (sp_one (sp_ret (se_add (se_int rfl) (se_max rfl (by rfl) T.b_max (sa_cons (se_lc (own := [("box", 2), ("one", 3)]) (ix := [2, 3]) (g := (gTup K 2 (gCons (gName 2) (gCons (gName 3) gNil)))) rfl nd (si_seq (sq_c (se_sub_ (se_var (i := 1) rfl rfl (.inl rfl)) (se_int rfl)))) (blkOk_by (own := [("box", 2), ("one", 3)]) (by kernel_rfl)) (by decide) (fun _ _ _ _ _ => (pg_tup rfl (pgs_cons (pg_name (i := 2) nd rfl (.inl rfl)) (pgs_cons (pg_name (i := 3) nd rfl (.inl rfl)) pgs_nil)))) (og_tup rfl (ogs_cons og_name (ogs_cons og_name ogs_nil))) (fun _ _ _ _ _ => (sts_nil rfl)) (fun _ _ _ _ _ => (se_callC takes0 ih hr (by rfl) (sa_cons (se_var (i := 0) rfl rfl (.inr (.inl rfl))) (sa_cons (se_var (i := 3) rfl rfl (.inl rfl)) (sa_nil rfl)))))) (sa_nil rfl))))))))
abbrev s_l_gprime : Stmt := topS 12
theorem sc_l_gprime : FnScope ["_law_at", "_law_some"] ["_law_at"] (defScope s_l_gprime) := ⟨rfl, rfl, rfl, by decide +kernel, rfl, by decide +kernel, by decide +kernel⟩
theorem ok_l_gprime {f : Addr} {fd : FuncData} (T : Txt K mg cl fns) (F : Fun K "_law_gprime" "_law_gprime" s_l_gprime f fd) (hm : mg "_law_gprime" = some (.ref f)) (hb : Binds K fd ["_law_at"] [])  : Cal (gT K cl fns) P w K mg base 1 "_law_gprime" 1 (m_l_gprime) :=
  cal_mk F hm hb (fn_ok F sc_l_gprime fun cdv A outer s H E hr tk hp =>
    have nd := sc_l_gprime.nd
    (sp_cons (sp_set (i := 1) (se_lst (si_cons (se_int rfl) (si_cons (se_int rfl) (si_cons (se_int rfl) (si_cons (se_int rfl) (si_cons (se_int rfl) (si_cons (se_int rfl) (si_cons (se_int rfl) (si_nil rfl))))))))) nd rfl (.inl rfl))
    (sp_one (sp_ret (se_sub_ (se_add (se_var (i := 1) rfl rfl (.inl rfl)) (se_lst (si_cons (se_int rfl) (si_cons (se_int rfl) (si_nil rfl))))) (se_mod (se_var (i := 0) rfl rfl (.inl rfl)) (se_int rfl)))))))
abbrev s_l_gfresh : Stmt := topS 13
theorem sc_l_gfresh : FnScope ["_law_tape", "_law_at", "_law_cell", "_law_one", "_law_two", "_law_three"] ["_law_tape"] (defScope s_l_gfresh) := ⟨rfl, rfl, rfl, by decide +kernel, rfl, by decide +kernel, by decide +kernel⟩
theorem ok_l_gfresh {f : Addr} {fd : FuncData} (T : Txt K mg cl fns) (F : Fun K "_law_gfresh" "_law_gfresh" s_l_gfresh f fd) (hm : mg "_law_gfresh" = some (.ref f)) (hb : Binds K fd ["_law_tape"] []) (c_l_gprime : Cal (gT K cl fns) P w K mg base 1 "_law_gprime" 1 m_l_gprime) : Cal (gT K cl fns) P w K mg base 2 "_law_gfresh" 1 (m_l_gfresh) :=
  cal_mk F hm hb (fn_ok F sc_l_gfresh fun cdv A outer s H E hr tk hp =>
    have nd := sc_l_gfresh.nd
    (sp_cons (sp_set (i := 1) (se_sub_ (se_var (i := 0) rfl rfl (.inl rfl)) (se_int rfl)) nd rfl (.inl rfl))
    (sp_cons (sp_setix (k := 0) rfl rfl (.inl rfl) (se_int rfl) (se_add (se_var (i := 1) rfl rfl (.inl rfl)) (se_int rfl)))
    (sp_cons (sp_set (i := 2) (se_add (se_mul (se_int rfl) (se_var (i := 1) rfl rfl (.inl rfl))) (se_int rfl)) nd rfl (.inl rfl))
    (sp_cons (sp_if (sb_lt (se_var (i := 1) rfl rfl (.inl rfl)) (se_len (by rfl) T.b_len (sa_cons (se_sub_ (se_var (i := 0) rfl rfl (.inl rfl)) (se_int rfl)) (sa_nil rfl)))) (sp_one (sp_set (i := 2) (se_sub_ (se_sub_ (se_var (i := 0) rfl rfl (.inl rfl)) (se_int rfl)) (se_var (i := 1) rfl rfl (.inl rfl))) nd rfl (.inl rfl))) (sp_one (sp_if (sb_gt (se_len (by rfl) T.b_len (sa_cons (se_sub_ (se_var (i := 0) rfl rfl (.inl rfl)) (se_int rfl)) (sa_nil rfl))) (se_int rfl)) (sp_one (sp_set (i := 2) (se_add (se_mul (se_mod (se_sub_ (se_sub_ (se_var (i := 0) rfl rfl (.inl rfl)) (se_int rfl)) (se_mod (se_var (i := 1) rfl rfl (.inl rfl)) (se_len (by rfl) T.b_len (sa_cons (se_sub_ (se_var (i := 0) rfl rfl (.inl rfl)) (se_int rfl)) (sa_nil rfl))))) (se_int rfl)) (se_add (se_var (i := 1) rfl rfl (.inl rfl)) (se_int rfl))) (se_var (i := 1) rfl rfl (.inl rfl))) nd rfl (.inl rfl))) (sp_nil rfl))))
    (sp_cons (sp_if (sb_w (sbw_and (sb_lt (se_var (i := 1) rfl rfl (.inl rfl)) (se_len (by rfl) T.b_len (sa_cons (se_sub_ (se_var (i := 0) rfl rfl (.inl rfl)) (se_int rfl)) (sa_nil rfl)))) (sbw_and1 (sb_ge (se_var (i := 2) rfl rfl (.inl rfl)) (se_pow (se_int rfl) (se_int rfl)))))) (sp_one (sp_retV (i := 2) rfl rfl (.inl rfl))) (sp_nil rfl))
    (sp_cons (sp_set (i := 3) (se_mod (se_pow (se_add (se_add (se_mul (se_mod (se_var (i := 2) rfl rfl (.inl rfl)) (se_int rfl)) (se_add (se_var (i := 1) rfl rfl (.inl rfl)) (se_int rfl))) (se_mul (se_int rfl) (se_var (i := 1) rfl rfl (.inl rfl)))) (se_int rfl)) (se_int rfl)) (se_callC tk c_l_gprime (hr.mono (by omega)) (by rfl) (sa_cons (se_var (i := 1) rfl rfl (.inl rfl)) (sa_nil rfl)))) nd rfl (.inl rfl))
    (sp_cons (sp_set (i := 4) (se_mod (se_pow (se_add (se_add (se_mul (se_var (i := 3) rfl rfl (.inl rfl)) (se_add (se_var (i := 1) rfl rfl (.inl rfl)) (se_int rfl))) (se_mod (se_var (i := 2) rfl rfl (.inl rfl)) (se_int rfl))) (se_int rfl)) (se_int rfl)) (se_callC tk c_l_gprime (hr.mono (by omega)) (by rfl) (sa_cons (se_add (se_var (i := 1) rfl rfl (.inl rfl)) (se_int rfl)) (sa_nil rfl)))) nd rfl (.inl rfl))
    (sp_cons (sp_set (i := 5) (se_mod (se_add (se_mul (se_var (i := 4) rfl rfl (.inl rfl)) (se_var (i := 4) rfl rfl (.inl rfl))) (se_var (i := 3) rfl rfl (.inl rfl))) (se_callC tk c_l_gprime (hr.mono (by omega)) (by rfl) (sa_cons (se_add (se_var (i := 1) rfl rfl (.inl rfl)) (se_int rfl)) (sa_nil rfl)))) nd rfl (.inl rfl))
    (sp_one (sp_ret (se_add (se_mul (se_add (se_mul (se_var (i := 5) rfl rfl (.inl rfl)) (se_int rfl)) (se_var (i := 4) rfl rfl (.inl rfl))) (se_int rfl)) (se_var (i := 3) rfl rfl (.inl rfl))))))))))))))
abbrev s_l_gdraw : Stmt := topS 14
theorem sc_l_gdraw : FnScope ["_law_tape", "_law_many", "_law_drawn"] ["_law_tape", "_law_many"] (defScope s_l_gdraw) := ⟨rfl, rfl, rfl, by decide +kernel, rfl, by decide +kernel, by decide +kernel⟩
theorem ok_l_gdraw {f : Addr} {fd : FuncData} (T : Txt K mg cl fns) (F : Fun K "_law_gdraw" "_law_gdraw" s_l_gdraw f fd) (hm : mg "_law_gdraw" = some (.ref f)) (hb : Binds K fd ["_law_tape", "_law_many"] []) (c_l_gfresh : Cal (gT K cl fns) P w K mg base 2 "_law_gfresh" 1 m_l_gfresh) : Cal (gT K cl fns) P w K mg base 3 "_law_gdraw" 2 (m_l_gdraw) :=
  cal_mk F hm hb (fn_ok F sc_l_gdraw fun cdv A outer s H E hr tk hp =>
    have nd := sc_l_gdraw.nd
    (sp_cons (sp_if (sb_lt (se_sub_ (se_var (i := 0) rfl rfl (.inl rfl)) (se_int rfl)) (se_var (i := 1) rfl rfl (.inl rfl))) (sp_one (sp_setix (k := 0) rfl rfl (.inl rfl) (se_int rfl) (se_callC tk c_l_gfresh (hr.mono (by omega)) (by rfl) (sa_cons (se_var (i := 0) rfl rfl (.inl rfl)) (sa_nil rfl))))) (sp_nil rfl))
    (sp_cons (sp_set (i := 2) (se_mod (se_sub_ (se_var (i := 0) rfl rfl (.inl rfl)) (se_int rfl)) (se_var (i := 1) rfl rfl (.inl rfl))) nd rfl (.inl rfl))
    (sp_cons (sp_setix (k := 0) rfl rfl (.inl rfl) (se_int rfl) (se_fdiv (se_sub_ (se_var (i := 0) rfl rfl (.inl rfl)) (se_int rfl)) (se_var (i := 1) rfl rfl (.inl rfl))))
    (sp_one (sp_retV (i := 2) rfl rfl (.inl rfl)))))))
abbrev s_l_gbook : Stmt := topS 15
theorem sc_l_gbook : FnScope ["_law_tape", "_law_boxes", "_law_things", "_law_rows", "_law_m", "_law_u", "_law_way", "_law_found", "_law_k", "_law_a", "_law_b", "_law_row", "_law_x"] ["_law_tape", "_law_boxes", "_law_things", "_law_rows"] (defScope s_l_gbook) := ⟨rfl, rfl, rfl, by decide +kernel, rfl, by decide +kernel, by decide +kernel⟩
theorem ok_l_gbook {f : Addr} {fd : FuncData} (T : Txt K mg cl fns) (F : Fun K "_law_gbook" "_law_gbook" s_l_gbook f fd) (hm : mg "_law_gbook" = some (.ref f)) (hb : Binds K fd ["_law_tape", "_law_boxes", "_law_things", "_law_rows"] []) (c_l_gdraw : Cal (gT K cl fns) P w K mg base 3 "_law_gdraw" 2 m_l_gdraw) : Cal (gT K cl fns) P w K mg base 4 "_law_gbook" 4 (m_l_gbook) :=
  cal_mk F hm hb (fn_ok F sc_l_gbook fun cdv A outer s H E hr tk hp =>
    have nd := sc_l_gbook.nd
    (sp_cons (sp_asg (se_tup (si_cons (se_add (se_int rfl) (se_callC tk c_l_gdraw (hr.mono (by omega)) (by rfl) (sa_cons (se_var (i := 0) rfl rfl (.inr (.inl rfl))) (sa_cons (se_var (i := 1) rfl rfl (.inl rfl)) (sa_nil rfl))))) (si_cons (se_add (se_int rfl) (se_callC tk c_l_gdraw (hr.mono (by omega)) (by rfl) (sa_cons (se_var (i := 0) rfl rfl (.inr (.inl rfl))) (sa_cons (se_var (i := 2) rfl rfl (.inl rfl)) (sa_nil rfl))))) (si_nil rfl)))) (pg_tup rfl (pgs_cons (pg_name (i := 4) nd rfl (.inr rfl)) (pgs_cons (pg_name (i := 5) nd rfl (.inl rfl)) pgs_nil))) (og_tup rfl (ogs_cons og_name (ogs_cons og_name ogs_nil))))
    (sp_cons (sp_set (i := 6) (se_callC tk c_l_gdraw (hr.mono (by omega)) (by rfl) (sa_cons (se_var (i := 0) rfl rfl (.inr (.inl rfl))) (sa_cons (se_int rfl) (sa_nil rfl)))) nd rfl (.inr rfl))
    (sp_cons (sp_set (i := 7) (se_lst (si_nil rfl)) nd rfl (.inl rfl))
    (sp_cons (sp_for hp rfl (si_rng1 (sa_cons (se_add (se_int rfl) (se_callC tk c_l_gdraw (hr.mono (by omega)) (by rfl) (sa_cons (se_var (i := 0) rfl rfl (.inr (.inl rfl))) (sa_cons (se_var (i := 3) rfl rfl (.inl rfl)) (sa_nil rfl))))) (sa_nil rfl)) (by rfl) T.b_range) (sg_of (pg_name (i := 8) nd rfl (.inl rfl)) og_name) (sp_cons (sp_asg (se_tup (si_cons (se_add (se_int rfl) (se_callC tk c_l_gdraw (hr.mono (by omega)) (by rfl) (sa_cons (se_var (i := 0) rfl rfl (.inr (.inl rfl))) (sa_cons (se_int rfl) (sa_nil rfl))))) (si_cons (se_callC tk c_l_gdraw (hr.mono (by omega)) (by rfl) (sa_cons (se_var (i := 0) rfl rfl (.inr (.inl rfl))) (sa_cons (se_int rfl) (sa_nil rfl)))) (si_nil rfl)))) (pg_tup rfl (pgs_cons (pg_name (i := 9) nd rfl (.inr rfl)) (pgs_cons (pg_name (i := 10) nd rfl (.inr rfl)) pgs_nil))) (og_tup rfl (ogs_cons og_name (ogs_cons og_name ogs_nil))))
    (sp_cons (sp_setLc (i := 11) (own := [("_law_x", 12)]) (ix := [12]) (g := (gName 12)) rfl nd rfl rfl (sw_true rfl rfl rfl (by decide +kernel)) (sc_rng1 (sa_cons (se_var (i := 5) rfl rfl (.inl rfl)) (sa_nil rfl)) (by rfl) T.b_range) (blkOk_by (own := [("_law_x", 12)]) (by kernel_rfl)) (by decide) (fun _ _ _ _ _ => (pg_name (i := 12) nd rfl (.inl rfl))) og_name (fun _ _ _ _ _ => (sts_nil rfl)) (fun _ _ _ _ _ => (se_callC takes0 c_l_gdraw (hr.mono (by omega)) (by rfl) (sa_cons (se_var (i := 0) rfl rfl (.inr (.inl rfl))) (sa_cons (se_sub_ (se_lst (si_cons (se_var (i := 4) rfl rfl (.inr (.inl rfl))) (si_cons (se_min rfl (by rfl) T.b_min (sa_cons (se_var (i := 4) rfl rfl (.inr (.inl rfl))) (sa_cons (se_int rfl) (sa_nil rfl)))) (si_cons (se_var (i := 4) rfl rfl (.inr (.inl rfl))) (si_nil rfl))))) (se_mod (se_var (i := 6) rfl rfl (.inr (.inl rfl))) (se_int rfl))) (sa_nil rfl))))))
    (sp_cons (sp_if (sb_eq hr.units (se_var (i := 6) rfl rfl (.inr (.inl rfl))) (se_int rfl)) (sp_one (sp_setLc (i := 11) (own := [("_law_x", 12)]) (ix := [12]) (g := (gName 12)) rfl nd rfl rfl (sw_true rfl rfl rfl (by decide +kernel)) (sc_rng1 (sa_cons (se_var (i := 5) rfl rfl (.inl rfl)) (sa_nil rfl)) (by rfl) T.b_range) (blkOk_by (own := [("_law_x", 12)]) (by kernel_rfl)) (by decide) (fun _ _ _ _ _ => (pg_name (i := 12) nd rfl (.inl rfl))) og_name (fun _ _ _ _ _ => (sts_nil rfl)) (fun _ _ _ _ _ => (se_mod (se_mod (se_add (se_mul (se_var (i := 9) rfl rfl (.inr (.inl rfl))) (se_var (i := 12) rfl rfl (.inl rfl))) (se_var (i := 10) rfl rfl (.inr (.inl rfl)))) (se_int rfl)) (se_var (i := 4) rfl rfl (.inr (.inl rfl))))))) (sp_nil rfl))
    (sp_cons (sp_if (sb_w (sbw_and (sb_eq hr.units (se_var (i := 6) rfl rfl (.inr (.inl rfl))) (se_int rfl)) (sbw_and (sb_gt (se_var (i := 8) rfl rfl (.inl rfl)) (se_int rfl)) (sbw_and1 (sb_lt (se_var (i := 9) rfl rfl (.inr (.inl rfl))) (se_int rfl)))))) (sp_one (sp_set (i := 11) (se_list (by rfl) T.b_list (sa_cons (se_sub_ (se_var (i := 7) rfl rfl (.inl rfl)) (se_mod (se_var (i := 10) rfl rfl (.inr (.inl rfl))) (se_var (i := 8) rfl rfl (.inl rfl)))) (sa_nil rfl))) nd rfl (.inl rfl))) (sp_nil rfl))
    (sp_one (sp_app (k := 7) rfl rfl (.inl rfl) (se_tuple (by rfl) T.b_tuple (sa_cons (se_var (i := 11) rfl rfl (.inl rfl)) (sa_nil rfl))))))))))
    (sp_one (sp_ret (se_tup (si_cons (se_var (i := 4) rfl rfl (.inr (.inl rfl))) (si_cons (se_tuple (by rfl) T.b_tuple (sa_cons (se_var (i := 7) rfl rfl (.inl rfl)) (sa_nil rfl))) (si_nil rfl)))))))))))
abbrev s_l_gsame : Stmt := topS 16
theorem sc_l_gsame : FnScope ["_law_found", "_law_due", "_law_one", "_law_other"] ["_law_found", "_law_due"] (defScope s_l_gsame) := ⟨rfl, rfl, rfl, by decide +kernel, rfl, by decide +kernel, by decide +kernel⟩
theorem ok_l_gsame {f : Addr} {fd : FuncData} (T : Txt K mg cl fns) (F : Fun K "_law_gsame" "_law_gsame" s_l_gsame f fd) (hm : mg "_law_gsame" = some (.ref f)) (hb : Binds K fd ["_law_found", "_law_due"] [])  : ∀ n, Cal (gT K cl fns) P w K mg base (1 + n) "_law_gsame" 2 (m_l_gsame n)
  | 0 => cal_zero F hm hb sc_l_gsame
  | n + 1 => cal_mk F hm hb (show FnOk P w K mg base (L2.CX P w) (1 + n + 1) f fd ["_law_found", "_law_due"] (spM (gT K cl fns) 2 (m_l_gsame (n + 1))) from fn_ok F sc_l_gsame fun cdv A outer s H E hr tk hp =>
    have nd := sc_l_gsame.nd
    have ih := ok_l_gsame T F hm hb  n
    (sp_cons (sp_if (sb_is (se_var (i := 1) rfl rfl (.inl rfl)) (se_non rfl)) (sp_one (sp_ret (se_is (se_var (i := 0) rfl rfl (.inl rfl)) (se_non rfl)))) (sp_nil rfl))
    (sp_cons (sp_if (sb_w (sbw_or (sb_val (se_isi (by rfl) T.b_isinstance (sa_cons (se_var (i := 1) rfl rfl (.inl rfl)) (sa_cons (se_ty (n := "bool") rfl (by rfl) T.b_bool bt_bool) (sa_nil rfl))))) (sbw_or1 (sb_val (se_isi (by rfl) T.b_isinstance (sa_cons (se_var (i := 0) rfl rfl (.inl rfl)) (sa_cons (se_ty (n := "bool") rfl (by rfl) T.b_bool bt_bool) (sa_nil rfl)))))))) (sp_one (sp_ret (se_and (se_isi (by rfl) T.b_isinstance (sa_cons (se_var (i := 1) rfl rfl (.inl rfl)) (sa_cons (se_ty (n := "bool") rfl (by rfl) T.b_bool bt_bool) (sa_nil rfl)))) (se_and (se_isi (by rfl) T.b_isinstance (sa_cons (se_var (i := 0) rfl rfl (.inl rfl)) (sa_cons (se_ty (n := "bool") rfl (by rfl) T.b_bool bt_bool) (sa_nil rfl)))) (se_one (se_eq hr.units (se_var (i := 0) rfl rfl (.inl rfl)) (se_var (i := 1) rfl rfl (.inl rfl)))))))) (sp_nil rfl))
    (sp_cons (sp_if (sb_val (se_isi (by rfl) T.b_isinstance (sa_cons (se_var (i := 1) rfl rfl (.inl rfl)) (sa_cons (se_ty (n := "int") rfl (by rfl) T.b_int bt_int) (sa_nil rfl))))) (sp_one (sp_ret (se_and (se_isi (by rfl) T.b_isinstance (sa_cons (se_var (i := 0) rfl rfl (.inl rfl)) (sa_cons (se_ty (n := "int") rfl (by rfl) T.b_int bt_int) (sa_nil rfl)))) (se_one (se_eq hr.units (se_var (i := 0) rfl rfl (.inl rfl)) (se_var (i := 1) rfl rfl (.inl rfl))))))) (sp_nil rfl))
    (sp_cons (sp_if (sb_val (se_isi (by rfl) T.b_isinstance (sa_cons (se_var (i := 1) rfl rfl (.inl rfl)) (sa_cons (se_ty (n := "str") rfl (by rfl) T.b_str bt_str) (sa_nil rfl))))) (sp_one (sp_ret (se_and (se_isi (by rfl) T.b_isinstance (sa_cons (se_var (i := 0) rfl rfl (.inl rfl)) (sa_cons (se_ty (n := "str") rfl (by rfl) T.b_str bt_str) (sa_nil rfl)))) (se_one (se_eq hr.units (se_var (i := 0) rfl rfl (.inl rfl)) (se_var (i := 1) rfl rfl (.inl rfl))))))) (sp_nil rfl))
    (sp_cons (sp_if (sb_w (sbw_or (sb_ne hr.units (se_isi (by rfl) T.b_isinstance (sa_cons (se_var (i := 1) rfl rfl (.inl rfl)) (sa_cons (se_ty (n := "tuple") rfl (by rfl) T.b_tuple bt_tuple) (sa_nil rfl)))) (se_isi (by rfl) T.b_isinstance (sa_cons (se_var (i := 0) rfl rfl (.inl rfl)) (sa_cons (se_ty (n := "tuple") rfl (by rfl) T.b_tuple bt_tuple) (sa_nil rfl))))) (sbw_or1 (sb_ne hr.units (se_isi (by rfl) T.b_isinstance (sa_cons (se_var (i := 1) rfl rfl (.inl rfl)) (sa_cons (se_ty (n := "list") rfl (by rfl) T.b_list bt_list) (sa_nil rfl)))) (se_isi (by rfl) T.b_isinstance (sa_cons (se_var (i := 0) rfl rfl (.inl rfl)) (sa_cons (se_ty (n := "list") rfl (by rfl) T.b_list bt_list) (sa_nil rfl)))))))) (sp_one (sp_ret (se_bl rfl))) (sp_nil rfl))
    (sp_one (sp_ret (se_and (se_eq hr.units (se_len (by rfl) T.b_len (sa_cons (se_var (i := 0) rfl rfl (.inl rfl)) (sa_nil rfl))) (se_len (by rfl) T.b_len (sa_cons (se_var (i := 1) rfl rfl (.inl rfl)) (sa_nil rfl)))) (se_one (se_all rfl (by rfl) T.b_all (sa_cons (se_lc (own := [("_law_one", 2), ("_law_other", 3)]) (ix := [2, 3]) (g := (gTup K 2 (gCons (gName 2) (gCons (gName 3) gNil)))) rfl nd (si_zip (sq_c (se_var (i := 0) rfl rfl (.inl rfl))) (sq_c (se_var (i := 1) rfl rfl (.inl rfl))) (by rfl) T.b_zip) (blkOk_by (own := [("_law_one", 2), ("_law_other", 3)]) (by kernel_rfl)) (by decide) (fun _ _ _ _ _ => (pg_tup rfl (pgs_cons (pg_name (i := 2) nd rfl (.inl rfl)) (pgs_cons (pg_name (i := 3) nd rfl (.inl rfl)) pgs_nil)))) (og_tup rfl (ogs_cons og_name (ogs_cons og_name ogs_nil))) (fun _ _ _ _ _ => (sts_nil rfl)) (fun _ _ _ _ _ => (se_callC takes0 ih hr (by rfl) (sa_cons (se_var (i := 2) rfl rfl (.inl rfl)) (sa_cons (se_var (i := 3) rfl rfl (.inl rfl)) (sa_nil rfl)))))) (sa_nil rfl)))))))))))))
abbrev s_l_galike : Stmt := topS 17
theorem sc_l_galike : FnScope ["_law_book", "_law_some", "_law_k"] ["_law_book", "_law_some"] (defScope s_l_galike) := ⟨rfl, rfl, rfl, by decide +kernel, rfl, by decide +kernel, by decide +kernel⟩
theorem ok_l_galike {f : Addr} {fd : FuncData} (T : Txt K mg cl fns) (F : Fun K "_law_galike" "_law_galike" s_l_galike f fd) (hm : mg "_law_galike" = some (.ref f)) (hb : Binds K fd ["_law_book", "_law_some"] [])  : Cal (gT K cl fns) P w K mg base 1 "_law_galike" 2 (m_l_galike) :=
  cal_mk F hm hb (fn_ok F sc_l_galike fun cdv A outer s H E hr tk hp =>
    have nd := sc_l_galike.nd
    (sp_one (sp_ret (se_eq hr.units (se_lc (own := [("_law_k", 2)]) (ix := [2]) (g := (gName 2)) rfl nd (si_seq (sq_c (se_var (i := 1) rfl rfl (.inr (.inl rfl))))) (blkOk_by (own := [("_law_k", 2)]) (by kernel_rfl)) (by decide) (fun _ _ _ _ _ => (pg_name (i := 2) nd rfl (.inl rfl))) og_name (fun _ _ _ _ _ => (sts_one (sb_ne hr.units (se_sub_ (se_sub_ (se_var (i := 0) rfl rfl (.inr (.inl rfl))) (se_int rfl)) (se_var (i := 2) rfl rfl (.inl rfl))) (se_sub_ (se_sub_ (se_var (i := 0) rfl rfl (.inr (.inl rfl))) (se_int rfl)) (se_sub_ (se_var (i := 1) rfl rfl (.inr (.inl rfl))) (se_int rfl)))))) (fun _ _ _ _ _ => (se_var (i := 2) rfl rfl (.inl rfl)))) (se_lst (si_nil rfl))))))
abbrev s_l_gparted : Stmt := topS 18
theorem sc_l_gparted : FnScope ["_law_book", "_law_some", "_law_x", "_law_found", "_law_box", "_law_k"] ["_law_book", "_law_some", "_law_x"] (defScope s_l_gparted) := ⟨rfl, rfl, rfl, by decide +kernel, rfl, by decide +kernel, by decide +kernel⟩
theorem ok_l_gparted {f : Addr} {fd : FuncData} (T : Txt K mg cl fns) (F : Fun K "_law_gparted" "_law_gparted" s_l_gparted f fd) (hm : mg "_law_gparted" = some (.ref f)) (hb : Binds K fd ["_law_book", "_law_some", "_law_x"] [])  : Cal (gT K cl fns) P w K mg base 1 "_law_gparted" 3 (m_l_gparted) :=
  cal_mk F hm hb (fn_ok F sc_l_gparted fun cdv A outer s H E hr tk hp =>
    have nd := sc_l_gparted.nd
    (sp_cons (sp_set (i := 3) (se_lst (si_nil rfl)) nd rfl (.inl rfl))
    (sp_cons (sp_for hp rfl (si_seq (sq_e (se_sortedSet rfl (by rfl) T.b_sorted (by rfl) T.b_set (se_lc (own := [("_law_k", 5)]) (ix := [5]) (g := (gName 5)) rfl nd (si_seq (sq_c (se_var (i := 1) rfl rfl (.inl rfl)))) (blkOk_by (own := [("_law_k", 5)]) (by kernel_rfl)) (by decide) (fun _ _ _ _ _ => (pg_name (i := 5) nd rfl (.inl rfl))) og_name (fun _ _ _ _ _ => (sts_nil rfl)) (fun _ _ _ _ _ => (se_sub_ (se_sub_ (se_sub_ (se_var (i := 0) rfl rfl (.inr (.inl rfl))) (se_int rfl)) (se_var (i := 5) rfl rfl (.inl rfl))) (se_var (i := 2) rfl rfl (.inr (.inl rfl))))))))) (sg_of (pg_name (i := 4) nd rfl (.inr rfl)) og_name) (sp_one (sp_app (k := 3) rfl rfl (.inl rfl) (se_tup (si_cons (se_var (i := 4) rfl rfl (.inr (.inl rfl))) (si_cons (se_tuple (by rfl) T.b_tuple (sa_cons (se_lc (own := [("_law_k", 5)]) (ix := [5]) (g := (gName 5)) rfl nd (si_seq (sq_c (se_var (i := 1) rfl rfl (.inl rfl)))) (blkOk_by (own := [("_law_k", 5)]) (by kernel_rfl)) (by decide) (fun _ _ _ _ _ => (pg_name (i := 5) nd rfl (.inl rfl))) og_name (fun _ _ _ _ _ => (sts_one (sb_eq hr.units (se_sub_ (se_sub_ (se_sub_ (se_var (i := 0) rfl rfl (.inr (.inl rfl))) (se_int rfl)) (se_var (i := 5) rfl rfl (.inl rfl))) (se_var (i := 2) rfl rfl (.inr (.inl rfl)))) (se_var (i := 4) rfl rfl (.inr (.inl rfl)))))) (fun _ _ _ _ _ => (se_var (i := 5) rfl rfl (.inl rfl)))) (sa_nil rfl))) (si_nil rfl)))))))
    (sp_one (sp_retV (i := 3) rfl rfl (.inl rfl))))))
abbrev s_l_gis_plan : Stmt := topS 19
theorem sc_l_gis_plan : FnScope ["_law_book", "_law_some", "_law_thing", "_law_parts", "_law_box", "_law_there", "_law_way"] ["_law_book", "_law_some", "_law_thing"] (defScope s_l_gis_plan) := ⟨rfl, rfl, rfl, by decide +kernel, rfl, by decide +kernel, by decide +kernel⟩
theorem ok_l_gis_plan {f : Addr} {fd : FuncData} (T : Txt K mg cl fns) (F : Fun K "_law_gis_plan" "_law_gis_plan" s_l_gis_plan f fd) (hm : mg "_law_gis_plan" = some (.ref f)) (hb : Binds K fd ["_law_book", "_law_some", "_law_thing"] []) (c_l_gsame : Cal (gT K cl fns) P w K mg base 13 "_law_gsame" 2 (m_l_gsame 12)) (c_l_galike : Cal (gT K cl fns) P w K mg base 1 "_law_galike" 2 m_l_galike) (c_l_gparted : Cal (gT K cl fns) P w K mg base 1 "_law_gparted" 3 m_l_gparted) : ∀ n, Cal (gT K cl fns) P w K mg base (14 + n) "_law_gis_plan" 3 (m_l_gis_plan n)
  | 0 => cal_zero F hm hb sc_l_gis_plan
  | n + 1 => cal_mk F hm hb (show FnOk P w K mg base (L2.CX P w) (14 + n + 1) f fd ["_law_book", "_law_some", "_law_thing"] (spM (gT K cl fns) 3 (m_l_gis_plan (n + 1))) from fn_ok F sc_l_gis_plan fun cdv A outer s H E hr tk hp =>
    have nd := sc_l_gis_plan.nd
    have ih := ok_l_gis_plan T F hm hb c_l_gsame c_l_galike c_l_gparted n
    (sp_cons (sp_if (sb_w (sbw_or (sb_not (sb_val (se_isi (by rfl) T.b_isinstance (sa_cons (se_var (i := 2) rfl rfl (.inl rfl)) (sa_cons (se_ty (n := "tuple") rfl (by rfl) T.b_tuple bt_tuple) (sa_nil rfl)))))) (sbw_or1 (sb_notin hr (se_len (by rfl) T.b_len (sa_cons (se_var (i := 2) rfl rfl (.inl rfl)) (sa_nil rfl))) (se_tup (si_cons (se_int rfl) (si_cons (se_int rfl) (si_nil rfl)))))))) (sp_one (sp_ret (se_bl rfl))) (sp_nil rfl))
    (sp_cons (sp_if (sb_val (se_callC tk c_l_gsame (hr.mono (by omega)) (by rfl) (sa_cons (se_sub_ (se_var (i := 2) rfl rfl (.inl rfl)) (se_int rfl)) (sa_cons (se_str rfl) (sa_nil rfl))))) (sp_one (sp_ret (se_and (se_eq hr.units (se_len (by rfl) T.b_len (sa_cons (se_var (i := 2) rfl rfl (.inl rfl)) (sa_nil rfl))) (se_int rfl)) (se_and (se_callC tk c_l_gsame (hr.mono (by omega)) (by rfl) (sa_cons (se_sub_ (se_var (i := 2) rfl rfl (.inl rfl)) (se_int rfl)) (sa_cons (se_var (i := 1) rfl rfl (.inl rfl)) (sa_nil rfl)))) (se_one (se_callC tk c_l_galike (hr.mono (by omega)) (by rfl) (sa_cons (se_var (i := 0) rfl rfl (.inl rfl)) (sa_cons (se_var (i := 1) rfl rfl (.inl rfl)) (sa_nil rfl))))))))) (sp_nil rfl))
    (sp_cons (sp_if (sb_w (sbw_or (sb_not (sb_val (se_callC tk c_l_gsame (hr.mono (by omega)) (by rfl) (sa_cons (se_sub_ (se_var (i := 2) rfl rfl (.inl rfl)) (se_int rfl)) (sa_cons (se_str rfl) (sa_nil rfl)))))) (sbw_or (sb_ne hr.units (se_len (by rfl) T.b_len (sa_cons (se_var (i := 2) rfl rfl (.inl rfl)) (sa_nil rfl))) (se_int rfl)) (sbw_or1 (sb_not (sb_val (se_isi (by rfl) T.b_isinstance (sa_cons (se_sub_ (se_var (i := 2) rfl rfl (.inl rfl)) (se_int rfl)) (sa_cons (se_ty (n := "tuple") rfl (by rfl) T.b_tuple bt_tuple) (sa_nil rfl)))))))))) (sp_one (sp_ret (se_bl rfl))) (sp_nil rfl))
    (sp_cons (sp_if (sb_w (sbw_or (sb_not (sb_val (se_isi (by rfl) T.b_isinstance (sa_cons (se_sub_ (se_var (i := 2) rfl rfl (.inl rfl)) (se_int rfl)) (sa_cons (se_ty (n := "int") rfl (by rfl) T.b_int bt_int) (sa_nil rfl)))))) (sbw_or (sb_val (se_isi (by rfl) T.b_isinstance (sa_cons (se_sub_ (se_var (i := 2) rfl rfl (.inl rfl)) (se_int rfl)) (sa_cons (se_ty (n := "bool") rfl (by rfl) T.b_bool bt_bool) (sa_nil rfl))))) (sbw_or1 (sb_not (sb_chain co_le co_lt (se_int rfl) (se_sub_ (se_var (i := 2) rfl rfl (.inl rfl)) (se_int rfl)) (se_len (by rfl) T.b_len (sa_cons (se_sub_ (se_sub_ (se_var (i := 0) rfl rfl (.inl rfl)) (se_int rfl)) (se_int rfl)) (sa_nil rfl))))))))) (sp_one (sp_ret (se_bl rfl))) (sp_nil rfl))
    (sp_cons (sp_set (i := 3) (se_callC tk c_l_gparted (hr.mono (by omega)) (by rfl) (sa_cons (se_var (i := 0) rfl rfl (.inl rfl)) (sa_cons (se_var (i := 1) rfl rfl (.inl rfl)) (sa_cons (se_sub_ (se_var (i := 2) rfl rfl (.inl rfl)) (se_int rfl)) (sa_nil rfl))))) nd rfl (.inl rfl))
    (sp_cons (sp_if (sb_w (sbw_or (sb_lt (se_len (by rfl) T.b_len (sa_cons (se_var (i := 3) rfl rfl (.inl rfl)) (sa_nil rfl))) (se_int rfl)) (sbw_or1 (sb_ne hr.units (se_len (by rfl) T.b_len (sa_cons (se_var (i := 3) rfl rfl (.inl rfl)) (sa_nil rfl))) (se_len (by rfl) T.b_len (sa_cons (se_sub_ (se_var (i := 2) rfl rfl (.inl rfl)) (se_int rfl)) (sa_nil rfl))))))) (sp_one (sp_ret (se_bl rfl))) (sp_nil rfl))
    (sp_cons (sp_frz 3 (sp_for hp rfl (si_zipM (sq_var (i := 3) rfl rfl (.inl rfl)) (sq_e (se_sub_ (se_var (i := 2) rfl rfl (.inl rfl)) (se_int rfl))) (by rfl) T.b_zip) (sg_of (pg_tup rfl (pgs_cons (pg_tup rfl (pgs_cons (pg_name (i := 4) nd rfl (.inl rfl)) (pgs_cons (pg_name (i := 5) nd rfl (.inl rfl)) pgs_nil))) (pgs_cons (pg_name (i := 6) nd rfl (.inl rfl)) pgs_nil))) (og_tup rfl (ogs_cons (og_tup rfl (ogs_cons og_name (ogs_cons og_name ogs_nil))) (ogs_cons og_name ogs_nil)))) (sp_cons (sp_if (sb_w (sbw_or (sb_not (sb_val (se_isi (by rfl) T.b_isinstance (sa_cons (se_var (i := 6) rfl rfl (.inl rfl)) (sa_cons (se_ty (n := "tuple") rfl (by rfl) T.b_tuple bt_tuple) (sa_nil rfl)))))) (sbw_or (sb_ne hr.units (se_len (by rfl) T.b_len (sa_cons (se_var (i := 6) rfl rfl (.inl rfl)) (sa_nil rfl))) (se_int rfl)) (sbw_or1 (sb_not (sb_val (se_callC tk c_l_gsame (hr.mono (by omega)) (by rfl) (sa_cons (se_sub_ (se_var (i := 6) rfl rfl (.inl rfl)) (se_int rfl)) (sa_cons (se_var (i := 4) rfl rfl (.inl rfl)) (sa_nil rfl)))))))))) (sp_one (sp_ret (se_bl rfl))) (sp_nil rfl))
    (sp_one (sp_if (sb_not (sb_val (se_callC tk ih hr (by rfl) (sa_cons (se_var (i := 0) rfl rfl (.inl rfl)) (sa_cons (se_var (i := 5) rfl rfl (.inl rfl)) (sa_cons (se_sub_ (se_var (i := 6) rfl rfl (.inl rfl)) (se_int rfl)) (sa_nil rfl))))))) (sp_one (sp_ret (se_bl rfl))) (sp_nil rfl))))))
    (sp_one (sp_ret (se_bl rfl)))))))))))
abbrev s_l_gdeep : Stmt := topS 20
theorem sc_l_gdeep : FnScope ["_law_plan", "_law_way"] ["_law_plan"] (defScope s_l_gdeep) := ⟨rfl, rfl, rfl, by decide +kernel, rfl, by decide +kernel, by decide +kernel⟩
theorem ok_l_gdeep {f : Addr} {fd : FuncData} (T : Txt K mg cl fns) (F : Fun K "_law_gdeep" "_law_gdeep" s_l_gdeep f fd) (hm : mg "_law_gdeep" = some (.ref f)) (hb : Binds K fd ["_law_plan"] [])  : ∀ n, Cal (gT K cl fns) P w K mg base (1 + n) "_law_gdeep" 1 (m_l_gdeep n)
  | 0 => cal_zero F hm hb sc_l_gdeep
  | n + 1 => cal_mk F hm hb (show FnOk P w K mg base (L2.CX P w) (1 + n + 1) f fd ["_law_plan"] (spM (gT K cl fns) 1 (m_l_gdeep (n + 1))) from fn_ok F sc_l_gdeep fun cdv A outer s H E hr tk hp =>
    have nd := sc_l_gdeep.nd
    have ih := ok_l_gdeep T F hm hb  n
    (sp_cons (sp_if (sb_eq hr.units (se_sub_ (se_var (i := 0) rfl rfl (.inl rfl)) (se_int rfl)) (se_str rfl)) (sp_one (sp_ret (se_int rfl))) (sp_nil rfl))
    (sp_one (sp_ret (se_add (se_int rfl) (se_max rfl (by rfl) T.b_max (sa_cons (se_lc (own := [("_law_way", 1)]) (ix := [1]) (g := (gName 1)) rfl nd (si_seq (sq_c (se_sub_ (se_var (i := 0) rfl rfl (.inl rfl)) (se_int rfl)))) (blkOk_by (own := [("_law_way", 1)]) (by kernel_rfl)) (by decide) (fun _ _ _ _ _ => (pg_name (i := 1) nd rfl (.inl rfl))) og_name (fun _ _ _ _ _ => (sts_nil rfl)) (fun _ _ _ _ _ => (se_callC takes0 ih hr (by rfl) (sa_cons (se_sub_ (se_var (i := 1) rfl rfl (.inl rfl)) (se_int rfl)) (sa_nil rfl))))) (sa_nil rfl))))))))
abbrev s_l_gbuilt : Stmt := topS 21
theorem sc_l_gbuilt : FnScope ["_law_tape", "_law_book", "_law_some", "_law_good", "_law_x", "_law_ways", "_law_box", "_law_there"] ["_law_tape", "_law_book", "_law_some"] (defScope s_l_gbuilt) := ⟨rfl, rfl, rfl, by decide +kernel, rfl, by decide +kernel, by decide +kernel⟩
theorem ok_l_gbuilt {f : Addr} {fd : FuncData} (T : Txt K mg cl fns) (F : Fun K "_law_gbuilt" "_law_gbuilt" s_l_gbuilt f fd) (hm : mg "_law_gbuilt" = some (.ref f)) (hb : Binds K fd ["_law_tape", "_law_book", "_law_some"] []) (c_l_gparted : Cal (gT K cl fns) P w K mg base 1 "_law_gparted" 3 m_l_gparted) (c_l_gdraw : Cal (gT K cl fns) P w K mg base 3 "_law_gdraw" 2 m_l_gdraw) : ∀ n, Cal (gT K cl fns) P w K mg base (4 + n) "_law_gbuilt" 3 (m_l_gbuilt n)
  | 0 => cal_zero F hm hb sc_l_gbuilt
  | n + 1 => cal_mk F hm hb (show FnOk P w K mg base (L2.CX P w) (4 + n + 1) f fd ["_law_tape", "_law_book", "_law_some"] (spM (gT K cl fns) 3 (m_l_gbuilt (n + 1))) from fn_ok F sc_l_gbuilt fun cdv A outer s H E hr tk hp =>
    have nd := sc_l_gbuilt.nd
    have ih := ok_l_gbuilt T F hm hb c_l_gparted c_l_gdraw n
    (sp_cons (sp_setLc (i := 3) (own := [("_law_x", 4)]) (ix := [4]) (g := (gName 4)) rfl nd rfl rfl (sw_true rfl rfl rfl (by decide +kernel)) (sc_rng1 (sa_cons (se_len (by rfl) T.b_len (sa_cons (se_sub_ (se_sub_ (se_var (i := 1) rfl rfl (.inr (.inl rfl))) (se_int rfl)) (se_int rfl)) (sa_nil rfl))) (sa_nil rfl)) (by rfl) T.b_range) (blkOk_by (own := [("_law_x", 4)]) (by kernel_rfl)) (by decide) (fun _ _ _ _ _ => (pg_name (i := 4) nd rfl (.inl rfl))) og_name (fun _ _ _ _ _ => (sts_one (sb_gt (se_len (by rfl) T.b_len (sa_cons (se_callC takes0 c_l_gparted (hr.mono (by omega)) (by rfl) (sa_cons (se_var (i := 1) rfl rfl (.inr (.inl rfl))) (sa_cons (se_var (i := 2) rfl rfl (.inr (.inl rfl))) (sa_cons (se_var (i := 4) rfl rfl (.inl rfl)) (sa_nil rfl))))) (sa_nil rfl))) (se_int rfl)))) (fun _ _ _ _ _ => (se_var (i := 4) rfl rfl (.inl rfl))))
    (sp_cons (sp_if (sb_eq hr.units (se_var (i := 3) rfl rfl (.inl rfl)) (se_lst (si_nil rfl))) (sp_one (sp_ret (se_tup (si_cons (se_str rfl) (si_cons (se_var (i := 2) rfl rfl (.inr (.inl rfl))) (si_nil rfl)))))) (sp_nil rfl))
    (sp_cons (sp_setS (i := 4) (se_sub_ (se_var (i := 3) rfl rfl (.inl rfl)) (se_callC tk c_l_gdraw (hr.mono (by omega)) (by rfl) (sa_cons (se_var (i := 0) rfl rfl (.inr (.inl rfl))) (sa_cons (se_len (by rfl) T.b_len (sa_cons (se_var (i := 3) rfl rfl (.inl rfl)) (sa_nil rfl))) (sa_nil rfl))))) nd rfl (.inl rfl))
    (sp_cons (sp_setLc (i := 5) (own := [("_law_box", 6), ("_law_there", 7)]) (ix := [6, 7]) (g := (gTup K 2 (gCons (gName 6) (gCons (gName 7) gNil)))) rfl nd rfl rfl (sw_true rfl rfl rfl (by decide +kernel)) (si_seq (sq_c (se_callC tk c_l_gparted (hr.mono (by omega)) (by rfl) (sa_cons (se_var (i := 1) rfl rfl (.inr (.inl rfl))) (sa_cons (se_var (i := 2) rfl rfl (.inr (.inl rfl))) (sa_cons (se_var (i := 4) rfl rfl (.inl rfl)) (sa_nil rfl))))))) (blkOk_by (own := [("_law_box", 6), ("_law_there", 7)]) (by kernel_rfl)) (by decide) (fun _ _ _ _ _ => (pg_tup rfl (pgs_cons (pg_name (i := 6) nd rfl (.inl rfl)) (pgs_cons (pg_name (i := 7) nd rfl (.inl rfl)) pgs_nil)))) (og_tup rfl (ogs_cons og_name (ogs_cons og_name ogs_nil))) (fun _ _ _ _ _ => (sts_nil rfl)) (fun _ _ _ _ _ => (se_tup (si_cons (se_var (i := 6) rfl rfl (.inl rfl)) (si_cons (se_callC takes0 ih hr (by rfl) (sa_cons (se_var (i := 0) rfl rfl (.inr (.inl rfl))) (sa_cons (se_var (i := 1) rfl rfl (.inr (.inl rfl))) (sa_cons (se_var (i := 7) rfl rfl (.inl rfl)) (sa_nil rfl))))) (si_nil rfl))))))
    (sp_one (sp_ret (se_tup (si_cons (se_str rfl) (si_cons (se_var (i := 4) rfl rfl (.inl rfl)) (si_cons (se_tuple (by rfl) T.b_tuple (sa_cons (se_var (i := 5) rfl rfl (.inl rfl)) (sa_nil rfl))) (si_nil rfl))))))))))))
abbrev s_l_gbent_end : Stmt := topS 22
theorem sc_l_gbent_end : FnScope ["_law_tape", "_law_plan", "_law_way", "_law_word", "_law_some", "_law_truths", "_law_ways", "_law_at", "_law_odd", "_law_other", "_law_one"] ["_law_tape", "_law_plan"] (defScope s_l_gbent_end) := ⟨rfl, rfl, rfl, by decide +kernel, rfl, by decide +kernel, by decide +kernel⟩
theorem ok_l_gbent_end {f : Addr} {fd : FuncData} (T : Txt K mg cl fns) (F : Fun K "_law_gbent_end" "_law_gbent_end" s_l_gbent_end f fd) (hm : mg "_law_gbent_end" = some (.ref f)) (hb : Binds K fd ["_law_tape", "_law_plan"] []) (c_l_gdraw : Cal (gT K cl fns) P w K mg base 3 "_law_gdraw" 2 m_l_gdraw) : Cal (gT K cl fns) P w K mg base 4 "_law_gbent_end" 2 (m_l_gbent_end) :=
  cal_mk F hm hb (fn_ok F sc_l_gbent_end fun cdv A outer s H E hr tk hp =>
    have nd := sc_l_gbent_end.nd
    (sp_cons (sp_set (i := 2) (se_callC tk c_l_gdraw (hr.mono (by omega)) (by rfl) (sa_cons (se_var (i := 0) rfl rfl (.inl rfl)) (sa_cons (se_int rfl) (sa_nil rfl)))) nd rfl (.inl rfl))
    (sp_cons (sp_asg (se_var (i := 1) rfl rfl (.inl rfl)) (pg_tup rfl (pgs_cons (pg_name (i := 3) nd rfl (.inl rfl)) (pgs_cons (pg_name (i := 4) nd rfl (.inl rfl)) pgs_nil))) (og_tup rfl (ogs_cons og_name (ogs_cons og_name ogs_nil))))
    (sp_cons (sp_setS (i := 5) (se_tuple (by rfl) T.b_tuple (sa_cons (se_lc (own := [("_law_one", 10)]) (ix := [10]) (g := (gName 10)) rfl nd (si_seq (sq_c (se_var (i := 4) rfl rfl (.inl rfl)))) (blkOk_by (own := [("_law_one", 10)]) (by kernel_rfl)) (by decide) (fun _ _ _ _ _ => (pg_name (i := 10) nd rfl (.inl rfl))) og_name (fun _ _ _ _ _ => (sts_nil rfl)) (fun _ _ _ _ _ => (se_if (sb_lt (se_var (i := 10) rfl rfl (.inl rfl)) (se_int rfl)) (se_eq hr.units (se_var (i := 10) rfl rfl (.inl rfl)) (se_int rfl)) (se_var (i := 10) rfl rfl (.inl rfl))))) (sa_nil rfl))) nd rfl (.inl rfl))
    (sp_cons (sp_set (i := 6) (se_lst (si_cons (se_tup (si_cons (se_str rfl) (si_cons (se_sl (se_var (i := 4) rfl rfl (.inl rfl)) (so_some (se_int rfl)) so_no) (si_nil rfl)))) (si_cons (se_tup (si_cons (se_str rfl) (si_cons (se_add (se_var (i := 4) rfl rfl (.inl rfl)) (se_sl (se_var (i := 4) rfl rfl (.inl rfl)) (so_some (se_neg (se_int rfl))) so_no)) (si_nil rfl)))) (si_cons (se_tup (si_cons (se_str rfl) (si_cons (se_revA (se_var (i := 4) rfl rfl (.inl rfl))) (si_nil rfl)))) (si_cons (se_tup (si_cons (se_str rfl) (si_cons (se_list (by rfl) T.b_list (sa_cons (se_var (i := 4) rfl rfl (.inl rfl)) (sa_nil rfl))) (si_nil rfl)))) (si_nil rfl)))))) nd rfl (.inl rfl))
    (sp_cons (sp_set (i := 6) (se_add (se_var (i := 6) rfl rfl (.inl rfl)) (se_lst (si_cons (se_tup (si_cons (se_str rfl) (si_cons (se_var (i := 4) rfl rfl (.inl rfl)) (si_nil rfl)))) (si_cons (se_tup (si_cons (se_str rfl) (si_cons (se_add (se_var (i := 4) rfl rfl (.inl rfl)) (se_tup (si_cons (se_add (se_sub_ (se_var (i := 4) rfl rfl (.inl rfl)) (se_neg (se_int rfl))) (se_int rfl)) (si_nil rfl)))) (si_nil rfl)))) (si_cons (se_tup (si_cons (se_var (i := 3) rfl rfl (.inl rfl)) (si_cons (se_var (i := 4) rfl rfl (.inl rfl)) (si_cons (se_tup (si_nil rfl)) (si_nil rfl))))) (si_cons (se_tup (si_cons (se_var (i := 3) rfl rfl (.inl rfl)) (si_nil rfl))) (si_cons (se_lst (si_cons (se_var (i := 3) rfl rfl (.inl rfl)) (si_cons (se_var (i := 4) rfl rfl (.inl rfl)) (si_nil rfl)))) (si_cons (se_non rfl) (si_nil rfl))))))))) nd rfl (.inl rfl))
    (sp_cons (sp_set (i := 6) (se_add (se_var (i := 6) rfl rfl (.inl rfl)) (se_lst (si_cons (se_var (i := 4) rfl rfl (.inl rfl)) (si_cons (se_tup (si_cons (se_var (i := 3) rfl rfl (.inl rfl)) (si_cons (se_var (i := 5) rfl rfl (.inl rfl)) (si_nil rfl)))) (si_cons (se_tup (si_cons (se_var (i := 3) rfl rfl (.inl rfl)) (si_cons (se_non rfl) (si_nil rfl)))) (si_cons (se_tup (si_cons (se_var (i := 3) rfl rfl (.inl rfl)) (si_cons (se_int rfl) (si_nil rfl)))) (si_nil rfl))))))) nd rfl (.inl rfl))
    (sp_cons (sp_set (i := 7) (se_callC tk c_l_gdraw (hr.mono (by omega)) (by rfl) (sa_cons (se_var (i := 0) rfl rfl (.inl rfl)) (sa_cons (se_add (se_len (by rfl) T.b_len (sa_cons (se_var (i := 4) rfl rfl (.inl rfl)) (sa_nil rfl))) (se_int rfl)) (sa_nil rfl)))) nd rfl (.inl rfl))
    (sp_cons (sp_setS (i := 8) (se_sub_ (se_lst (si_cons (se_non rfl) (si_cons (se_str rfl) (si_cons (se_tup (si_cons (se_int rfl) (si_nil rfl))) (si_cons (se_lst (si_cons (se_int rfl) (si_nil rfl))) (si_cons (se_neg (se_int rfl)) (si_cons (se_pow (se_int rfl) (se_int rfl)) (si_cons (se_bl rfl) (si_cons (se_add (se_sub_ (se_var (i := 4) rfl rfl (.inl rfl)) (se_neg (se_int rfl))) (se_int rfl)) (si_nil rfl)))))))))) (se_callC tk c_l_gdraw (hr.mono (by omega)) (by rfl) (sa_cons (se_var (i := 0) rfl rfl (.inl rfl)) (sa_cons (se_int rfl) (sa_nil rfl))))) nd rfl (.inl rfl))
    (sp_cons (sp_setS (i := 9) (se_sub_ (se_lst (si_cons (se_str rfl) (si_cons (se_str rfl) (si_cons (se_str rfl) (si_cons (se_str rfl) (si_cons (se_str rfl) (si_cons (se_str rfl) (si_cons (se_non rfl) (si_cons (se_int rfl) (si_nil rfl)))))))))) (se_callC tk c_l_gdraw (hr.mono (by omega)) (by rfl) (sa_cons (se_var (i := 0) rfl rfl (.inl rfl)) (sa_cons (se_int rfl) (sa_nil rfl))))) nd rfl (.inl rfl))
    (sp_cons (sp_set (i := 6) (se_add (se_var (i := 6) rfl rfl (.inl rfl)) (se_lst (si_cons (se_tup (si_cons (se_var (i := 3) rfl rfl (.inl rfl)) (si_cons (se_str rfl) (si_nil rfl)))) (si_cons (se_tup (si_cons (se_lst (si_cons (se_var (i := 3) rfl rfl (.inl rfl)) (si_nil rfl))) (si_cons (se_var (i := 4) rfl rfl (.inl rfl)) (si_nil rfl)))) (si_cons (se_tup (si_cons (se_var (i := 9) rfl rfl (.inl rfl)) (si_cons (se_var (i := 4) rfl rfl (.inl rfl)) (si_nil rfl)))) (si_cons (se_tup (si_cons (se_var (i := 3) rfl rfl (.inl rfl)) (si_cons (se_add (se_add (se_sl (se_var (i := 4) rfl rfl (.inl rfl)) so_no (so_some (se_var (i := 7) rfl rfl (.inl rfl)))) (se_tup (si_cons (se_var (i := 8) rfl rfl (.inl rfl)) (si_nil rfl)))) (se_sl (se_var (i := 4) rfl rfl (.inl rfl)) (so_some (se_var (i := 7) rfl rfl (.inl rfl))) so_no)) (si_nil rfl)))) (si_nil rfl))))))) nd rfl (.inl rfl))
    (sp_cons (sp_app (k := 6) rfl rfl (.inl rfl) (se_tup (si_cons (se_var (i := 3) rfl rfl (.inl rfl)) (si_cons (se_add (se_add (se_sl (se_var (i := 4) rfl rfl (.inl rfl)) so_no (so_some (se_var (i := 7) rfl rfl (.inl rfl)))) (se_sl (se_var (i := 4) rfl rfl (.inl rfl)) (so_some (se_max rfl (by rfl) T.b_max (sa_cons (se_int rfl) (sa_cons (se_sub (se_var (i := 7) rfl rfl (.inl rfl)) (se_int rfl)) (sa_nil rfl))))) (so_some (se_var (i := 7) rfl rfl (.inl rfl))))) (se_sl (se_var (i := 4) rfl rfl (.inl rfl)) (so_some (se_add (se_var (i := 7) rfl rfl (.inl rfl)) (se_int rfl))) so_no)) (si_nil rfl)))))
    (sp_one (sp_ret (se_sub_ (se_add (se_var (i := 6) rfl rfl (.inl rfl)) (se_lst (si_cons (se_tup (si_cons (se_var (i := 3) rfl rfl (.inl rfl)) (si_cons (se_add (se_add (se_sl (se_var (i := 4) rfl rfl (.inl rfl)) so_no (so_some (se_var (i := 7) rfl rfl (.inl rfl)))) (se_tup (si_cons (se_var (i := 8) rfl rfl (.inl rfl)) (si_nil rfl)))) (se_sl (se_var (i := 4) rfl rfl (.inl rfl)) (so_some (se_add (se_var (i := 7) rfl rfl (.inl rfl)) (se_int rfl))) so_no)) (si_nil rfl)))) (si_nil rfl)))) (se_var (i := 2) rfl rfl (.inl rfl)))))))))))))))))
abbrev s_l_gall : Stmt := topS 23
theorem sc_l_gall : FnScope ["_law_plan", "_law_found", "_law_box", "_law_inner"] ["_law_plan"] (defScope s_l_gall) := ⟨rfl, rfl, rfl, by decide +kernel, rfl, by decide +kernel, by decide +kernel⟩
theorem ok_l_gall {f : Addr} {fd : FuncData} (T : Txt K mg cl fns) (F : Fun K "_law_gall" "_law_gall" s_l_gall f fd) (hm : mg "_law_gall" = some (.ref f)) (hb : Binds K fd ["_law_plan"] [])  : ∀ n, Cal (gT K cl fns) P w K mg base (1 + n) "_law_gall" 1 (m_l_gall n)
  | 0 => cal_zero F hm hb sc_l_gall
  | n + 1 => cal_mk F hm hb (show FnOk P w K mg base (L2.CX P w) (1 + n + 1) f fd ["_law_plan"] (spM (gT K cl fns) 1 (m_l_gall (n + 1))) from fn_ok F sc_l_gall fun cdv A outer s H E hr tk hp =>
    have nd := sc_l_gall.nd
    have ih := ok_l_gall T F hm hb  n
    (sp_cons (sp_if (sb_eq hr.units (se_sub_ (se_var (i := 0) rfl rfl (.inl rfl)) (se_int rfl)) (se_str rfl)) (sp_one (sp_ret (se_sub_ (se_var (i := 0) rfl rfl (.inl rfl)) (se_int rfl)))) (sp_nil rfl))
    (sp_cons (sp_set (i := 1) (se_lst (si_nil rfl)) nd rfl (.inl rfl))
    (sp_cons (sp_for hp rfl (si_seq (sq_e (se_sub_ (se_var (i := 0) rfl rfl (.inl rfl)) (se_int rfl)))) (sg_of (pg_tup rfl (pgs_cons (pg_name (i := 2) nd rfl (.inl rfl)) (pgs_cons (pg_name (i := 3) nd rfl (.inl rfl)) pgs_nil))) (og_tup rfl (ogs_cons og_name (ogs_cons og_name ogs_nil)))) (sp_one (sp_set (i := 1) (se_add (se_var (i := 1) rfl rfl (.inl rfl)) (se_list (by rfl) T.b_list (sa_cons (se_callC tk ih hr (by rfl) (sa_cons (se_var (i := 3) rfl rfl (.inl rfl)) (sa_nil rfl))) (sa_nil rfl)))) nd rfl (.inl rfl))))
    (sp_one (sp_ret (se_tuple (by rfl) T.b_tuple (sa_cons (se_sorted (by rfl) T.b_sorted (sa_cons (se_var (i := 1) rfl rfl (.inl rfl)) (sa_nil rfl))) (sa_nil rfl)))))))))
abbrev s_l_gbent : Stmt := topS 24
theorem sc_l_gbent : FnScope ["_law_tape", "_law_book", "_law_plan", "_law_word", "_law_x", "_law_ways", "_law_way", "_law_at", "_law_box", "_law_inner", "_law_odd", "_law_some", "_law_others", "_law_lone", "_law_one", "_law_other"] ["_law_tape", "_law_book", "_law_plan"] (defScope s_l_gbent) := ⟨rfl, rfl, rfl, by decide +kernel, rfl, by decide +kernel, by decide +kernel⟩
theorem ok_l_gbent {f : Addr} {fd : FuncData} (T : Txt K mg cl fns) (F : Fun K "_law_gbent" "_law_gbent" s_l_gbent f fd) (hm : mg "_law_gbent" = some (.ref f)) (hb : Binds K fd ["_law_tape", "_law_book", "_law_plan"] []) (c_l_gbent_end : Cal (gT K cl fns) P w K mg base 4 "_law_gbent_end" 2 m_l_gbent_end) (c_l_gdraw : Cal (gT K cl fns) P w K mg base 3 "_law_gdraw" 2 m_l_gdraw) (c_l_gall : Cal (gT K cl fns) P w K mg base 13 "_law_gall" 1 (m_l_gall 12)) : ∀ n, Cal (gT K cl fns) P w K mg base (14 + n) "_law_gbent" 3 (m_l_gbent n)
  | 0 => cal_zero F hm hb sc_l_gbent
  | n + 1 => cal_mk F hm hb (show FnOk P w K mg base (L2.CX P w) (14 + n + 1) f fd ["_law_tape", "_law_book", "_law_plan"] (spM (gT K cl fns) 3 (m_l_gbent (n + 1))) from fn_ok F sc_l_gbent fun cdv A outer s H E hr tk hp =>
    have nd := sc_l_gbent.nd
    have ih := ok_l_gbent T F hm hb c_l_gbent_end c_l_gdraw c_l_gall n
    (sp_cons (sp_if (sb_eq hr.units (se_sub_ (se_var (i := 2) rfl rfl (.inl rfl)) (se_int rfl)) (se_str rfl)) (sp_one (sp_ret (se_callC tk c_l_gbent_end (hr.mono (by omega)) (by rfl) (sa_cons (se_var (i := 0) rfl rfl (.inl rfl)) (sa_cons (se_var (i := 2) rfl rfl (.inl rfl)) (sa_nil rfl)))))) (sp_nil rfl))
    (sp_cons (sp_asg (se_var (i := 2) rfl rfl (.inl rfl)) (pg_tup rfl (pgs_cons (pg_name (i := 3) nd rfl (.inl rfl)) (pgs_cons (pg_name (i := 4) nd rfl (.inl rfl)) (pgs_cons (pg_name (i := 5) nd rfl (.inl rfl)) pgs_nil)))) (og_tup rfl (ogs_cons og_name (ogs_cons og_name (ogs_cons og_name ogs_nil)))))
    (sp_cons (sp_par (i := 6) (j := 7) rfl nd rfl rfl (by decide) rfl rfl (si_cons (se_callC tk c_l_gdraw (hr.mono (by omega)) (by rfl) (sa_cons (se_var (i := 0) rfl rfl (.inl rfl)) (sa_cons (se_int rfl) (sa_nil rfl)))) (si_cons (se_callC tk c_l_gdraw (hr.mono (by omega)) (by rfl) (sa_cons (se_var (i := 0) rfl rfl (.inl rfl)) (sa_cons (se_len (by rfl) T.b_len (sa_cons (se_var (i := 5) rfl rfl (.inl rfl)) (sa_nil rfl))) (sa_nil rfl)))) (si_nil rfl))) (by rfl))
    (sp_cons (sp_asg (se_sub_ (se_var (i := 5) rfl rfl (.inl rfl)) (se_var (i := 7) rfl rfl (.inl rfl))) (pg_tup rfl (pgs_cons (pg_name (i := 8) nd rfl (.inl rfl)) (pgs_cons (pg_name (i := 9) nd rfl (.inl rfl)) pgs_nil))) (og_tup rfl (ogs_cons og_name (ogs_cons og_name ogs_nil))))
    (sp_cons (sp_setS (i := 10) (se_sub_ (se_lst (si_cons (se_add (se_var (i := 4) rfl rfl (.inl rfl)) (se_int rfl)) (si_cons (se_sub (se_var (i := 4) rfl rfl (.inl rfl)) (se_int rfl)) (si_cons (se_len (by rfl) T.b_len (sa_cons (se_sub_ (se_sub_ (se_var (i := 1) rfl rfl (.inl rfl)) (se_int rfl)) (se_int rfl)) (sa_nil rfl))) (si_cons (se_neg (se_int rfl)) (si_cons (se_bl rfl) (si_cons (se_bl rfl) (si_cons (se_non rfl) (si_cons (se_str rfl) (si_cons (se_pow (se_int rfl) (se_int rfl)) (si_cons (se_int rfl) (si_nil rfl)))))))))))) (se_callC tk c_l_gdraw (hr.mono (by omega)) (by rfl) (sa_cons (se_var (i := 0) rfl rfl (.inl rfl)) (sa_cons (se_int rfl) (sa_nil rfl))))) nd rfl (.inl rfl))
    (sp_cons (sp_if (sb_lt (se_var (i := 6) rfl rfl (.inl rfl)) (se_int rfl)) (sp_one (sp_ret (se_tup (si_cons (se_var (i := 3) rfl rfl (.inl rfl)) (si_cons (se_var (i := 4) rfl rfl (.inl rfl)) (si_cons (se_add (se_add (se_sl (se_var (i := 5) rfl rfl (.inl rfl)) so_no (so_some (se_var (i := 7) rfl rfl (.inl rfl)))) (se_tup (si_cons (se_tup (si_cons (se_var (i := 8) rfl rfl (.inl rfl)) (si_cons (se_callC tk ih hr (by rfl) (sa_cons (se_var (i := 0) rfl rfl (.inl rfl)) (sa_cons (se_var (i := 1) rfl rfl (.inl rfl)) (sa_cons (se_var (i := 9) rfl rfl (.inl rfl)) (sa_nil rfl))))) (si_nil rfl)))) (si_nil rfl)))) (se_sl (se_var (i := 5) rfl rfl (.inl rfl)) (so_some (se_add (se_var (i := 7) rfl rfl (.inl rfl)) (se_int rfl))) so_no)) (si_nil rfl))))))) (sp_nil rfl))
    (sp_cons (sp_if (sb_eq hr.units (se_var (i := 6) rfl rfl (.inl rfl)) (se_int rfl)) (sp_one (sp_ret (se_tup (si_cons (se_var (i := 3) rfl rfl (.inl rfl)) (si_cons (se_var (i := 10) rfl rfl (.inl rfl)) (si_cons (se_var (i := 5) rfl rfl (.inl rfl)) (si_nil rfl))))))) (sp_nil rfl))
    (sp_cons (sp_if (sb_eq hr.units (se_var (i := 6) rfl rfl (.inl rfl)) (se_int rfl)) (sp_one (sp_ret (se_tup (si_cons (se_var (i := 3) rfl rfl (.inl rfl)) (si_cons (se_var (i := 4) rfl rfl (.inl rfl)) (si_cons (se_add (se_add (se_sl (se_var (i := 5) rfl rfl (.inl rfl)) so_no (so_some (se_var (i := 7) rfl rfl (.inl rfl)))) (se_tup (si_cons (se_tup (si_cons (se_var (i := 10) rfl rfl (.inl rfl)) (si_cons (se_var (i := 9) rfl rfl (.inl rfl)) (si_nil rfl)))) (si_nil rfl)))) (se_sl (se_var (i := 5) rfl rfl (.inl rfl)) (so_some (se_add (se_var (i := 7) rfl rfl (.inl rfl)) (se_int rfl))) so_no)) (si_nil rfl))))))) (sp_nil rfl))
    (sp_cons (sp_if (sb_eq hr.units (se_var (i := 6) rfl rfl (.inl rfl)) (se_int rfl)) (sp_cons (sp_setS (i := 11) (se_lst (si_cons (se_add (se_sl (se_var (i := 5) rfl rfl (.inl rfl)) so_no (so_some (se_var (i := 7) rfl rfl (.inl rfl)))) (se_sl (se_var (i := 5) rfl rfl (.inl rfl)) (so_some (se_add (se_var (i := 7) rfl rfl (.inl rfl)) (se_int rfl))) so_no)) (si_cons (se_add (se_var (i := 5) rfl rfl (.inl rfl)) (se_sl (se_var (i := 5) rfl rfl (.inl rfl)) (so_some (se_var (i := 7) rfl rfl (.inl rfl))) (so_some (se_add (se_var (i := 7) rfl rfl (.inl rfl)) (se_int rfl))))) (si_cons (se_revA (se_var (i := 5) rfl rfl (.inl rfl))) (si_nil rfl))))) nd rfl (.inl rfl))
    (sp_cons (sp_app (k := 11) rfl rfl (.inl rfl) (se_add (se_add (se_sl (se_var (i := 5) rfl rfl (.inl rfl)) so_no (so_some (se_var (i := 7) rfl rfl (.inl rfl)))) (se_sl (se_var (i := 5) rfl rfl (.inl rfl)) (so_some (se_max rfl (by rfl) T.b_max (sa_cons (se_int rfl) (sa_cons (se_sub (se_var (i := 7) rfl rfl (.inl rfl)) (se_int rfl)) (sa_nil rfl))))) (so_some (se_var (i := 7) rfl rfl (.inl rfl))))) (se_sl (se_var (i := 5) rfl rfl (.inl rfl)) (so_some (se_add (se_var (i := 7) rfl rfl (.inl rfl)) (se_int rfl))) so_no)))
    (sp_cons (sp_app (k := 11) rfl rfl (.inl rfl) (se_tuple (by rfl) T.b_tuple (sa_cons (se_lc (own := [("_law_one", 14), ("_law_other", 15)]) (ix := [14, 15]) (g := (gTup K 2 (gCons (gName 14) (gCons (gName 15) gNil)))) rfl nd (si_zip (sq_c (se_var (i := 5) rfl rfl (.inl rfl))) (sq_c (se_add (se_sl (se_var (i := 5) rfl rfl (.inl rfl)) (so_some (se_int rfl)) so_no) (se_sl (se_var (i := 5) rfl rfl (.inl rfl)) so_no (so_some (se_int rfl))))) (by rfl) T.b_zip) (blkOk_by (own := [("_law_one", 14), ("_law_other", 15)]) (by kernel_rfl)) (by decide) (fun _ _ _ _ _ => (pg_tup rfl (pgs_cons (pg_name (i := 14) nd rfl (.inl rfl)) (pgs_cons (pg_name (i := 15) nd rfl (.inl rfl)) pgs_nil)))) (og_tup rfl (ogs_cons og_name (ogs_cons og_name ogs_nil))) (fun _ _ _ _ _ => (sts_nil rfl)) (fun _ _ _ _ _ => (se_tup (si_cons (se_sub_ (se_var (i := 14) rfl rfl (.inl rfl)) (se_int rfl)) (si_cons (se_sub_ (se_var (i := 15) rfl rfl (.inl rfl)) (se_int rfl)) (si_nil rfl)))))) (sa_nil rfl))))
    (sp_one (sp_ret (se_tup (si_cons (se_var (i := 3) rfl rfl (.inl rfl)) (si_cons (se_var (i := 4) rfl rfl (.inl rfl)) (si_cons (se_sub_ (se_var (i := 11) rfl rfl (.inl rfl)) (se_callC tk c_l_gdraw (hr.mono (by omega)) (by rfl) (sa_cons (se_var (i := 0) rfl rfl (.inl rfl)) (sa_cons (se_int rfl) (sa_nil rfl))))) (si_nil rfl)))))))))) (sp_nil rfl))
    (sp_cons (sp_if (sb_eq hr.units (se_var (i := 6) rfl rfl (.inl rfl)) (se_int rfl)) (sp_cons (sp_set (i := 12) (se_lst (si_cons (se_tup (si_cons (se_var (i := 8) rfl rfl (.inl rfl)) (si_nil rfl))) (si_cons (se_lst (si_cons (se_var (i := 8) rfl rfl (.inl rfl)) (si_cons (se_var (i := 9) rfl rfl (.inl rfl)) (si_nil rfl)))) (si_cons (se_tup (si_cons (se_var (i := 8) rfl rfl (.inl rfl)) (si_cons (se_var (i := 9) rfl rfl (.inl rfl)) (si_cons (se_var (i := 9) rfl rfl (.inl rfl)) (si_nil rfl))))) (si_cons (se_var (i := 9) rfl rfl (.inl rfl)) (si_cons (se_non rfl) (si_cons (se_int rfl) (si_cons (se_tup (si_cons (se_lst (si_cons (se_str rfl) (si_nil rfl))) (si_cons (se_var (i := 9) rfl rfl (.inl rfl)) (si_nil rfl)))) (si_cons (se_str rfl) (si_nil rfl)))))))))) nd rfl (.inl rfl))
    (sp_one (sp_ret (se_tup (si_cons (se_var (i := 3) rfl rfl (.inl rfl)) (si_cons (se_var (i := 4) rfl rfl (.inl rfl)) (si_cons (se_add (se_add (se_sl (se_var (i := 5) rfl rfl (.inl rfl)) so_no (so_some (se_var (i := 7) rfl rfl (.inl rfl)))) (se_tup (si_cons (se_sub_ (se_var (i := 12) rfl rfl (.inl rfl)) (se_callC tk c_l_gdraw (hr.mono (by omega)) (by rfl) (sa_cons (se_var (i := 0) rfl rfl (.inl rfl)) (sa_cons (se_int rfl) (sa_nil rfl))))) (si_nil rfl)))) (se_sl (se_var (i := 5) rfl rfl (.inl rfl)) (so_some (se_add (se_var (i := 7) rfl rfl (.inl rfl)) (se_int rfl))) so_no)) (si_nil rfl)))))))) (sp_nil rfl))
    (sp_cons (sp_set (i := 12) (se_lst (si_cons (se_tup (si_cons (se_var (i := 3) rfl rfl (.inl rfl)) (si_cons (se_var (i := 4) rfl rfl (.inl rfl)) (si_cons (se_list (by rfl) T.b_list (sa_cons (se_var (i := 5) rfl rfl (.inl rfl)) (sa_nil rfl))) (si_nil rfl))))) (si_cons (se_tup (si_cons (se_var (i := 3) rfl rfl (.inl rfl)) (si_cons (se_var (i := 4) rfl rfl (.inl rfl)) (si_nil rfl)))) (si_cons (se_tup (si_cons (se_var (i := 3) rfl rfl (.inl rfl)) (si_cons (se_var (i := 4) rfl rfl (.inl rfl)) (si_cons (se_var (i := 5) rfl rfl (.inl rfl)) (si_cons (se_tup (si_nil rfl)) (si_nil rfl)))))) (si_cons (se_list (by rfl) T.b_list (sa_cons (se_var (i := 2) rfl rfl (.inl rfl)) (sa_nil rfl))) (si_cons (se_tup (si_cons (se_str rfl) (si_cons (se_var (i := 4) rfl rfl (.inl rfl)) (si_cons (se_var (i := 5) rfl rfl (.inl rfl)) (si_nil rfl))))) (si_cons (se_tup (si_cons (se_str rfl) (si_cons (se_var (i := 4) rfl rfl (.inl rfl)) (si_cons (se_var (i := 5) rfl rfl (.inl rfl)) (si_nil rfl))))) (si_nil rfl)))))))) nd rfl (.inl rfl))
    (sp_cons (sp_setS (i := 11) (se_callC tk c_l_gall (hr.mono (by omega)) (by rfl) (sa_cons (se_var (i := 2) rfl rfl (.inl rfl)) (sa_nil rfl))) nd rfl (.inl rfl))
    (sp_cons (sp_setS (i := 13) (se_callC tk c_l_gdraw (hr.mono (by omega)) (by rfl) (sa_cons (se_var (i := 0) rfl rfl (.inl rfl)) (sa_cons (se_len (by rfl) T.b_len (sa_cons (se_sub_ (se_sub_ (se_var (i := 1) rfl rfl (.inl rfl)) (se_int rfl)) (se_int rfl)) (sa_nil rfl))) (sa_nil rfl)))) nd rfl (.inl rfl))
    (sp_cons (sp_set (i := 12) (se_add (se_var (i := 12) rfl rfl (.inl rfl)) (se_lst (si_cons (se_tup (si_cons (se_str rfl) (si_cons (se_var (i := 11) rfl rfl (.inl rfl)) (si_nil rfl)))) (si_cons (se_tup (si_cons (se_str rfl) (si_cons (se_var (i := 13) rfl rfl (.inl rfl)) (si_cons (se_tup (si_cons (se_tup (si_cons (se_sub_ (se_sub_ (se_sub_ (se_var (i := 1) rfl rfl (.inl rfl)) (se_int rfl)) (se_sub_ (se_var (i := 11) rfl rfl (.inl rfl)) (se_int rfl))) (se_var (i := 13) rfl rfl (.inl rfl))) (si_cons (se_var (i := 2) rfl rfl (.inl rfl)) (si_nil rfl)))) (si_nil rfl))) (si_nil rfl))))) (si_cons (se_tup (si_cons (se_str rfl) (si_cons (se_var (i := 11) rfl rfl (.inl rfl)) (si_nil rfl)))) (si_nil rfl)))))) nd rfl (.inl rfl))
    (sp_cons (sp_set (i := 12) (se_add (se_var (i := 12) rfl rfl (.inl rfl)) (se_lst (si_cons (se_tup (si_cons (se_var (i := 3) rfl rfl (.inl rfl)) (si_cons (se_var (i := 4) rfl rfl (.inl rfl)) (si_cons (se_non rfl) (si_nil rfl))))) (si_cons (se_tup (si_cons (se_var (i := 3) rfl rfl (.inl rfl)) (si_cons (se_var (i := 4) rfl rfl (.inl rfl)) (si_cons (se_int rfl) (si_nil rfl))))) (si_cons (se_tup (si_cons (se_var (i := 3) rfl rfl (.inl rfl)) (si_cons (se_var (i := 4) rfl rfl (.inl rfl)) (si_cons (se_str rfl) (si_nil rfl))))) (si_cons (se_tup (si_cons (se_lst (si_cons (se_var (i := 3) rfl rfl (.inl rfl)) (si_nil rfl))) (si_cons (se_var (i := 4) rfl rfl (.inl rfl)) (si_cons (se_var (i := 5) rfl rfl (.inl rfl)) (si_nil rfl))))) (si_cons (se_tup (si_cons (se_var (i := 3) rfl rfl (.inl rfl)) (si_cons (se_non rfl) (si_cons (se_var (i := 5) rfl rfl (.inl rfl)) (si_nil rfl))))) (si_nil rfl)))))))) nd rfl (.inl rfl))
    (sp_cons (sp_setS (i := 3) (se_sub_ (se_lst (si_cons (se_str rfl) (si_cons (se_str rfl) (si_cons (se_str rfl) (si_cons (se_str rfl) (si_cons (se_non rfl) (si_cons (se_int rfl) (si_nil rfl)))))))) (se_callC tk c_l_gdraw (hr.mono (by omega)) (by rfl) (sa_cons (se_var (i := 0) rfl rfl (.inl rfl)) (sa_cons (se_int rfl) (sa_nil rfl))))) nd rfl (.inl rfl))
    (sp_one (sp_ret (se_sub_ (se_add (se_var (i := 12) rfl rfl (.inl rfl)) (se_lst (si_cons (se_non rfl) (si_cons (se_int rfl) (si_cons (se_tup (si_nil rfl)) (si_cons (se_var (i := 5) rfl rfl (.inl rfl)) (si_cons (se_tup (si_cons (se_var (i := 3) rfl rfl (.inl rfl)) (si_cons (se_var (i := 4) rfl rfl (.inl rfl)) (si_cons (se_var (i := 5) rfl rfl (.inl rfl)) (si_nil rfl))))) (si_nil rfl)))))))) (se_callC tk c_l_gdraw (hr.mono (by omega)) (by rfl) (sa_cons (se_var (i := 0) rfl rfl (.inl rfl)) (sa_cons (se_int rfl) (sa_nil rfl))))))))))))))))))))))))
abbrev s_l_gmore_ways : Stmt := topS 25
theorem sc_l_gmore_ways : FnScope ["_law_tape", "_law_book", "_law_plan", "_law_word", "_law_x", "_law_ways", "_law_at", "_law_inner", "_law_here", "_law_others", "_law_end", "_law_box"] ["_law_tape", "_law_book", "_law_plan"] (defScope s_l_gmore_ways) := ⟨rfl, rfl, rfl, by decide +kernel, rfl, by decide +kernel, by decide +kernel⟩
theorem ok_l_gmore_ways {f : Addr} {fd : FuncData} (T : Txt K mg cl fns) (F : Fun K "_law_gmore_ways" "_law_gmore_ways" s_l_gmore_ways f fd) (hm : mg "_law_gmore_ways" = some (.ref f)) (hb : Binds K fd ["_law_tape", "_law_book", "_law_plan"] []) (c_l_gbent_end : Cal (gT K cl fns) P w K mg base 4 "_law_gbent_end" 2 m_l_gbent_end) (c_l_gdraw : Cal (gT K cl fns) P w K mg base 3 "_law_gdraw" 2 m_l_gdraw) (c_l_gall : Cal (gT K cl fns) P w K mg base 13 "_law_gall" 1 (m_l_gall 12)) : ∀ n, Cal (gT K cl fns) P w K mg base (14 + n) "_law_gmore_ways" 3 (m_l_gmore_ways n)
  | 0 => cal_zero F hm hb sc_l_gmore_ways
  | n + 1 => cal_mk F hm hb (show FnOk P w K mg base (L2.CX P w) (14 + n + 1) f fd ["_law_tape", "_law_book", "_law_plan"] (spM (gT K cl fns) 3 (m_l_gmore_ways (n + 1))) from fn_ok F sc_l_gmore_ways fun cdv A outer s H E hr tk hp =>
    have nd := sc_l_gmore_ways.nd
    have ih := ok_l_gmore_ways T F hm hb c_l_gbent_end c_l_gdraw c_l_gall n
    (sp_cons (sp_if (sb_eq hr.units (se_sub_ (se_var (i := 2) rfl rfl (.inl rfl)) (se_int rfl)) (se_str rfl)) (sp_one (sp_ret (se_callC tk c_l_gbent_end (hr.mono (by omega)) (by rfl) (sa_cons (se_var (i := 0) rfl rfl (.inl rfl)) (sa_cons (se_var (i := 2) rfl rfl (.inl rfl)) (sa_nil rfl)))))) (sp_nil rfl))
    (sp_cons (sp_asg (se_var (i := 2) rfl rfl (.inl rfl)) (pg_tup rfl (pgs_cons (pg_name (i := 3) nd rfl (.inl rfl)) (pgs_cons (pg_name (i := 4) nd rfl (.inl rfl)) (pgs_cons (pg_name (i := 5) nd rfl (.inl rfl)) pgs_nil)))) (og_tup rfl (ogs_cons og_name (ogs_cons og_name (ogs_cons og_name ogs_nil)))))
    (sp_cons (sp_set (i := 6) (se_callC tk c_l_gdraw (hr.mono (by omega)) (by rfl) (sa_cons (se_var (i := 0) rfl rfl (.inl rfl)) (sa_cons (se_len (by rfl) T.b_len (sa_cons (se_var (i := 5) rfl rfl (.inl rfl)) (sa_nil rfl))) (sa_nil rfl)))) nd rfl (.inl rfl))
    (sp_cons (sp_if (sb_w (sbw_and (sb_eq hr.units (se_sub_ (se_sub_ (se_sub_ (se_var (i := 5) rfl rfl (.inl rfl)) (se_var (i := 6) rfl rfl (.inl rfl))) (se_int rfl)) (se_int rfl)) (se_str rfl)) (sbw_and1 (sb_eq hr.units (se_callC tk c_l_gdraw (hr.mono (by omega)) (by rfl) (sa_cons (se_var (i := 0) rfl rfl (.inl rfl)) (sa_cons (se_int rfl) (sa_nil rfl)))) (se_int rfl))))) (sp_cons (sp_setS (i := 7) (se_tup (si_cons (se_sub_ (se_sub_ (se_var (i := 5) rfl rfl (.inl rfl)) (se_var (i := 6) rfl rfl (.inl rfl))) (se_int rfl)) (si_cons (se_callC tk ih hr (by rfl) (sa_cons (se_var (i := 0) rfl rfl (.inl rfl)) (sa_cons (se_var (i := 1) rfl rfl (.inl rfl)) (sa_cons (se_sub_ (se_sub_ (se_var (i := 5) rfl rfl (.inl rfl)) (se_var (i := 6) rfl rfl (.inl rfl))) (se_int rfl)) (sa_nil rfl))))) (si_nil rfl)))) nd rfl (.inl rfl))
    (sp_one (sp_ret (se_tup (si_cons (se_var (i := 3) rfl rfl (.inl rfl)) (si_cons (se_var (i := 4) rfl rfl (.inl rfl)) (si_cons (se_add (se_add (se_sl (se_var (i := 5) rfl rfl (.inl rfl)) so_no (so_some (se_var (i := 6) rfl rfl (.inl rfl)))) (se_tup (si_cons (se_var (i := 7) rfl rfl (.inl rfl)) (si_nil rfl)))) (se_sl (se_var (i := 5) rfl rfl (.inl rfl)) (so_some (se_add (se_var (i := 6) rfl rfl (.inl rfl)) (se_int rfl))) so_no)) (si_nil rfl)))))))) (sp_nil rfl))
    (sp_cons (sp_set (i := 8) (se_dictT rfl (by rfl) T.b_dict (se_var (i := 5) rfl rfl (.inl rfl))) nd rfl (.inr rfl))
    (sp_cons (sp_setLc (i := 9) (own := [("_law_box", 11)]) (ix := [11]) (g := (gName 11)) rfl nd rfl rfl (sw_true rfl rfl rfl (by decide +kernel)) (sc_rng1 (sa_cons (se_add (se_min rfl (by rfl) T.b_min (sa_cons (se_sub_ (se_var (i := 1) rfl rfl (.inl rfl)) (se_int rfl)) (sa_cons (se_int rfl) (sa_nil rfl)))) (se_int rfl)) (sa_nil rfl)) (by rfl) T.b_range) (blkOk_by (own := [("_law_box", 11)]) (by kernel_rfl)) (by decide) (fun _ _ _ _ _ => (pg_name (i := 11) nd rfl (.inl rfl))) og_name (fun _ _ _ _ _ => (sts_one (sb_dninK hr (se_var (i := 11) rfl rfl (.inl rfl)) (se_var (i := 8) rfl rfl (.inr (.inl rfl)))))) (fun _ _ _ _ _ => (se_var (i := 11) rfl rfl (.inl rfl))))
    (sp_cons (sp_if (sb_eq hr.units (se_callC tk c_l_gdraw (hr.mono (by omega)) (by rfl) (sa_cons (se_var (i := 0) rfl rfl (.inl rfl)) (sa_cons (se_int rfl) (sa_nil rfl)))) (se_int rfl)) (sp_one (sp_set (i := 9) (se_lst (si_cons (se_sub_ (se_var (i := 9) rfl rfl (.inl rfl)) (se_callC tk c_l_gdraw (hr.mono (by omega)) (by rfl) (sa_cons (se_var (i := 0) rfl rfl (.inl rfl)) (sa_cons (se_len (by rfl) T.b_len (sa_cons (se_var (i := 9) rfl rfl (.inl rfl)) (sa_nil rfl))) (sa_nil rfl))))) (si_nil rfl))) nd rfl (.inl rfl))) (sp_nil rfl))
    (sp_cons (sp_setS (i := 10) (se_sub_ (se_lst (si_cons (se_tup (si_cons (se_str rfl) (si_cons (se_tup (si_nil rfl)) (si_nil rfl)))) (si_cons (se_tup (si_cons (se_str rfl) (si_cons (se_sl (se_callC tk c_l_gall (hr.mono (by omega)) (by rfl) (sa_cons (se_var (i := 2) rfl rfl (.inl rfl)) (sa_nil rfl))) so_no (so_some (se_int rfl))) (si_nil rfl)))) (si_cons (se_var (i := 2) rfl rfl (.inl rfl)) (si_nil rfl))))) (se_callC tk c_l_gdraw (hr.mono (by omega)) (by rfl) (sa_cons (se_var (i := 0) rfl rfl (.inl rfl)) (sa_cons (se_int rfl) (sa_nil rfl))))) nd rfl (.inr rfl))
    (sp_one (sp_ret (se_tup (si_cons (se_var (i := 3) rfl rfl (.inl rfl)) (si_cons (se_var (i := 4) rfl rfl (.inl rfl)) (si_cons (se_tuple (by rfl) T.b_tuple (sa_cons (se_sortTP hr rfl (by rfl) T.b_sorted (se_add (se_var (i := 5) rfl rfl (.inl rfl)) (se_tuple (by rfl) T.b_tuple (sa_cons (se_lc (own := [("_law_box", 11)]) (ix := [11]) (g := (gName 11)) rfl nd (si_seq (sq_c (se_var (i := 9) rfl rfl (.inl rfl)))) (blkOk_by (own := [("_law_box", 11)]) (by kernel_rfl)) (by decide) (fun _ _ _ _ _ => (pg_name (i := 11) nd rfl (.inl rfl))) og_name (fun _ _ _ _ _ => (sts_nil rfl)) (fun _ _ _ _ _ => (se_tup (si_cons (se_var (i := 11) rfl rfl (.inl rfl)) (si_cons (se_var (i := 10) rfl rfl (.inr (.inl rfl))) (si_nil rfl)))))) (sa_nil rfl))))) (sa_nil rfl))) (si_nil rfl))))))))))))))))
abbrev s_l_gtwice : Stmt := topS 26
theorem sc_l_gtwice : FnScope ["_law_tape", "_law_book", "_law_plan", "_law_word", "_law_x", "_law_ways", "_law_found", "_law_box", "_law_inner"] ["_law_tape", "_law_book", "_law_plan"] (defScope s_l_gtwice) := ⟨rfl, rfl, rfl, by decide +kernel, rfl, by decide +kernel, by decide +kernel⟩
theorem ok_l_gtwice {f : Addr} {fd : FuncData} (T : Txt K mg cl fns) (F : Fun K "_law_gtwice" "_law_gtwice" s_l_gtwice f fd) (hm : mg "_law_gtwice" = some (.ref f)) (hb : Binds K fd ["_law_tape", "_law_book", "_law_plan"] []) (c_l_gbent_end : Cal (gT K cl fns) P w K mg base 4 "_law_gbent_end" 2 m_l_gbent_end) (c_l_gbent : Cal (gT K cl fns) P w K mg base 26 "_law_gbent" 3 (m_l_gbent 12)) : Cal (gT K cl fns) P w K mg base 27 "_law_gtwice" 3 (m_l_gtwice) :=
  cal_mk F hm hb (fn_ok F sc_l_gtwice fun cdv A outer s H E hr tk hp =>
    have nd := sc_l_gtwice.nd
    (sp_cons (sp_if (sb_eq hr.units (se_sub_ (se_var (i := 2) rfl rfl (.inl rfl)) (se_int rfl)) (se_str rfl)) (sp_one (sp_ret (se_callC tk c_l_gbent_end (hr.mono (by omega)) (by rfl) (sa_cons (se_var (i := 0) rfl rfl (.inr (.inl rfl))) (sa_cons (se_var (i := 2) rfl rfl (.inl rfl)) (sa_nil rfl)))))) (sp_nil rfl))
    (sp_cons (sp_asg (se_var (i := 2) rfl rfl (.inl rfl)) (pg_tup rfl (pgs_cons (pg_name (i := 3) nd rfl (.inl rfl)) (pgs_cons (pg_name (i := 4) nd rfl (.inl rfl)) (pgs_cons (pg_name (i := 5) nd rfl (.inl rfl)) pgs_nil)))) (og_tup rfl (ogs_cons og_name (ogs_cons og_name (ogs_cons og_name ogs_nil)))))
    (sp_cons (sp_setLc (i := 6) (own := [("_law_box", 7), ("_law_inner", 8)]) (ix := [7, 8]) (g := (gTup K 2 (gCons (gName 7) (gCons (gName 8) gNil)))) rfl nd rfl rfl (sw_true rfl rfl rfl (by decide +kernel)) (si_seq (sq_c (se_sl (se_var (i := 5) rfl rfl (.inl rfl)) so_no (so_some (se_int rfl))))) (blkOk_by (own := [("_law_box", 7), ("_law_inner", 8)]) (by kernel_rfl)) (by decide) (fun _ _ _ _ _ => (pg_tup rfl (pgs_cons (pg_name (i := 7) nd rfl (.inl rfl)) (pgs_cons (pg_name (i := 8) nd rfl (.inl rfl)) pgs_nil)))) (og_tup rfl (ogs_cons og_name (ogs_cons og_name ogs_nil))) (fun _ _ _ _ _ => (sts_nil rfl)) (fun _ _ _ _ _ => (se_tup (si_cons (se_var (i := 7) rfl rfl (.inl rfl)) (si_cons (se_callC takes0 c_l_gbent (hr.mono (by omega)) (by rfl) (sa_cons (se_var (i := 0) rfl rfl (.inr (.inl rfl))) (sa_cons (se_var (i := 1) rfl rfl (.inr (.inl rfl))) (sa_cons (se_var (i := 8) rfl rfl (.inl rfl)) (sa_nil rfl))))) (si_nil rfl))))))
    (sp_one (sp_ret (se_tup (si_cons (se_var (i := 3) rfl rfl (.inl rfl)) (si_cons (se_var (i := 4) rfl rfl (.inl rfl)) (si_cons (se_add (se_tuple (by rfl) T.b_tuple (sa_cons (se_var (i := 6) rfl rfl (.inl rfl)) (sa_nil rfl))) (se_sl (se_var (i := 5) rfl rfl (.inl rfl)) (so_some (se_int rfl)) so_no)) (si_nil rfl)))))))))))
abbrev s_l_gspread : Stmt := topS 27
theorem sc_l_gspread : FnScope ["_law_tape", "_law_book", "_law_by", "_law_boxes", "_law_box", "_law_row"] ["_law_tape", "_law_book"] (defScope s_l_gspread) := ⟨rfl, rfl, rfl, by decide +kernel, rfl, by decide +kernel, by decide +kernel⟩
theorem ok_l_gspread {f : Addr} {fd : FuncData} (T : Txt K mg cl fns) (F : Fun K "_law_gspread" "_law_gspread" s_l_gspread f fd) (hm : mg "_law_gspread" = some (.ref f)) (hb : Binds K fd ["_law_tape", "_law_book"] []) (c_l_gdraw : Cal (gT K cl fns) P w K mg base 3 "_law_gdraw" 2 m_l_gdraw) : Cal (gT K cl fns) P w K mg base 4 "_law_gspread" 2 (m_l_gspread) :=
  cal_mk F hm hb (fn_ok F sc_l_gspread fun cdv A outer s H E hr tk hp =>
    have nd := sc_l_gspread.nd
    (sp_cons (sp_set (i := 2) (se_sub_ (se_lst (si_cons (se_int rfl) (si_cons (se_int rfl) (si_cons (se_int rfl) (si_cons (se_int rfl) (si_nil rfl)))))) (se_callC tk c_l_gdraw (hr.mono (by omega)) (by rfl) (sa_cons (se_var (i := 0) rfl rfl (.inr (.inl rfl))) (sa_cons (se_int rfl) (sa_nil rfl))))) nd rfl (.inr rfl))
    (sp_cons (sp_set (i := 3) (se_lc (own := [("_law_box", 4)]) (ix := [4]) (g := (gName 4)) rfl nd (sc_rng1 (sa_cons (se_sub_ (se_var (i := 1) rfl rfl (.inl rfl)) (se_int rfl)) (sa_nil rfl)) (by rfl) T.b_range) (blkOk_by (own := [("_law_box", 4)]) (by kernel_rfl)) (by decide) (fun _ _ _ _ _ => (pg_name (i := 4) nd rfl (.inl rfl))) og_name (fun _ _ _ _ _ => (sts_nil rfl)) (fun _ _ _ _ _ => (se_add (se_mul (se_var (i := 4) rfl rfl (.inl rfl)) (se_var (i := 2) rfl rfl (.inr (.inl rfl)))) (se_callC takes0 c_l_gdraw (hr.mono (by omega)) (by rfl) (sa_cons (se_var (i := 0) rfl rfl (.inr (.inl rfl))) (sa_cons (se_var (i := 2) rfl rfl (.inr (.inl rfl))) (sa_nil rfl))))))) nd rfl (.inr rfl))
    (sp_one (sp_ret (se_tup (si_cons (se_mul (se_sub_ (se_var (i := 1) rfl rfl (.inl rfl)) (se_int rfl)) (se_var (i := 2) rfl rfl (.inr (.inl rfl)))) (si_cons (se_tuple (by rfl) T.b_tuple (sa_cons (se_lc (own := [("_law_row", 5)]) (ix := [5]) (g := (gName 5)) rfl nd (si_seq (sq_c (se_sub_ (se_var (i := 1) rfl rfl (.inl rfl)) (se_int rfl)))) (blkOk_by (own := [("_law_row", 5)]) (by kernel_rfl)) (by decide) (fun _ _ _ _ _ => (pg_name (i := 5) nd rfl (.inl rfl))) og_name (fun _ _ _ _ _ => (sts_nil rfl)) (fun _ _ _ _ _ => (se_tuple (by rfl) T.b_tuple (sa_cons (se_lc (own := [("_law_box", 4)]) (ix := [4]) (g := (gName 4)) rfl nd (si_seq (sq_c (se_var (i := 5) rfl rfl (.inl rfl)))) (blkOk_by (own := [("_law_box", 4)]) (by kernel_rfl)) (by decide) (fun _ _ _ _ _ => (pg_name (i := 4) nd rfl (.inl rfl))) og_name (fun _ _ _ _ _ => (sts_nil rfl)) (fun _ _ _ _ _ => (se_sub_ (se_var (i := 3) rfl rfl (.inr (.inl rfl))) (se_var (i := 4) rfl rfl (.inl rfl))))) (sa_nil rfl))))) (sa_nil rfl))) (si_nil rfl)))))))))
abbrev s_l_glone_right : Stmt := topS 28
theorem sc_l_glone_right : FnScope ["_law_tape", "_law_many", "_law_book", "_law_plan", "_law_k", "_law_thing", "_law_x"] ["_law_tape"] (defScope s_l_glone_right) := ⟨rfl, rfl, rfl, by decide +kernel, rfl, by decide +kernel, by decide +kernel⟩
theorem ok_l_glone_right {f : Addr} {fd : FuncData} (T : Txt K mg cl fns) (F : Fun K "_law_glone_right" "_law_glone_right" s_l_glone_right f fd) (hm : mg "_law_glone_right" = some (.ref f)) (hb : Binds K fd ["_law_tape"] []) (c_l_gdraw : Cal (gT K cl fns) P w K mg base 3 "_law_gdraw" 2 m_l_gdraw) (c_is_asks : Cal (gT K cl fns) P w K mg base 28 "is_asks" 2 m_is_asks) (c_asks_of : Cal (gT K cl fns) P w K mg base 13 "asks_of" 2 (m_asks_of 12)) (c_l_gsame : Cal (gT K cl fns) P w K mg base 13 "_law_gsame" 2 (m_l_gsame 12)) (c_l_gbent : Cal (gT K cl fns) P w K mg base 26 "_law_gbent" 3 (m_l_gbent 12)) (c_l_gis_plan : Cal (gT K cl fns) P w K mg base 26 "_law_gis_plan" 3 (m_l_gis_plan 12)) : Cal (gT K cl fns) P w K mg base 29 "_law_glone_right" 1 (m_l_glone_right) :=
  cal_mk F hm hb (fn_ok F sc_l_glone_right fun cdv A outer s H E hr tk hp =>
    have nd := sc_l_glone_right.nd
    (sp_cons (sp_set (i := 1) (se_add (se_int rfl) (se_callC tk c_l_gdraw (hr.mono (by omega)) (by rfl) (sa_cons (se_var (i := 0) rfl rfl (.inl rfl)) (sa_cons (se_int rfl) (sa_nil rfl))))) nd rfl (.inr rfl))
    (sp_cons (sp_set (i := 2) (se_tup (si_cons (se_int rfl) (si_cons (se_tuple (by rfl) T.b_tuple (sa_cons (se_lc (own := [("_law_k", 4)]) (ix := [4]) (g := (gName 4)) rfl nd (sc_rng1 (sa_cons (se_var (i := 1) rfl rfl (.inr (.inl rfl))) (sa_nil rfl)) (by rfl) T.b_range) (blkOk_by (own := [("_law_k", 4)]) (by kernel_rfl)) (by decide) (fun _ _ _ _ _ => (pg_name (i := 4) nd rfl (.inr rfl))) og_name (fun _ _ _ _ _ => (sts_nil rfl)) (fun _ _ _ _ _ => (se_tuple (by rfl) T.b_tuple (sa_cons (se_lc (own := [("_law_x", 6)]) (ix := [6]) (g := (gName 6)) rfl nd (sc_rng1 (sa_cons (se_sub (se_var (i := 1) rfl rfl (.inr (.inl rfl))) (se_int rfl)) (sa_nil rfl)) (by rfl) T.b_range) (blkOk_by (own := [("_law_x", 6)]) (by kernel_rfl)) (by decide) (fun _ _ _ _ _ => (pg_name (i := 6) nd rfl (.inl rfl))) og_name (fun _ _ _ _ _ => (sts_nil rfl)) (fun _ _ _ _ _ => (se_intc (by rfl) T.b_int (sa_cons (se_eq hr.units (se_var (i := 6) rfl rfl (.inl rfl)) (se_var (i := 4) rfl rfl (.inr (.inl rfl)))) (sa_nil rfl))))) (sa_nil rfl))))) (sa_nil rfl))) (si_nil rfl)))) nd rfl (.inl rfl))
    (sp_cons (sp_setS (i := 3) (se_tup (si_cons (se_str rfl) (si_cons (se_tup (si_cons (se_sub (se_var (i := 1) rfl rfl (.inr (.inl rfl))) (se_int rfl)) (si_nil rfl))) (si_nil rfl)))) nd rfl (.inl rfl))
    (sp_cons (sp_for hp rfl (si_rng3 (sa_cons (se_sub (se_var (i := 1) rfl rfl (.inr (.inl rfl))) (se_int rfl)) (sa_cons (se_neg (se_int rfl)) (sa_cons (se_neg (se_int rfl)) (sa_nil rfl)))) (by rfl) T.b_range) (sg_of (pg_name (i := 4) nd rfl (.inl rfl)) og_name) (sp_one (sp_setS (i := 3) (se_tup (si_cons (se_str rfl) (si_cons (se_var (i := 4) rfl rfl (.inl rfl)) (si_cons (se_tup (si_cons (se_tup (si_cons (se_int rfl) (si_cons (se_var (i := 3) rfl rfl (.inl rfl)) (si_nil rfl)))) (si_cons (se_tup (si_cons (se_int rfl) (si_cons (se_tup (si_cons (se_str rfl) (si_cons (se_tup (si_cons (se_var (i := 4) rfl rfl (.inl rfl)) (si_nil rfl))) (si_nil rfl)))) (si_nil rfl)))) (si_nil rfl)))) (si_nil rfl))))) nd rfl (.inl rfl))))
    (sp_cons (sp_if (sb_w (sbw_or (sb_isntB (se_callC tk c_is_asks (hr.mono (by omega)) (by rfl) (sa_cons (se_var (i := 2) rfl rfl (.inl rfl)) (sa_cons (se_var (i := 3) rfl rfl (.inl rfl)) (sa_nil rfl)))) (se_bl rfl)) (sbw_or1 (sb_not (sb_val (se_callC tk c_l_gsame (hr.mono (by omega)) (by rfl) (sa_cons (se_callC tk c_asks_of (hr.mono (by omega)) (by rfl) (sa_cons (se_var (i := 2) rfl rfl (.inl rfl)) (sa_cons (se_var (i := 3) rfl rfl (.inl rfl)) (sa_nil rfl)))) (sa_cons (se_sub (se_var (i := 1) rfl rfl (.inr (.inl rfl))) (se_int rfl)) (sa_nil rfl))))))))) (sp_one (sp_ret (se_bl rfl))) (sp_nil rfl))
    (sp_cons (sp_set (i := 5) (se_callC tk c_l_gbent (hr.mono (by omega)) (by rfl) (sa_cons (se_var (i := 0) rfl rfl (.inl rfl)) (sa_cons (se_var (i := 2) rfl rfl (.inl rfl)) (sa_cons (se_var (i := 3) rfl rfl (.inl rfl)) (sa_nil rfl))))) nd rfl (.inl rfl))
    (sp_one (sp_ret (se_callC tk c_l_gsame (hr.mono (by omega)) (by rfl) (sa_cons (se_callC tk c_is_asks (hr.mono (by omega)) (by rfl) (sa_cons (se_var (i := 2) rfl rfl (.inl rfl)) (sa_cons (se_var (i := 5) rfl rfl (.inl rfl)) (sa_nil rfl)))) (sa_cons (se_callC tk c_l_gis_plan (hr.mono (by omega)) (by rfl) (sa_cons (se_var (i := 2) rfl rfl (.inl rfl)) (sa_cons (se_tupRg1 rfl (by rfl) T.b_tuple (by rfl) T.b_range (sa_cons (se_var (i := 1) rfl rfl (.inr (.inl rfl))) (sa_nil rfl))) (sa_cons (se_var (i := 5) rfl rfl (.inl rfl)) (sa_nil rfl))))) (sa_nil rfl)))))))))))))
abbrev s_law : Stmt := topS 29
theorem sc_law : FnScope ["_law_script", "_law_tape", "_law_turn", "_law_book", "_law_some", "_law_again", "_law_plan", "_law_things", "_law_thing", "_law_seen", "_law_k"] ["_law_script"] (defScope s_law) := ⟨rfl, rfl, rfl, by decide +kernel, rfl, by decide +kernel, by decide +kernel⟩
theorem ok_law {f : Addr} {fd : FuncData} (T : Txt K mg cl fns) (F : Fun K "law" "law" s_law f fd) (hm : mg "law" = some (.ref f)) (c_l_gbook : Cal (gT K cl fns) P w K mg base 4 "_law_gbook" 4 m_l_gbook) (c_l_gspread : Cal (gT K cl fns) P w K mg base 4 "_law_gspread" 2 m_l_gspread) (c_l_gbuilt : Cal (gT K cl fns) P w K mg base 16 "_law_gbuilt" 3 (m_l_gbuilt 12)) (c_is_asks : Cal (gT K cl fns) P w K mg base 28 "is_asks" 2 m_is_asks) (c_asks_of : Cal (gT K cl fns) P w K mg base 13 "asks_of" 2 (m_asks_of 12)) (c_l_gdeep : Cal (gT K cl fns) P w K mg base 13 "_law_gdeep" 1 (m_l_gdeep 12)) (c_l_gsame : Cal (gT K cl fns) P w K mg base 13 "_law_gsame" 2 (m_l_gsame 12)) (c_l_gbent : Cal (gT K cl fns) P w K mg base 26 "_law_gbent" 3 (m_l_gbent 12)) (c_l_gtwice : Cal (gT K cl fns) P w K mg base 27 "_law_gtwice" 3 m_l_gtwice) (c_l_gmore_ways : Cal (gT K cl fns) P w K mg base 26 "_law_gmore_ways" 3 (m_l_gmore_ways 12)) (c_l_gis_plan : Cal (gT K cl fns) P w K mg base 26 "_law_gis_plan" 3 (m_l_gis_plan 12)) (c_l_glone_right : Cal (gT K cl fns) P w K mg base 29 "_law_glone_right" 1 m_l_glone_right) : FnC P w K mg base 30 f fd ["_law_script"] (spM (gT K cl fns) 1 (m_law)) :=
  fn_okC F sc_law fun cdv s H E hr tk hp =>
    have nd := sc_law.nd
    (sp_cons (sp_setS (i := 1) (se_lst (si_cons (se_list (by rfl) T.b_list (sa_cons (se_sl (se_var (i := 0) rfl rfl (.inl rfl)) so_no (so_some (se_int rfl))) (sa_nil rfl))) (si_cons (se_int rfl) (si_cons (se_int rfl) (si_nil rfl))))) nd rfl (.inr rfl))
    (sp_cons (sp_for hp rfl (si_rng1 (sa_cons (se_int rfl) (sa_nil rfl)) (by rfl) T.b_range) (sg_of (pg_name (i := 2) nd rfl (.inl rfl)) og_name) (sp_cons (sp_set (i := 3) (se_callC tk c_l_gspread (hr.mono (by omega)) (by rfl) (sa_cons (se_var (i := 1) rfl rfl (.inr (.inl rfl))) (sa_cons (se_callC tk c_l_gbook (hr.mono (by omega)) (by rfl) (sa_cons (se_var (i := 1) rfl rfl (.inr (.inl rfl))) (sa_cons (se_int rfl) (sa_cons (se_int rfl) (sa_cons (se_sub_ (se_lst (si_cons (se_int rfl) (si_cons (se_int rfl) (si_cons (se_int rfl) (si_cons (se_int rfl) (si_nil rfl)))))) (se_var (i := 2) rfl rfl (.inl rfl))) (sa_nil rfl)))))) (sa_nil rfl)))) nd rfl (.inr rfl))
    (sp_cons (sp_set (i := 4) (se_tupRg1 rfl (by rfl) T.b_tuple (by rfl) T.b_range (sa_cons (se_len (by rfl) T.b_len (sa_cons (se_sub_ (se_var (i := 3) rfl rfl (.inr (.inl rfl))) (se_int rfl)) (sa_nil rfl))) (sa_nil rfl))) nd rfl (.inl rfl))
    (sp_one (sp_for hp rfl (si_rng1 (sa_cons (se_int rfl) (sa_nil rfl)) (by rfl) T.b_range) (sg_of (pg_name (i := 5) nd rfl (.inl rfl)) og_name) (sp_cons (sp_set (i := 6) (se_callC tk c_l_gbuilt (hr.mono (by omega)) (by rfl) (sa_cons (se_var (i := 1) rfl rfl (.inr (.inl rfl))) (sa_cons (se_var (i := 3) rfl rfl (.inr (.inl rfl))) (sa_cons (se_var (i := 4) rfl rfl (.inl rfl)) (sa_nil rfl))))) nd rfl (.inr rfl))
    (sp_cons (sp_if (sb_w (sbw_or (sb_isntB (se_callC tk c_is_asks (hr.mono (by omega)) (by rfl) (sa_cons (se_var (i := 3) rfl rfl (.inr (.inl rfl))) (sa_cons (se_var (i := 6) rfl rfl (.inr (.inl rfl))) (sa_nil rfl)))) (se_bl rfl)) (sbw_or1 (sb_not (sb_val (se_callC tk c_l_gsame (hr.mono (by omega)) (by rfl) (sa_cons (se_callC tk c_asks_of (hr.mono (by omega)) (by rfl) (sa_cons (se_var (i := 3) rfl rfl (.inr (.inl rfl))) (sa_cons (se_var (i := 6) rfl rfl (.inr (.inl rfl))) (sa_nil rfl)))) (sa_cons (se_callC tk c_l_gdeep (hr.mono (by omega)) (by rfl) (sa_cons (se_var (i := 6) rfl rfl (.inr (.inl rfl))) (sa_nil rfl))) (sa_nil rfl))))))))) (sp_one (sp_ret (se_bl rfl))) (sp_nil rfl))
    (sp_cons (sp_setLc (i := 7) (own := [("_law_k", 10)]) (ix := [10]) (g := (gName 10)) rfl nd rfl rfl (sw_true rfl rfl rfl (by decide +kernel)) (sc_rng1 (sa_cons (se_int rfl) (sa_nil rfl)) (by rfl) T.b_range) (blkOk_by (own := [("_law_k", 10)]) (by kernel_rfl)) (by decide) (fun _ _ _ _ _ => (pg_name (i := 10) nd rfl (.inl rfl))) og_name (fun _ _ _ _ _ => (sts_nil rfl)) (fun _ _ _ _ _ => (se_callC takes0 c_l_gbent (hr.mono (by omega)) (by rfl) (sa_cons (se_var (i := 1) rfl rfl (.inr (.inl rfl))) (sa_cons (se_var (i := 3) rfl rfl (.inr (.inl rfl))) (sa_cons (se_var (i := 6) rfl rfl (.inr (.inl rfl))) (sa_nil rfl)))))))
    (sp_one (sp_for hp rfl (si_seq (sq_e (se_add (se_var (i := 7) rfl rfl (.inl rfl)) (se_lst (si_cons (se_callC tk c_l_gtwice (hr.mono (by omega)) (by rfl) (sa_cons (se_var (i := 1) rfl rfl (.inr (.inl rfl))) (sa_cons (se_var (i := 3) rfl rfl (.inr (.inl rfl))) (sa_cons (se_var (i := 6) rfl rfl (.inr (.inl rfl))) (sa_nil rfl))))) (si_cons (se_callC tk c_l_gmore_ways (hr.mono (by omega)) (by rfl) (sa_cons (se_var (i := 1) rfl rfl (.inr (.inl rfl))) (sa_cons (se_var (i := 3) rfl rfl (.inr (.inl rfl))) (sa_cons (se_var (i := 6) rfl rfl (.inr (.inl rfl))) (sa_nil rfl))))) (si_nil rfl))))))) (sg_of (pg_name (i := 8) nd rfl (.inl rfl)) og_name) (sp_cons (sp_set (i := 9) (se_repr hr.u70 rfl (by rfl) T.b_repr (sa_cons (se_var (i := 8) rfl rfl (.inl rfl)) (sa_nil rfl))) nd rfl (.inl rfl))
    (sp_one (sp_if (sb_w (sbw_or (sb_not (sb_val (se_callC tk c_l_gsame (hr.mono (by omega)) (by rfl) (sa_cons (se_callC tk c_is_asks (hr.mono (by omega)) (by rfl) (sa_cons (se_var (i := 3) rfl rfl (.inr (.inl rfl))) (sa_cons (se_var (i := 8) rfl rfl (.inl rfl)) (sa_nil rfl)))) (sa_cons (se_callC tk c_l_gis_plan (hr.mono (by omega)) (by rfl) (sa_cons (se_var (i := 3) rfl rfl (.inr (.inl rfl))) (sa_cons (se_var (i := 4) rfl rfl (.inl rfl)) (sa_cons (se_var (i := 8) rfl rfl (.inl rfl)) (sa_nil rfl))))) (sa_nil rfl)))))) (sbw_or1 (sb_ne hr.units (se_repr hr.u70 rfl (by rfl) T.b_repr (sa_cons (se_var (i := 8) rfl rfl (.inl rfl)) (sa_nil rfl))) (se_var (i := 9) rfl rfl (.inl rfl)))))) (sp_one (sp_ret (se_bl rfl))) (sp_nil rfl))))))))))))))
    (sp_one (sp_ret (se_callC tk c_l_glone_right (hr.mono (by omega)) (by rfl) (sa_cons (se_var (i := 1) rfl rfl (.inr (.inl rfl))) (sa_nil rfl)))))))
end
theorem all_mk {l : PySem.W.OpenLaw} {w : World} {K : PySem.W.Frag} {h : Heap} {mg : Str → Option Value} {fa f0 f1 f2 f3 f4 f5 f6 f7 f8 f9 f10 f11 f12 f13 f14 f15 f16 f17 f18 f19 f20 f21 f22 f23 f24 f25  : Addr} (X : K.In h) (G : h.Ns mainGlobals mg) (hfa : mg "law" = some (.ref fa))
    {od0 od1 od2 od3 od4 od5 od6 od7 od8 od9 od10 od11 od12 od13 od14 od15 od16 od17 od18 od19 od20 od21 od22 od23 od24 od25 an0 an1 an2 an3 an4 an5 an6 an7 an8 an9 an10 an11 an12 an13 an14 an15 an16 an17 an18 an19 an20 an21 an22 an23 an24 an25 : Option Addr} {sl0 sl1 sl2 sl3 sl4 sl5 sl6 sl7 sl8 sl9 sl10 sl11 sl12 sl13 sl14 sl15 sl16 sl17 sl18 sl19 sl20 sl21 sl22 sl23 sl24 sl25 : Array (Option Value)} {oc0 oc1 oc2 oc3 oc4 oc5 oc6 oc7 oc8 oc9 oc10 oc11 oc12 oc13 oc14 oc15 oc16 oc17 oc18 oc19 oc20 oc21 oc22 oc23 oc24 oc25 kV0 kV1 kV2 kV3 kV4 kV5 kV6 kV7 kV8 kV9 kV10 kV11 kV12 kV13 kV14 kV15 kV16 kV17 kV18 kV19 kV20 kV21 kV22 kV23 kV24 kV25 dc0 dc1 dc2 dc3 dc4 dc5 dc6 dc7 dc8 dc9 dc10 dc11 dc12 dc13 dc14 dc15 dc16 dc17 dc18 dc19 dc20 dc21 dc22 dc23 dc24 dc25 pm0 pm1 pm2 pm3 pm4 pm5 pm6 pm7 pm8 pm9 pm10 pm11 pm12 pm13 pm14 pm15 pm16 pm17 pm18 pm19 pm20 pm21 pm22 pm23 pm24 pm25 cd0 cd1 cd2 cd3 cd4 cd5 cd6 cd7 cd8 cd9 cd10 cd11 cd12 cd13 cd14 cd15 cd16 cd17 cd18 cd19 cd20 cd21 cd22 cd23 cd24 cd25 ct0 ct1 ct2 ct3 ct4 ct5 ct6 ct7 ct8 ct9 ct10 ct11 ct12 ct13 ct14 ct15 ct16 ct17 ct18 ct19 ct20 ct21 ct22 ct23 ct24 ct25 : Value}
    (a0 : PySem.W.nsIn K mainGlobals "is_whole" = some (some (.ref f0))) (l0 : K.lookup f0 = some ⟨oc0, od0, .func (PySem.W.fnOf "is_whole" "is_whole" (defArgs s_is_whole) (defBody s_is_whole) (defScope s_is_whole) .none kV0 dc0 pm0 an0 cd0 ct0), sl0⟩) (c0 : PySem.W.codeIn K cd0 "is_whole" = true) (k0 : PySem.W.keepIn K (.ref f0) = true)
    (a1 : PySem.W.nsIn K mainGlobals "things_of" = some (some (.ref f1))) (l1 : K.lookup f1 = some ⟨oc1, od1, .func (PySem.W.fnOf "things_of" "things_of" (defArgs s_things_of) (defBody s_things_of) (defScope s_things_of) .none kV1 dc1 pm1 an1 cd1 ct1), sl1⟩) (c1 : PySem.W.codeIn K cd1 "things_of" = true) (k1 : PySem.W.keepIn K (.ref f1) = true)
    (a2 : PySem.W.nsIn K mainGlobals "parted_at" = some (some (.ref f2))) (l2 : K.lookup f2 = some ⟨oc2, od2, .func (PySem.W.fnOf "parted_at" "parted_at" (defArgs s_parted_at) (defBody s_parted_at) (defScope s_parted_at) .none kV2 dc2 pm2 an2 cd2 ct2), sl2⟩) (c2 : PySem.W.codeIn K cd2 "parted_at" = true) (k2 : PySem.W.keepIn K (.ref f2) = true)
    (a3 : PySem.W.nsIn K mainGlobals "is_end" = some (some (.ref f3))) (l3 : K.lookup f3 = some ⟨oc3, od3, .func (PySem.W.fnOf "is_end" "is_end" (defArgs s_is_end) (defBody s_is_end) (defScope s_is_end) .none kV3 dc3 pm3 an3 cd3 ct3), sl3⟩) (c3 : PySem.W.codeIn K cd3 "is_end" = true) (k3 : PySem.W.keepIn K (.ref f3) = true)
    (a4 : PySem.W.nsIn K mainGlobals "is_way" = some (some (.ref f4))) (l4 : K.lookup f4 = some ⟨oc4, od4, .func (PySem.W.fnOf "is_way" "is_way" (defArgs s_is_way) (defBody s_is_way) (defScope s_is_way) .none kV4 dc4 pm4 an4 cd4 ct4), sl4⟩) (c4 : PySem.W.codeIn K cd4 "is_way" = true) (k4 : PySem.W.keepIn K (.ref f4) = true)
    (a5 : PySem.W.nsIn K mainGlobals "is_plan" = some (some (.ref f5))) (l5 : K.lookup f5 = some ⟨oc5, od5, .func (PySem.W.fnOf "is_plan" "is_plan" (defArgs s_is_plan) (defBody s_is_plan) (defScope s_is_plan) .none kV5 dc5 pm5 an5 cd5 ct5), sl5⟩) (c5 : PySem.W.codeIn K cd5 "is_plan" = true) (k5 : PySem.W.keepIn K (.ref f5) = true)
    (a6 : PySem.W.nsIn K mainGlobals "is_asks" = some (some (.ref f6))) (l6 : K.lookup f6 = some ⟨oc6, od6, .func (PySem.W.fnOf "is_asks" "is_asks" (defArgs s_is_asks) (defBody s_is_asks) (defScope s_is_asks) .none kV6 dc6 pm6 an6 cd6 ct6), sl6⟩) (c6 : PySem.W.codeIn K cd6 "is_asks" = true) (k6 : PySem.W.keepIn K (.ref f6) = true)
    (a7 : PySem.W.nsIn K mainGlobals "asks_of" = some (some (.ref f7))) (l7 : K.lookup f7 = some ⟨oc7, od7, .func (PySem.W.fnOf "asks_of" "asks_of" (defArgs s_asks_of) (defBody s_asks_of) (defScope s_asks_of) .none kV7 dc7 pm7 an7 cd7 ct7), sl7⟩) (c7 : PySem.W.codeIn K cd7 "asks_of" = true) (k7 : PySem.W.keepIn K (.ref f7) = true)
    (a8 : PySem.W.nsIn K mainGlobals "_law_gprime" = some (some (.ref f8))) (l8 : K.lookup f8 = some ⟨oc8, od8, .func (PySem.W.fnOf "_law_gprime" "_law_gprime" (defArgs s_l_gprime) (defBody s_l_gprime) (defScope s_l_gprime) .none kV8 dc8 pm8 an8 cd8 ct8), sl8⟩) (c8 : PySem.W.codeIn K cd8 "_law_gprime" = true) (k8 : PySem.W.keepIn K (.ref f8) = true)
    (a9 : PySem.W.nsIn K mainGlobals "_law_gfresh" = some (some (.ref f9))) (l9 : K.lookup f9 = some ⟨oc9, od9, .func (PySem.W.fnOf "_law_gfresh" "_law_gfresh" (defArgs s_l_gfresh) (defBody s_l_gfresh) (defScope s_l_gfresh) .none kV9 dc9 pm9 an9 cd9 ct9), sl9⟩) (c9 : PySem.W.codeIn K cd9 "_law_gfresh" = true) (k9 : PySem.W.keepIn K (.ref f9) = true)
    (a10 : PySem.W.nsIn K mainGlobals "_law_gdraw" = some (some (.ref f10))) (l10 : K.lookup f10 = some ⟨oc10, od10, .func (PySem.W.fnOf "_law_gdraw" "_law_gdraw" (defArgs s_l_gdraw) (defBody s_l_gdraw) (defScope s_l_gdraw) .none kV10 dc10 pm10 an10 cd10 ct10), sl10⟩) (c10 : PySem.W.codeIn K cd10 "_law_gdraw" = true) (k10 : PySem.W.keepIn K (.ref f10) = true)
    (a11 : PySem.W.nsIn K mainGlobals "_law_gbook" = some (some (.ref f11))) (l11 : K.lookup f11 = some ⟨oc11, od11, .func (PySem.W.fnOf "_law_gbook" "_law_gbook" (defArgs s_l_gbook) (defBody s_l_gbook) (defScope s_l_gbook) .none kV11 dc11 pm11 an11 cd11 ct11), sl11⟩) (c11 : PySem.W.codeIn K cd11 "_law_gbook" = true) (k11 : PySem.W.keepIn K (.ref f11) = true)
    (a12 : PySem.W.nsIn K mainGlobals "_law_gsame" = some (some (.ref f12))) (l12 : K.lookup f12 = some ⟨oc12, od12, .func (PySem.W.fnOf "_law_gsame" "_law_gsame" (defArgs s_l_gsame) (defBody s_l_gsame) (defScope s_l_gsame) .none kV12 dc12 pm12 an12 cd12 ct12), sl12⟩) (c12 : PySem.W.codeIn K cd12 "_law_gsame" = true) (k12 : PySem.W.keepIn K (.ref f12) = true)
    (a13 : PySem.W.nsIn K mainGlobals "_law_galike" = some (some (.ref f13))) (l13 : K.lookup f13 = some ⟨oc13, od13, .func (PySem.W.fnOf "_law_galike" "_law_galike" (defArgs s_l_galike) (defBody s_l_galike) (defScope s_l_galike) .none kV13 dc13 pm13 an13 cd13 ct13), sl13⟩) (c13 : PySem.W.codeIn K cd13 "_law_galike" = true) (k13 : PySem.W.keepIn K (.ref f13) = true)
    (a14 : PySem.W.nsIn K mainGlobals "_law_gparted" = some (some (.ref f14))) (l14 : K.lookup f14 = some ⟨oc14, od14, .func (PySem.W.fnOf "_law_gparted" "_law_gparted" (defArgs s_l_gparted) (defBody s_l_gparted) (defScope s_l_gparted) .none kV14 dc14 pm14 an14 cd14 ct14), sl14⟩) (c14 : PySem.W.codeIn K cd14 "_law_gparted" = true) (k14 : PySem.W.keepIn K (.ref f14) = true)
    (a15 : PySem.W.nsIn K mainGlobals "_law_gis_plan" = some (some (.ref f15))) (l15 : K.lookup f15 = some ⟨oc15, od15, .func (PySem.W.fnOf "_law_gis_plan" "_law_gis_plan" (defArgs s_l_gis_plan) (defBody s_l_gis_plan) (defScope s_l_gis_plan) .none kV15 dc15 pm15 an15 cd15 ct15), sl15⟩) (c15 : PySem.W.codeIn K cd15 "_law_gis_plan" = true) (k15 : PySem.W.keepIn K (.ref f15) = true)
    (a16 : PySem.W.nsIn K mainGlobals "_law_gdeep" = some (some (.ref f16))) (l16 : K.lookup f16 = some ⟨oc16, od16, .func (PySem.W.fnOf "_law_gdeep" "_law_gdeep" (defArgs s_l_gdeep) (defBody s_l_gdeep) (defScope s_l_gdeep) .none kV16 dc16 pm16 an16 cd16 ct16), sl16⟩) (c16 : PySem.W.codeIn K cd16 "_law_gdeep" = true) (k16 : PySem.W.keepIn K (.ref f16) = true)
    (a17 : PySem.W.nsIn K mainGlobals "_law_gbuilt" = some (some (.ref f17))) (l17 : K.lookup f17 = some ⟨oc17, od17, .func (PySem.W.fnOf "_law_gbuilt" "_law_gbuilt" (defArgs s_l_gbuilt) (defBody s_l_gbuilt) (defScope s_l_gbuilt) .none kV17 dc17 pm17 an17 cd17 ct17), sl17⟩) (c17 : PySem.W.codeIn K cd17 "_law_gbuilt" = true) (k17 : PySem.W.keepIn K (.ref f17) = true)
    (a18 : PySem.W.nsIn K mainGlobals "_law_gbent_end" = some (some (.ref f18))) (l18 : K.lookup f18 = some ⟨oc18, od18, .func (PySem.W.fnOf "_law_gbent_end" "_law_gbent_end" (defArgs s_l_gbent_end) (defBody s_l_gbent_end) (defScope s_l_gbent_end) .none kV18 dc18 pm18 an18 cd18 ct18), sl18⟩) (c18 : PySem.W.codeIn K cd18 "_law_gbent_end" = true) (k18 : PySem.W.keepIn K (.ref f18) = true)
    (a19 : PySem.W.nsIn K mainGlobals "_law_gall" = some (some (.ref f19))) (l19 : K.lookup f19 = some ⟨oc19, od19, .func (PySem.W.fnOf "_law_gall" "_law_gall" (defArgs s_l_gall) (defBody s_l_gall) (defScope s_l_gall) .none kV19 dc19 pm19 an19 cd19 ct19), sl19⟩) (c19 : PySem.W.codeIn K cd19 "_law_gall" = true) (k19 : PySem.W.keepIn K (.ref f19) = true)
    (a20 : PySem.W.nsIn K mainGlobals "_law_gbent" = some (some (.ref f20))) (l20 : K.lookup f20 = some ⟨oc20, od20, .func (PySem.W.fnOf "_law_gbent" "_law_gbent" (defArgs s_l_gbent) (defBody s_l_gbent) (defScope s_l_gbent) .none kV20 dc20 pm20 an20 cd20 ct20), sl20⟩) (c20 : PySem.W.codeIn K cd20 "_law_gbent" = true) (k20 : PySem.W.keepIn K (.ref f20) = true)
    (a21 : PySem.W.nsIn K mainGlobals "_law_gmore_ways" = some (some (.ref f21))) (l21 : K.lookup f21 = some ⟨oc21, od21, .func (PySem.W.fnOf "_law_gmore_ways" "_law_gmore_ways" (defArgs s_l_gmore_ways) (defBody s_l_gmore_ways) (defScope s_l_gmore_ways) .none kV21 dc21 pm21 an21 cd21 ct21), sl21⟩) (c21 : PySem.W.codeIn K cd21 "_law_gmore_ways" = true) (k21 : PySem.W.keepIn K (.ref f21) = true)
    (a22 : PySem.W.nsIn K mainGlobals "_law_gtwice" = some (some (.ref f22))) (l22 : K.lookup f22 = some ⟨oc22, od22, .func (PySem.W.fnOf "_law_gtwice" "_law_gtwice" (defArgs s_l_gtwice) (defBody s_l_gtwice) (defScope s_l_gtwice) .none kV22 dc22 pm22 an22 cd22 ct22), sl22⟩) (c22 : PySem.W.codeIn K cd22 "_law_gtwice" = true) (k22 : PySem.W.keepIn K (.ref f22) = true)
    (a23 : PySem.W.nsIn K mainGlobals "_law_gspread" = some (some (.ref f23))) (l23 : K.lookup f23 = some ⟨oc23, od23, .func (PySem.W.fnOf "_law_gspread" "_law_gspread" (defArgs s_l_gspread) (defBody s_l_gspread) (defScope s_l_gspread) .none kV23 dc23 pm23 an23 cd23 ct23), sl23⟩) (c23 : PySem.W.codeIn K cd23 "_law_gspread" = true) (k23 : PySem.W.keepIn K (.ref f23) = true)
    (a24 : PySem.W.nsIn K mainGlobals "_law_glone_right" = some (some (.ref f24))) (l24 : K.lookup f24 = some ⟨oc24, od24, .func (PySem.W.fnOf "_law_glone_right" "_law_glone_right" (defArgs s_l_glone_right) (defBody s_l_glone_right) (defScope s_l_glone_right) .none kV24 dc24 pm24 an24 cd24 ct24), sl24⟩) (c24 : PySem.W.codeIn K cd24 "_law_glone_right" = true) (k24 : PySem.W.keepIn K (.ref f24) = true)
    (a25 : PySem.W.nsIn K mainGlobals "law" = some (some (.ref f25))) (l25 : K.lookup f25 = some ⟨oc25, od25, .func (PySem.W.fnOf "law" "law" (defArgs s_law) (defBody s_law) (defScope s_law) .none kV25 dc25 pm25 an25 cd25 ct25), sl25⟩) (c25 : PySem.W.codeIn K cd25 "law" = true) (k25 : PySem.W.keepIn K (.ref f25) = true)
    (z0 : PySem.W.nsIn K mainGlobals "all" = some none) (z1 : PySem.W.nsIn K mainGlobals "bool" = some none) (z2 : PySem.W.nsIn K mainGlobals "dict" = some none) (z3 : PySem.W.nsIn K mainGlobals "int" = some none) (z4 : PySem.W.nsIn K mainGlobals "isinstance" = some none) (z5 : PySem.W.nsIn K mainGlobals "len" = some none) (z6 : PySem.W.nsIn K mainGlobals "list" = some none) (z7 : PySem.W.nsIn K mainGlobals "max" = some none) (z8 : PySem.W.nsIn K mainGlobals "min" = some none) (z9 : PySem.W.nsIn K mainGlobals "range" = some none) (z10 : PySem.W.nsIn K mainGlobals "repr" = some none) (z11 : PySem.W.nsIn K mainGlobals "set" = some none) (z12 : PySem.W.nsIn K mainGlobals "sorted" = some none) (z13 : PySem.W.nsIn K mainGlobals "str" = some none) (z14 : PySem.W.nsIn K mainGlobals "tuple" = some none) (z15 : PySem.W.nsIn K mainGlobals "zip" = some none) :
    ∃ (cl fns : List Addr) (fd : FuncData), (∀ (s : Shared) (v : Value), BindsTo s fd ⟨[v], []⟩ [("_law_script", v)]) ∧ ∀ base : Heap, K.In base → base.Ns mainGlobals mg → FnC l.prog w K mg base 30 fa fd ["_law_script"] (spM (gT K cl fns) 1 m_law) := by
  have e := hfa.symm.trans (PySem.W.mg_of X G a25)
  cases e
  have T : Txt K mg [] [] := ⟨PySem.W.mg_none_of X G z0,
    PySem.W.mg_none_of X G z1,
    PySem.W.mg_none_of X G z2,
    PySem.W.mg_none_of X G z3,
    PySem.W.mg_none_of X G z4,
    PySem.W.mg_none_of X G z5,
    PySem.W.mg_none_of X G z6,
    PySem.W.mg_none_of X G z7,
    PySem.W.mg_none_of X G z8,
    PySem.W.mg_none_of X G z9,
    PySem.W.mg_none_of X G z10,
    PySem.W.mg_none_of X G z11,
    PySem.W.mg_none_of X G z12,
    PySem.W.mg_none_of X G z13,
    PySem.W.mg_none_of X G z14,
    PySem.W.mg_none_of X G z15⟩
  have F0 := fun_mk (st := s_is_whole) l0 c0 k0
  have B0 := F0.binds (ps := ["thing"]) fun _ _ _ _ _ _ us hl => match us, hl with | [_], _ => rfl
  have F1 := fun_mk (st := s_things_of) l1 c1 k1
  have B1 := F1.binds (ps := ["book"]) fun _ _ _ _ _ _ us hl => match us, hl with | [_], _ => rfl
  have F2 := fun_mk (st := s_parted_at) l2 c2 k2
  have B2 := F2.binds (ps := ["book", "some", "x"]) fun _ _ _ _ _ _ us hl => match us, hl with | [_, _, _], _ => rfl
  have F3 := fun_mk (st := s_is_end) l3 c3 k3
  have B3 := F3.binds (ps := ["book", "some", "thing"]) fun _ _ _ _ _ _ us hl => match us, hl with | [_, _, _], _ => rfl
  have F4 := fun_mk (st := s_is_way) l4 c4 k4
  have B4 := F4.binds (ps := ["book", "box", "others", "thing"]) fun _ _ _ _ _ _ us hl => match us, hl with | [_, _, _, _], _ => rfl
  have F5 := fun_mk (st := s_is_plan) l5 c5 k5
  have B5 := F5.binds (ps := ["book", "some", "thing"]) fun _ _ _ _ _ _ us hl => match us, hl with | [_, _, _], _ => rfl
  have F6 := fun_mk (st := s_is_asks) l6 c6 k6
  have B6 := F6.binds (ps := ["book", "thing"]) fun _ _ _ _ _ _ us hl => match us, hl with | [_, _], _ => rfl
  have F7 := fun_mk (st := s_asks_of) l7 c7 k7
  have B7 := F7.binds (ps := ["book", "plan"]) fun _ _ _ _ _ _ us hl => match us, hl with | [_, _], _ => rfl
  have F8 := fun_mk (st := s_l_gprime) l8 c8 k8
  have B8 := F8.binds (ps := ["_law_at"]) fun _ _ _ _ _ _ us hl => match us, hl with | [_], _ => rfl
  have F9 := fun_mk (st := s_l_gfresh) l9 c9 k9
  have B9 := F9.binds (ps := ["_law_tape"]) fun _ _ _ _ _ _ us hl => match us, hl with | [_], _ => rfl
  have F10 := fun_mk (st := s_l_gdraw) l10 c10 k10
  have B10 := F10.binds (ps := ["_law_tape", "_law_many"]) fun _ _ _ _ _ _ us hl => match us, hl with | [_, _], _ => rfl
  have F11 := fun_mk (st := s_l_gbook) l11 c11 k11
  have B11 := F11.binds (ps := ["_law_tape", "_law_boxes", "_law_things", "_law_rows"]) fun _ _ _ _ _ _ us hl => match us, hl with | [_, _, _, _], _ => rfl
  have F12 := fun_mk (st := s_l_gsame) l12 c12 k12
  have B12 := F12.binds (ps := ["_law_found", "_law_due"]) fun _ _ _ _ _ _ us hl => match us, hl with | [_, _], _ => rfl
  have F13 := fun_mk (st := s_l_galike) l13 c13 k13
  have B13 := F13.binds (ps := ["_law_book", "_law_some"]) fun _ _ _ _ _ _ us hl => match us, hl with | [_, _], _ => rfl
  have F14 := fun_mk (st := s_l_gparted) l14 c14 k14
  have B14 := F14.binds (ps := ["_law_book", "_law_some", "_law_x"]) fun _ _ _ _ _ _ us hl => match us, hl with | [_, _, _], _ => rfl
  have F15 := fun_mk (st := s_l_gis_plan) l15 c15 k15
  have B15 := F15.binds (ps := ["_law_book", "_law_some", "_law_thing"]) fun _ _ _ _ _ _ us hl => match us, hl with | [_, _, _], _ => rfl
  have F16 := fun_mk (st := s_l_gdeep) l16 c16 k16
  have B16 := F16.binds (ps := ["_law_plan"]) fun _ _ _ _ _ _ us hl => match us, hl with | [_], _ => rfl
  have F17 := fun_mk (st := s_l_gbuilt) l17 c17 k17
  have B17 := F17.binds (ps := ["_law_tape", "_law_book", "_law_some"]) fun _ _ _ _ _ _ us hl => match us, hl with | [_, _, _], _ => rfl
  have F18 := fun_mk (st := s_l_gbent_end) l18 c18 k18
  have B18 := F18.binds (ps := ["_law_tape", "_law_plan"]) fun _ _ _ _ _ _ us hl => match us, hl with | [_, _], _ => rfl
  have F19 := fun_mk (st := s_l_gall) l19 c19 k19
  have B19 := F19.binds (ps := ["_law_plan"]) fun _ _ _ _ _ _ us hl => match us, hl with | [_], _ => rfl
  have F20 := fun_mk (st := s_l_gbent) l20 c20 k20
  have B20 := F20.binds (ps := ["_law_tape", "_law_book", "_law_plan"]) fun _ _ _ _ _ _ us hl => match us, hl with | [_, _, _], _ => rfl
  have F21 := fun_mk (st := s_l_gmore_ways) l21 c21 k21
  have B21 := F21.binds (ps := ["_law_tape", "_law_book", "_law_plan"]) fun _ _ _ _ _ _ us hl => match us, hl with | [_, _, _], _ => rfl
  have F22 := fun_mk (st := s_l_gtwice) l22 c22 k22
  have B22 := F22.binds (ps := ["_law_tape", "_law_book", "_law_plan"]) fun _ _ _ _ _ _ us hl => match us, hl with | [_, _, _], _ => rfl
  have F23 := fun_mk (st := s_l_gspread) l23 c23 k23
  have B23 := F23.binds (ps := ["_law_tape", "_law_book"]) fun _ _ _ _ _ _ us hl => match us, hl with | [_, _], _ => rfl
  have F24 := fun_mk (st := s_l_glone_right) l24 c24 k24
  have B24 := F24.binds (ps := ["_law_tape"]) fun _ _ _ _ _ _ us hl => match us, hl with | [_], _ => rfl
  have F25 := fun_mk (st := s_law) l25 c25 k25
  refine ⟨[], [], PySem.W.fnOf "law" "law" (defArgs s_law) (defBody s_law) (defScope s_law) .none kV25 dc25 pm25 an25 cd25 ct25, fun s v => .of_eq rfl, fun base _ _ => ?_⟩
  have E0 := ok_is_whole (P := l.prog) (w := w) (base := base) T F0 (PySem.W.mg_of X G a0) B0 
  have E1 := ok_things_of (P := l.prog) (w := w) (base := base) T F1 (PySem.W.mg_of X G a1) B1 
  have E2 := ok_parted_at (P := l.prog) (w := w) (base := base) T F2 (PySem.W.mg_of X G a2) B2 
  have E3 := ok_is_end (P := l.prog) (w := w) (base := base) T F3 (PySem.W.mg_of X G a3) B3 E0
  have E5 := fun j => ok_is_plan (P := l.prog) (w := w) (base := base) T F5 (PySem.W.mg_of X G a5) B5 F4 (PySem.W.mg_of X G a4) B4 E3 E0 E1 E2 j
  have E5 := E5 12
  have E6 := ok_is_asks (P := l.prog) (w := w) (base := base) T F6 (PySem.W.mg_of X G a6) B6 E5
  have E7 := fun j => ok_asks_of (P := l.prog) (w := w) (base := base) T F7 (PySem.W.mg_of X G a7) B7  j
  have E7 := E7 12
  have E8 := ok_l_gprime (P := l.prog) (w := w) (base := base) T F8 (PySem.W.mg_of X G a8) B8 
  have E9 := ok_l_gfresh (P := l.prog) (w := w) (base := base) T F9 (PySem.W.mg_of X G a9) B9 E8
  have E10 := ok_l_gdraw (P := l.prog) (w := w) (base := base) T F10 (PySem.W.mg_of X G a10) B10 E9
  have E11 := ok_l_gbook (P := l.prog) (w := w) (base := base) T F11 (PySem.W.mg_of X G a11) B11 E10
  have E12 := fun j => ok_l_gsame (P := l.prog) (w := w) (base := base) T F12 (PySem.W.mg_of X G a12) B12  j
  have E12 := E12 12
  have E13 := ok_l_galike (P := l.prog) (w := w) (base := base) T F13 (PySem.W.mg_of X G a13) B13 
  have E14 := ok_l_gparted (P := l.prog) (w := w) (base := base) T F14 (PySem.W.mg_of X G a14) B14 
  have E15 := fun j => ok_l_gis_plan (P := l.prog) (w := w) (base := base) T F15 (PySem.W.mg_of X G a15) B15 E12 E13 E14 j
  have E15 := E15 12
  have E16 := fun j => ok_l_gdeep (P := l.prog) (w := w) (base := base) T F16 (PySem.W.mg_of X G a16) B16  j
  have E16 := E16 12
  have E17 := fun j => ok_l_gbuilt (P := l.prog) (w := w) (base := base) T F17 (PySem.W.mg_of X G a17) B17 E14 E10 j
  have E17 := E17 12
  have E18 := ok_l_gbent_end (P := l.prog) (w := w) (base := base) T F18 (PySem.W.mg_of X G a18) B18 E10
  have E19 := fun j => ok_l_gall (P := l.prog) (w := w) (base := base) T F19 (PySem.W.mg_of X G a19) B19  j
  have E19 := E19 12
  have E20 := fun j => ok_l_gbent (P := l.prog) (w := w) (base := base) T F20 (PySem.W.mg_of X G a20) B20 E18 E10 E19 j
  have E20 := E20 12
  have E21 := fun j => ok_l_gmore_ways (P := l.prog) (w := w) (base := base) T F21 (PySem.W.mg_of X G a21) B21 E18 E10 E19 j
  have E21 := E21 12
  have E22 := ok_l_gtwice (P := l.prog) (w := w) (base := base) T F22 (PySem.W.mg_of X G a22) B22 E18 E20
  have E23 := ok_l_gspread (P := l.prog) (w := w) (base := base) T F23 (PySem.W.mg_of X G a23) B23 E10
  have E24 := ok_l_glone_right (P := l.prog) (w := w) (base := base) T F24 (PySem.W.mg_of X G a24) B24 E10 E6 E7 E12 E20 E15
  exact ok_law T F25 (PySem.W.mg_of X G a25) E11 E23 E17 E6 E7 E16 E12 E20 E22 E21 E15 E24
end LK

namespace LK
open PySem PySem.Spec L2 DM LM
local macro_rules | `(tactic| walk_at "w") => `(tactic| simp only [QV_v, QV_own, QV_bor, QI_d, QI_l, QO_d, QO_l, QO_ite, QO_A, QA_s, w_C, w_var, kA2_e, kB2_dd, kB2_ld, kB2_dl, kB2_ll, w_op2, kA1_d, w_op1, kArg_e, kArg2_d, kArg2_l, w_args0, w_args, kOpN_e, w_opN, kIt_e, kIt2_e, kIt3_e, w_items0, w_items, kTup_e, kLst_e, w_tup, w_lst, kB_e, w_bOf, kAnd_t, kAnd_f, kOr_t, kOr_f, kNot_e, w_bAnd, w_bOr, w_bNot, w_bYes, kEAnd_t, kEAnd_f, kEOr_t, kEOr_f, kENot_e, w_eAnd, w_eOr, w_eNot, kEIf_t, kEIf_f, w_eIf, kCall_e, w_call, okR_d, okR_l, okR_ex, kPart2_e, w_part0, w_part, kSl3_d, kSl3_l, kSl2_e, kSl_e, w_sl, kCh_e, kCh1_e, kCh2_t, kCh2_f, w_chain, seq_nx, seq_rt, seq_bk, seq_ct, seq_ex, kX_e, w_seq, w_nop, w_brk, w_cnt, kIf_t, kIf_f, w_if, kRet_d, kRet_l, w_ret, w_retN, QRV_v, QRV_own, w_retV, kDrop_e, w_drop, kSet_d, kSet_l, w_set, kSetS_d, kSetS_l, w_setS, QMv_e, w_move, QG_e, tg_name, tg_tup, tg_tup1, tg_tup2, tg_tup3, tg_tup4, tg_nil, tg_cons, ob_some, kAsg_d, w_asg, kPar_e, w_par, kSixN_e, kSixL_e, QSt_e, kSixO_e, kSixT_e, QSix_o, QSix_l, kSix_d, kSix_l, w_setix, kAppO_d, kAppO_l, QAppT_e, kAppT_d, kAppT_l, QApp_o, QApp_l, w_app, kExtO_l, QExt_o, QS_t, QS_l, QSL_e, QQ_b, QQ_v, w_qVar, kQE_l, kQE_d, w_qE, kQC_l, kQC_d, w_qC, kSeq_e, w_miSeq, kRev_e, w_miRev, kEnum_e, w_miEnum, kZip_e, kZip2_e, w_miZip, kR1_e, w_miRng1, kR2_e, kR3_e, rngD_len, rngD2_len, chk_t, chk_p, chk_s, isT_t, isT_p, isT_s, w_for, lp_nx, lp_rt, lp_bk, lp_ct, lp_ex, frzS_e, frzQ_o, frzQ_v, frzQ_b, frzQ_n, unfS_e, unfQ_o, unfQ_v, unfQ_b, unfQ_n, unf_nx, unf_rt, unf_bk, unf_ct, unf_ex, w_frz, w_comp, EnF_nx, EnF_d, EnF_l, EnF_ex, slot_d, slot_f, add_ii, add_ss, add_tt, add_ll, sub_ii, mul_ii, mul_li, div_ii, mod_ii, pow_ii, shl_ii, shr_ii, lt_ii, le_ii, gt_ii, ge_ii, neg_i, and_ii, or_ii, xor_ii, is_n, isnt_n, isNon_n, isNon_b, isNon_i, isNon_s, isNon_t, isNon_o, isNon_l, isNon_e, lstO_e, lstOf_l, lstOf_o, om_some, ix_t, ix_s, ix_l, ix_o, len_s, len_t, len_l, len_o, sum_l, all_l, any_l, max_ii, min_ii, max_l, min_l, tup_t, tup_l, tup_o, list_t, list_l, list_o, int_i, int_b, str_i, sl_t, sl_l, sl_s, eq_ii, ne_ii, eq_bb, ne_bb, isi_non_int, isi_non_bool, isi_non_str, isi_non_tuple, isi_non_list, isi_non_tl, isi_bl_int, isi_bl_bool, isi_bl_str, isi_bl_tuple, isi_bl_list, isi_bl_tl, isi_int_int, isi_int_bool, isi_int_str, isi_int_tuple, isi_int_list, isi_int_tl, isi_str_int, isi_str_bool, isi_str_str, isi_str_tuple, isi_str_list, isi_str_tl, isi_tup_int, isi_tup_bool, isi_tup_str, isi_tup_tuple, isi_tup_list, isi_tup_tl, isi_l_int, isi_l_bool, isi_l_str, isi_l_tuple, isi_l_list, isi_l_tl, ixN_00, ixN_1, ixN_2, ixN_3, atI_0, atI_1, atI_2, atI_3, intsOf_map, blsOf_map, List.set_cons_zero, List.set_cons_succ, List.getElem?_cons_zero, List.getElem?_cons_succ, List.replicate_succ, List.replicate_zero, List.length_cons, List.length_nil, Nat.zero_add, Nat.add_zero, Nat.reduceAdd, Nat.reduceSub, Nat.reduceLT, Nat.reduceLeDiff, Option.some.injEq, true_and, and_true, List.map_cons, List.map_nil, decide_true, decide_false, Bool.not_true, Bool.not_false, wipeE, QO_gd, startE_1, startE_2, startE_3, startE_4, fb_nx, fl_nx, fl_ct, fl_bk, fl_rt, fl_ex, cut_nx, cut_rt, cut_bk, cut_ct, cut_ex, w_raise, tr_nx, tr_rt, tr_bk, tr_ct, tr_ex, w_try, QCL_e, w_callL, kMt2_e, kMt_l, kMt_s, kMt_o, w_mt, if_true, QXT_e, kExtT_l, kExtT_d, QExt2_o, QExt2_l, exo_e, w_ext2, w_rng2, w_rng3, isB_bb, isntB_bb, beq_self_eq_true, w_ins0, QIns_o, kInsO_d, w_revE, kRevE_l, w_miEnumA, kEnumA_e, w_popAt, kPop_e, kPop2_e, sorted_e, divmod_e, w_lenSet, kLenSet_l, kRevA_l, kRevA_t, kRevA_o, w_revA, kZipM_e, kZipM2_e, w_miZipM, kAppD_e, kAppD2_e, w_appD])
local macro_rules | `(tactic| simp! only [$ls,*]) => `(tactic| simp only [QV_v, QV_own, QV_bor, QI_d, QI_l, QO_d, QO_l, QO_ite, QO_A, QA_s, w_C, w_var, kA2_e, kB2_dd, kB2_ld, kB2_dl, kB2_ll, w_op2, kA1_d, w_op1, kArg_e, kArg2_d, kArg2_l, w_args0, w_args, kOpN_e, w_opN, kIt_e, kIt2_e, kIt3_e, w_items0, w_items, kTup_e, kLst_e, w_tup, w_lst, kB_e, w_bOf, kAnd_t, kAnd_f, kOr_t, kOr_f, kNot_e, w_bAnd, w_bOr, w_bNot, w_bYes, kEAnd_t, kEAnd_f, kEOr_t, kEOr_f, kENot_e, w_eAnd, w_eOr, w_eNot, kEIf_t, kEIf_f, w_eIf, kCall_e, w_call, okR_d, okR_l, okR_ex, kPart2_e, w_part0, w_part, kSl3_d, kSl3_l, kSl2_e, kSl_e, w_sl, kCh_e, kCh1_e, kCh2_t, kCh2_f, w_chain, seq_nx, seq_rt, seq_bk, seq_ct, seq_ex, kX_e, w_seq, w_nop, w_brk, w_cnt, kIf_t, kIf_f, w_if, kRet_d, kRet_l, w_ret, w_retN, QRV_v, QRV_own, w_retV, kDrop_e, w_drop, kSet_d, kSet_l, w_set, kSetS_d, kSetS_l, w_setS, QMv_e, w_move, QG_e, tg_name, tg_tup, tg_tup1, tg_tup2, tg_tup3, tg_tup4, tg_nil, tg_cons, ob_some, kAsg_d, w_asg, kPar_e, w_par, kSixN_e, kSixL_e, QSt_e, kSixO_e, kSixT_e, QSix_o, QSix_l, kSix_d, kSix_l, w_setix, kAppO_d, kAppO_l, QAppT_e, kAppT_d, kAppT_l, QApp_o, QApp_l, w_app, kExtO_l, QExt_o, QS_t, QS_l, QSL_e, QQ_b, QQ_v, w_qVar, kQE_l, kQE_d, w_qE, kQC_l, kQC_d, w_qC, kSeq_e, w_miSeq, kRev_e, w_miRev, kEnum_e, w_miEnum, kZip_e, kZip2_e, w_miZip, kR1_e, w_miRng1, kR2_e, kR3_e, rngD_len, rngD2_len, chk_t, chk_p, chk_s, isT_t, isT_p, isT_s, w_for, lp_nx, lp_rt, lp_bk, lp_ct, lp_ex, frzS_e, frzQ_o, frzQ_v, frzQ_b, frzQ_n, unfS_e, unfQ_o, unfQ_v, unfQ_b, unfQ_n, unf_nx, unf_rt, unf_bk, unf_ct, unf_ex, w_frz, w_comp, EnF_nx, EnF_d, EnF_l, EnF_ex, slot_d, slot_f, add_ii, add_ss, add_tt, add_ll, sub_ii, mul_ii, mul_li, div_ii, mod_ii, pow_ii, shl_ii, shr_ii, lt_ii, le_ii, gt_ii, ge_ii, neg_i, and_ii, or_ii, xor_ii, is_n, isnt_n, isNon_n, isNon_b, isNon_i, isNon_s, isNon_t, isNon_o, isNon_l, isNon_e, lstO_e, lstOf_l, lstOf_o, om_some, ix_t, ix_s, ix_l, ix_o, len_s, len_t, len_l, len_o, sum_l, all_l, any_l, max_ii, min_ii, max_l, min_l, tup_t, tup_l, tup_o, list_t, list_l, list_o, int_i, int_b, str_i, sl_t, sl_l, sl_s, eq_ii, ne_ii, eq_bb, ne_bb, isi_non_int, isi_non_bool, isi_non_str, isi_non_tuple, isi_non_list, isi_non_tl, isi_bl_int, isi_bl_bool, isi_bl_str, isi_bl_tuple, isi_bl_list, isi_bl_tl, isi_int_int, isi_int_bool, isi_int_str, isi_int_tuple, isi_int_list, isi_int_tl, isi_str_int, isi_str_bool, isi_str_str, isi_str_tuple, isi_str_list, isi_str_tl, isi_tup_int, isi_tup_bool, isi_tup_str, isi_tup_tuple, isi_tup_list, isi_tup_tl, isi_l_int, isi_l_bool, isi_l_str, isi_l_tuple, isi_l_list, isi_l_tl, ixN_00, ixN_1, ixN_2, ixN_3, atI_0, atI_1, atI_2, atI_3, intsOf_map, blsOf_map, List.set_cons_zero, List.set_cons_succ, List.getElem?_cons_zero, List.getElem?_cons_succ, List.replicate_succ, List.replicate_zero, List.length_cons, List.length_nil, Nat.zero_add, Nat.add_zero, Nat.reduceAdd, Nat.reduceSub, Nat.reduceLT, Nat.reduceLeDiff, Option.some.injEq, true_and, and_true, List.map_cons, List.map_nil, decide_true, decide_false, Bool.not_true, Bool.not_false, wipeE, QO_gd, startE_1, startE_2, startE_3, startE_4, fb_nx, fl_nx, fl_ct, fl_bk, fl_rt, fl_ex, cut_nx, cut_rt, cut_bk, cut_ct, cut_ex, w_raise, tr_nx, tr_rt, tr_bk, tr_ct, tr_ex, w_try, QCL_e, w_callL, kMt2_e, kMt_l, kMt_s, kMt_o, w_mt, if_true, QXT_e, kExtT_l, kExtT_d, QExt2_o, QExt2_l, exo_e, w_ext2, w_rng2, w_rng3, isB_bb, isntB_bb, beq_self_eq_true, w_ins0, QIns_o, kInsO_d, w_revE, kRevE_l, w_miEnumA, kEnumA_e, w_popAt, kPop_e, kPop2_e, sorted_e, divmod_e, w_lenSet, kLenSet_l, kRevA_l, kRevA_t, kRevA_o, w_revA, kZipM_e, kZipM2_e, w_miZipM, kAppD_e, kAppD2_e, w_appD, $ls,*])
theorem ip_m : ∀ n, m_is_plan n = LM.m_planR n
  | 0 => rfl
  | n + 1 => by
    show mFun 3 6 (mb_is_plan (m_is_plan n)) = mFun 3 6 (LM.mb_planR (LM.m_planR n))
    rw [ip_m n]
    rfl
noncomputable def asksM (T : Store → List RV → Option OV) (M : MF) : MF := mFun 2 2 (sRet (eCall M [(eVar 0), (eOpN T [(eOpN lenF [(eOp2 ixF (eVar 0) (eC (.int 1)))])]), (eVar 1)]))
section
variable {m : Int} {u b n : Nat} {rows : List (List Int)} {S : Store}
theorem row0_w (h : BookOk m u rows) : ∃ r0, atI (rows.map rowL) 0 = some (rowL r0) ∧ r0.length = u := row0R_w h
theorem everD (n : Nat) : D.tup (rngD n) = rowL (everN n) := by
  unfold rowL everN rngD
  rw [List.map_map]
  rfl
theorem gparted_w {sm : List Int} {x : Int} (h : BookOk m u rows) (hs : ∀ k ∈ sm, 0 ≤ k ∧ k < rows.length) (hl : sm.length < 64) (x0 : 0 ≤ x) (xu : x < u) : m_l_gparted [.d (bookD m rows), .d (rowL sm), .d (.int x)] S = .ok (.l true ((pAt rows sm x).map partD)) S := by
  refine eq_of (fun_w ?_)
  unfold mb_l_gparted
  simp! only [w_sortedSet]
  refine ⟨by decide, ?_⟩
  refine comp_all (ck := fun _ => True) (l := sm) (F := D.int) (fun k => .int (at_ (rowK rows k) x)) (le_line (by omega)) trivial (fun j k hk => ?_) ?_
  · obtain ⟨k0, kl⟩ := hs k (List.mem_of_getElem? hk)
    obtain ⟨a1, a2⟩ := rowK_at h k0 kl
    have b1 := row_atI (r := rowK rows k) (x := x) x0 (by omega)
    refine ⟨_, rfl, ?_⟩
    simp! only [a1, b1]
  · have e1 : (sm.map fun k => D.int (at_ (rowK rows k) x)) = (sm.map fun k => at_ (rowK rows k) x).map D.int := by rw [List.map_map]; rfl
    rw [e1]
    have e2 := sortedSet_e (S := S) (b := false) (ns := sm.map fun k => at_ (rowK rows k) x) (by rw [List.length_map]; omega)
    simp! only [kSortedSet_l, e2]
    obtain ⟨B, hB⟩ : ∃ B, B = setI (sm.map fun k => at_ (rowK rows k) x) := ⟨_, rfl⟩
    rw [← hB]
    have hBl : B.length ≤ sm.length := by
      have := nodup_lenI B (sm.map fun k => at_ (rowK rows k) x) (by rw [hB]; exact setI_nodup _) fun z hz => by rw [hB] at hz; exact setI_mem.mp hz
      rwa [List.length_map] at this
    refine for_inv (fun i es S' => S' = S ∧ ∃ s4 s5, es = [.v (bookD m rows), .v (rowL sm), .v (.int x), .own ((B.take i).map fun b => .tup [.int b, rowL (sm.filter fun k => decide (at_ (rowK rows k) x = b))]), s4, s5]) ⟨rfl, _, _, rfl⟩ (fun _ _ S h => by rw [h.1]; trivial) (fun i y es S' hx hI => ?_) (fun es S' hI => ?_)
    · obtain ⟨rfl, s4, s5, rfl⟩ := hI
      rw [List.getElem?_map] at hx
      cases ez : B[i]? with
      | none => rw [ez] at hx; cases hx
      | some b =>
        rw [ez] at hx
        cases hx
        have hi := (List.getElem?_eq_some_iff.mp ez).1
        refine ⟨_, rfl, ?_⟩
        walk_at "w"
        refine comp_fil (ck := fun _ => True) (l := sm) (F := D.int) (fun k => decide (at_ (rowK rows k) x = b)) D.int (le_line (by omega)) trivial (fun j k hk => ?_) ?_
        · obtain ⟨k0, kl⟩ := hs k (List.mem_of_getElem? hk)
          obtain ⟨a1, a2⟩ := rowK_at h k0 kl
          have b1 := row_atI (r := rowK rows k) (x := x) x0 (by omega)
          refine ⟨_, rfl, ?_, fun _ => ?_⟩
          · simp! only [a1, b1]
          · walk_at "w"
        · walk_at "w"
          have tk : ((B.take (i + 1)).map fun b => D.tup [.int b, rowL (sm.filter fun k => decide (at_ (rowK rows k) x = b))]) = ((B.take i).map fun b => D.tup [.int b, rowL (sm.filter fun k => decide (at_ (rowK rows k) x = b))]) ++ [D.tup [.int b, rowL (sm.filter fun k => decide (at_ (rowK rows k) x = b))]] := by
            rw [List.take_succ, ez, List.map_append]
            rfl
          rw [tk]
          exact ⟨by decide, le_line (by rw [List.length_map, List.length_take]; omega), _, _, rfl⟩
    · obtain ⟨rfl, s4, s5, rfl⟩ := hI
      rw [List.length_map, List.take_length]
      walk_at "w"
      unfold pAt
      rw [List.map_map, ← hB]
      rfl
theorem is_asks_any {d : D} (h : BookOk m u rows) (hu : u ≤ 11) (hr : rows.length ≤ 60) (hd : AnyD b S n d) : m_is_asks [.d (bookD m rows), .d d] S = .ok (.d (.bl (planB rows u 12 (everN rows.length) d))) S := by
  have hel := everN_len rows.length
  have hrn : 0 < rows.length := List.length_pos_iff.mpr h.ne
  have hmu := mu_le (rows := rows) (u := u) (sm := everN rows.length)
  have hp := plan_any (S := S) h (by omega) 12 (everN rows.length) d (by omega) (by omega) (fun z => by rw [z] at hel; simp at hel; omega) (everN_rs rows.length).2 hd
  have r1 : tupRgF S [.d (.int ((rows.map rowL).length : Nat))] = some (.d (rowL (everN rows.length))) := by
    rw [List.length_map, tupRg_e (by omega) (by omega), Int.toNat_natCast, everD]
  have key : ∀ (T : Store → List RV → Option OV) (M : MF) (pl : D) (v : Bool), T S [.d (.int ((rows.map rowL).length : Nat))] = some (.d (rowL (everN rows.length))) → M [.d (bookD m rows), .d (rowL (everN rows.length)), .d pl] S = .ok (.d (.bl v)) S → asksM T M [.d (bookD m rows), .d pl] S = .ok (.d (.bl v)) S := fun T M pl v r1 hp => by
    refine eq_of (fun_w ?_)
    simp! only [r1, hp]
  have := key tupRgF _ _ _ r1 hp
  rw [← ip_m] at this
  exact this
theorem galike_any {sm : List Int} (h : BookOk m u rows) (hs : ∀ k ∈ sm, 0 ≤ k ∧ k < rows.length) (hl : sm.length ≤ 1000) (hn : sm ≠ []) (hu : u ≤ 1000) : m_l_galike [.d (bookD m rows), .d (rowL sm)] S = .ok (.d (.bl (sameB rows sm))) S := by
  obtain ⟨k0, hm0, a0, hh⟩ : ∃ k0, k0 ∈ sm ∧ atI (sm.map D.int) 0 = some (.int k0) ∧ sm.headD 0 = k0 := by
    cases sm with
    | nil => exact absurd rfl hn
    | cons a l => exact ⟨a, List.mem_cons_self, by rw [List.map_cons, atI_0], rfl⟩
  obtain ⟨b0, hbl⟩ := rowK_at h (hs k0 hm0).1 (hs k0 hm0).2
  have hne : ∀ xs ys : List Int, neF S (.d (rowL xs)) (.d (rowL ys)) = some (.d (.bl (!decide (xs = ys)))) := fun xs ys => ne_rowsT
  refine eq_of (fun_w ?_)
  unfold mb_l_galike
  walk_at "w"
  refine comp_fil (l := sm) (F := D.int) (fun k => !decide (rowK rows k = rowK rows (sm.headD 0))) D.int (le_line (by omega)) trivial (fun j k hk => ?_) ?_
  · have hkm := List.mem_of_getElem? hk
    obtain ⟨b1, _⟩ := rowK_at h (hs k hkm).1 (hs k hkm).2
    rw [hh]
    refine ⟨_, rfl, ?_, fun _ => ?_⟩
    · simp! only [b1, a0, b0, hne]
    · walk_at "w"
  · have hz : decide ((sm.filter fun k => !decide (rowK rows k = rowK rows (sm.headD 0))) = []) = sameB rows sm := by
      unfold sameB
      rw [Bool.eq_iff_iff, decide_eq_true_iff, List.filter_eq_nil_iff, List.all_eq_true]
      exact ⟨fun h x hx => by simpa using h x hx, fun h x hx => by simpa using h x hx⟩
    have en := fun (a b : Bool) => eq_nil (S := S) (a := a) (b := b) (xs := sm.filter fun k => !decide (rowK rows k = rowK rows (sm.headD 0)))
    rw [hz] at en
    simp! only [en]
    decide
theorem gis_any (h : BookOk m u rows) (hu : u ≤ 1000) : ∀ (f : Nat) (sm : List Int) (d : D), muP rows u sm < f → sm.length ≤ 60 → sm ≠ [] → (∀ k ∈ sm, 0 ≤ k ∧ k < rows.length) → AnyD b S n d → m_l_gis_plan f [.d (bookD m rows), .d (rowL sm), .d d] S = .ok (.d (.bl (planB rows u f sm d))) S
  | 0, _, _, h, _, _, _, _ => by omega
  | f + 1, sm, d, hf, hl, hn, hs, hd => by
    have i1 := isi_tup_any hd
    obtain ⟨r0, a0, hr0⟩ := row0_w h
    cases ht : isTup d with
    | false =>
      rw [ht] at i1
      rw [plan_tup ht]
      refine eq_of (fun_w ?_)
      unfold mb_l_gis_plan
      generalize m_l_gis_plan f = M
      simp! only [i1]
    | true =>
      obtain ⟨ds, rfl⟩ : ∃ ds, d = .tup ds := by cases d <;> first | exact ⟨_, rfl⟩ | cases ht
      have hdm := any_mem hd
      have hdl := any_len hd
      have ePl : planB rows u (f + 1) sm (.tup ds) = planL rows u (planB rows u f) sm ds := rfl
      rw [ePl]
      have g1 : ∀ w : D, AnyD b S n w → m_l_gsame 12 [.d w, .d (.str "known")] S = .ok (.d (.bl (strB (Str.ofString "known") w))) S := fun w hw => gsame_str_any (f := 11) hw (by decide +kernel)
      have g2 : ∀ w : D, AnyD b S n w → m_l_gsame 12 [.d w, .d (.str "ask")] S = .ok (.d (.bl (strB (Str.ofString "ask") w))) S := fun w hw => gsame_str_any (f := 11) hw (by decide +kernel)
      have g3 : ∀ w : D, AnyD b S n w → m_l_gsame 12 [.d w, .d (rowL sm)] S = .ok (.d (.bl (rwB sm w))) S := fun w hw => gsame_row_any (f := 10) hw (by omega)
      have g4 : ∀ (w : D) (v : Int), AnyD b S n w → m_l_gsame 12 [.d w, .d (.int v)] S = .ok (.d (.bl (intB v w))) S := fun w v hw => gsame_int_any (f := 11) hw
      have ga := galike_any (S := S) h hs (by omega) hn hu
      have nin : ∀ k : Nat, notinF S (.d (.int ((k : Nat) : Int))) (.d (.tup [.int 2, .int 3])) = some (.d (.bl (!decide ((k : Int) ∈ ([2, 3] : List Int))))) := fun k => notin_ints (S := S) (xs := [2, 3]) (v := (k : Int))
      have n2 : notinF S (.d (.int ((2 : Nat) : Int))) (.d (.tup [.int 2, .int 3])) = some (.d (.bl false)) := nin 2
      have n3 : notinF S (.d (.int ((3 : Nat) : Int))) (.d (.tup [.int 2, .int 3])) = some (.d (.bl false)) := nin 3
      have d22 : decide (((2 : Nat) : Int) = 2) = true := rfl
      have d32 : decide (((3 : Nat) : Int) = 2) = false := rfl
      have d23 : decide (((2 : Nat) : Int) = 3) = false := rfl
      have d33 : decide (((3 : Nat) : Int) = 3) = true := rfl
      have dl2 : 2 ≤ sizeLine := by decide
      by_cases l2 : ds.length = 2
      · obtain ⟨w, x, rfl⟩ : ∃ w x, ds = [w, x] := by
          match ds, l2 with
          | [w, x], _ => exact ⟨w, x, rfl⟩
        have g1 := g1 w (hdm w (by simp))
        have g2 := g2 w (hdm w (by simp))
        have g3 := g3 x (hdm x (by simp))
        have e : planL rows u (planB rows u f) sm [w, x] = (strB (Str.ofString "known") w && (rwB sm x && sameB rows sm)) := rfl
        rw [e]
        refine eq_of (fun_w ?_)
        unfold mb_l_gis_plan
        generalize m_l_gis_plan f = M
        generalize m_l_gsame 12 = GS at g1 g2 g3 ⊢
        cases zk : strB (Str.ofString "known") w with
        | true =>
          rw [zk] at g1
          rw [Bool.true_and]
          simp! only [n2, g1, d22]
          refine ⟨dl2, ?_⟩
          cases zr : rwB sm x with
          | true =>
            rw [zr] at g3
            rw [Bool.true_and]
            simp! only [g3, ga]
          | false =>
            rw [zr] at g3
            simp! only [g3]
            rfl
        | false =>
          rw [zk] at g1
          cases za : strB (Str.ofString "ask") w with
          | true =>
            rw [za] at g2
            simp! only [n2, g1, g2, d23]
            exact ⟨dl2, rfl⟩
          | false =>
            rw [za] at g2
            simp! only [n2, g1, g2]
            exact ⟨dl2, rfl⟩
      · by_cases l3 : ds.length = 3
        · obtain ⟨w, x, y, rfl⟩ : ∃ w x y, ds = [w, x, y] := by
            match ds, l3 with
            | [w, x, y], _ => exact ⟨w, x, y, rfl⟩
          have hx := hdm x (by simp)
          have hy := hdm y (by simp)
          have g1 := g1 w (hdm w (by simp))
          have g2 := g2 w (hdm w (by simp))
          have ix := isi_int_any hx
          have ib := isi_bool_any hx
          have iy := isi_tup_any hy
          have e : planL rows u (planB rows u f) sm [w, x, y] = (strB (Str.ofString "ask") w && askB rows u (planB rows u f) sm x y) := rfl
          rw [e]
          have hnot : strB (Str.ofString "known") w = true → strB (Str.ofString "ask") w = false := fun z => by
            cases w <;> first | cases z | skip
            rename_i z'
            have z : decide (z' = Str.ofString "known") = true := z
            show decide (z' = Str.ofString "ask") = false
            rw [of_decide_eq_true z]
            decide +kernel
          cases zk : strB (Str.ofString "known") w with
          | true =>
            rw [zk] at g1
            rw [hnot zk]
            refine eq_of (fun_w ?_)
            unfold mb_l_gis_plan
            generalize m_l_gis_plan f = M
            generalize m_l_gsame 12 = GS at g1 g2 ⊢
            simp! only [n3, g1, d32]
            exact ⟨dl2, rfl⟩
          | false =>
            rw [zk] at g1
            cases za : strB (Str.ofString "ask") w with
            | false =>
              rw [za] at g2
              refine eq_of (fun_w ?_)
              unfold mb_l_gis_plan
              generalize m_l_gis_plan f = M
              generalize m_l_gsame 12 = GS at g1 g2 ⊢
              simp! only [n3, g1, g2]
              exact ⟨dl2, rfl⟩
            | true =>
              rw [za] at g2
              rw [Bool.true_and]
              cases hty : isTup y with
              | false =>
                rw [hty] at iy
                rw [ask_tup hty]
                refine eq_of (fun_w ?_)
                unfold mb_l_gis_plan
                generalize m_l_gis_plan f = M
                generalize m_l_gsame 12 = GS at g1 g2 ⊢
                simp! only [n3, g1, g2, d33, iy]
                exact dl2
              | true =>
                obtain ⟨ws, rfl⟩ : ∃ ws, y = .tup ws := by cases y <;> first | exact ⟨_, rfl⟩ | cases hty
                have hwm := any_mem hy
                have hwl := any_len hy
                cases hwz : isWh x with
                | false =>
                  rw [hwz] at ix
                  rw [ask_int hwz]
                  refine eq_of (fun_w ?_)
                  unfold mb_l_gis_plan
                  generalize m_l_gis_plan f = M
                  generalize m_l_gsame 12 = GS at g1 g2 ⊢
                  cases hbz : isBl x with
                  | false =>
                    rw [hbz] at ix
                    have ix : isiF S [.d x, .d (.ty "int")] = some (.d (.bl false)) := ix
                    simp! only [n3, g1, g2, d33, ix]
                    exact dl2
                  | true =>
                    rw [hbz] at ix ib
                    have ix : isiF S [.d x, .d (.ty "int")] = some (.d (.bl true)) := ix
                    simp! only [n3, g1, g2, d33, ix, ib]
                    exact dl2
                | true =>
                  obtain ⟨xI, rfl⟩ : ∃ v, x = .int v := by cases x <;> first | exact ⟨_, rfl⟩ | cases hwz
                  rw [ask_ints]
                  have lr0 : (((r0.map D.int).length : Nat) : Int) = (u : Int) := by rw [List.length_map, hr0]
                  by_cases x0 : 0 ≤ xI
                  · have c0 : decide (0 ≤ xI) = true := decide_eq_true x0
                    by_cases xu : xI < u
                    · have cu : decide (xI < (u : Int)) = true := decide_eq_true xu
                      rw [c0, cu, Bool.true_and, Bool.true_and]
                      have hgp := gparted_w (S := S) (sm := sm) (x := xI) h hs (by omega) x0 xu
                      have hple := parts_le (rows := rows) sm xI
                      refine eq_of (fun_w ?_)
                      unfold mb_l_gis_plan
                      have ihp : ∀ p ∈ pAt rows sm xI, 2 ≤ (pAt rows sm xI).length → ∀ pl, AnyD b S n pl → m_l_gis_plan f [.d (bookD m rows), .d (rowL p.2), .d pl] S = .ok (.d (.bl (planB rows u f p.2 pl))) S := fun p hp h2 pl hpl => by
                        obtain ⟨xN, hxN⟩ := Int.eq_ofNat_of_zero_le x0
                        subst hxN
                        have hmu := mu_lt (u := u) (rows := rows) (by omega) (show 1 < (pAt rows sm (xN : Int)).length by omega) hp
                        have hlt := parts_lt (show 1 < (pAt rows sm (xN : Int)).length by omega) hp
                        have hps : ∀ k ∈ p.2, k ∈ sm := fun k hk => by
                          rw [(parts_mem hp).2] at hk
                          exact (List.mem_filter.mp hk).1
                        exact gis_any h hu f p.2 pl (by omega) (by omega) (fun z => by rw [z] at hlt; simp at hlt) (fun k hk => hs k (hps k hk)) hpl
                      generalize m_l_gis_plan f = M at ihp ⊢
                      generalize m_l_gsame 12 = GS at g1 g2 g4 ⊢
                      by_cases p2 : 2 ≤ (pAt rows sm xI).length
                      · have d7 : decide (((((pAt rows sm xI).map partD).length : Nat) : Int) < 2) = false := decide_eq_false (by rw [List.length_map]; omega)
                        rw [decide_eq_true p2, Bool.true_and]
                        by_cases pw : ws.length = (pAt rows sm xI).length
                        · have d8 : decide (((((pAt rows sm xI).map partD).length : Nat) : Int) = ((ws.length : Nat) : Int)) = true := decide_eq_true (by rw [List.length_map]; omega)
                          rw [decide_eq_true pw, Bool.true_and]
                          simp! only [n3, g1, g2, d33, c0, a0, lr0, cu, hgp, d7, d8, w_miZipM, kZipM_e, kZipM2_e]
                          refine ⟨dl2, ?_⟩
                          have ez : zipD ((pAt rows sm xI).map partD) ws = ((pAt rows sm xI).zip ws).map fun q => D.tup [partD q.1, q.2] := by
                            unfold zipD
                            rw [List.zip_eq_zipWith, List.map_zipWith, List.zipWith_map_left]
                          rw [ez]
                          refine for_inv (fun k es S' => S' = S ∧ (∀ (j : Nat) (q : (Int × List Int) × D), j < k → ((pAt rows sm xI).zip ws)[j]? = some q → wyB (planB rows u f) q.1 q.2 = true) ∧ ∃ s4 s5 s6, es = [.v (bookD m rows), .v (rowL sm), .v (.tup [w, .int xI, .tup ws]), .bor ((pAt rows sm xI).map partD), s4, s5, s6]) ⟨rfl, fun _ _ h => absurd h (by omega), _, _, _, rfl⟩ (fun _ _ _ _ => trivial) (fun k y9 es S' hx9 hI => ?_) (fun es S' hI => ?_)
                          · obtain ⟨rfl, hgood, s4, s5, s6, rfl⟩ := hI
                            rw [List.getElem?_map] at hx9
                            cases eq : ((pAt rows sm xI).zip ws)[k]? with
                            | none => rw [eq] at hx9; cases hx9
                            | some q =>
                              rw [eq] at hx9
                              cases hx9
                              obtain ⟨p, wy⟩ := q
                              have hqm := List.mem_of_getElem? eq
                              obtain ⟨hp, hwy⟩ := List.of_mem_zip hqm
                              have hway := hwm wy hwy
                              have iw := isi_tup_any hway
                              have hbad : wyB (planB rows u f) p wy = false → (((pAt rows sm xI).zip ws).all fun q => wyB (planB rows u f) q.1 q.2) = false := fun z => List.all_eq_false.mpr ⟨_, hqm, by rw [z]; exact Bool.false_ne_true⟩
                              have hok : wyB (planB rows u f) p wy = true → ∀ (j : Nat) (q : (Int × List Int) × D), j < k + 1 → ((pAt rows sm xI).zip ws)[j]? = some q → wyB (planB rows u f) q.1 q.2 = true := fun z j q hj hq => by
                                by_cases zj : j < k
                                · exact hgood j q zj hq
                                · have : j = k := by omega
                                  subst this
                                  rw [eq] at hq
                                  cases hq
                                  exact z
                              refine ⟨_, rfl, ?_⟩
                              cases htw : isTup wy with
                              | false =>
                                rw [htw] at iw
                                have hf : wyB (planB rows u f) p wy = false := by cases wy <;> first | rfl | cases htw
                                rw [hbad hf]
                                simp! only [iw]
                              | true =>
                                obtain ⟨vs, rfl⟩ : ∃ vs, wy = .tup vs := by cases wy <;> first | exact ⟨_, rfl⟩ | cases htw
                                have hvm := any_mem hway
                                by_cases v2 : vs.length = 2
                                · obtain ⟨v, pl, rfl⟩ : ∃ v pl, vs = [v, pl] := by
                                    match vs, v2 with
                                    | [v, pl], _ => exact ⟨v, pl, rfl⟩
                                  have hv := g4 v p.1 (hvm v (by simp))
                                  have hpl := ihp p hp p2 pl (hvm pl (by simp))
                                  have hwe : wyB (planB rows u f) p (.tup [v, pl]) = (intB p.1 v && planB rows u f p.2 pl) := rfl
                                  rw [hwe] at hbad hok
                                  cases hi1 : intB p.1 v with
                                  | false =>
                                    rw [hi1] at hv hbad
                                    rw [hbad rfl]
                                    simp! only [d22, hv]
                                  | true =>
                                    rw [hi1] at hv hbad hok
                                    rw [Bool.true_and] at hbad hok
                                    cases hi2 : planB rows u f p.2 pl with
                                    | false =>
                                      rw [hi2] at hpl
                                      rw [hbad hi2]
                                      simp! only [d22, hv, hpl]
                                    | true =>
                                      rw [hi2] at hpl
                                      simp! only [d22, hv, hpl]
                                      exact ⟨hok hi2, _, _, _, rfl⟩
                                · have d2 : decide ((vs.length : Int) = 2) = false := decide_eq_false (by omega)
                                  have hf : wyB (planB rows u f) p (.tup vs) = false := by
                                    match vs, v2 with
                                    | [], _ => rfl
                                    | [_], _ => rfl
                                    | [_, _], z => exact absurd rfl z
                                    | _ :: _ :: _ :: _, _ => rfl
                                  rw [hbad hf]
                                  simp! only [d2]
                          · obtain ⟨rfl, hgood, s4, s5, s6, rfl⟩ := hI
                            rw [List.length_map] at hgood
                            have hall : (((pAt rows sm xI).zip ws).all fun q => wyB (planB rows u f) q.1 q.2) = true := List.all_eq_true.mpr fun q hq => by
                              obtain ⟨j, hj⟩ := List.getElem?_of_mem hq
                              exact hgood j q (List.getElem?_eq_some_iff.mp hj).1 hj
                            rw [hall]
                            walk_at "w"
                        · have d8 : decide (((((pAt rows sm xI).map partD).length : Nat) : Int) = ((ws.length : Nat) : Int)) = false := decide_eq_false (by rw [List.length_map]; omega)
                          rw [decide_eq_false pw]
                          simp! only [n3, g1, g2, d33, c0, a0, lr0, cu, hgp, d7, d8]
                          exact ⟨dl2, rfl⟩
                      · have d7 : decide (((((pAt rows sm xI).map partD).length : Nat) : Int) < 2) = true := decide_eq_true (by rw [List.length_map]; omega)
                        rw [decide_eq_false p2]
                        simp! only [n3, g1, g2, d33, c0, a0, lr0, cu, hgp, d7]
                        exact ⟨dl2, rfl⟩
                    · have cu : decide (xI < (u : Int)) = false := decide_eq_false xu
                      rw [c0, cu]
                      refine eq_of (fun_w ?_)
                      unfold mb_l_gis_plan
                      generalize m_l_gis_plan f = M
                      generalize m_l_gsame 12 = GS at g1 g2 ⊢
                      simp! only [n3, g1, g2, d33, c0, a0, lr0, cu]
                      exact ⟨dl2, rfl⟩
                  · have c0 : decide (0 ≤ xI) = false := decide_eq_false x0
                    rw [c0]
                    refine eq_of (fun_w ?_)
                    unfold mb_l_gis_plan
                    generalize m_l_gis_plan f = M
                    generalize m_l_gsame 12 = GS at g1 g2 ⊢
                    simp! only [n3, g1, g2, d33, c0]
                    exact ⟨dl2, rfl⟩
        · rw [planL_len l2 l3]
          have nz : notinF S (.d (.int ((ds.length : Nat) : Int))) (.d (.tup [.int 2, .int 3])) = some (.d (.bl true)) := by
            rw [nin ds.length, decide_eq_false (by simp; omega)]
            rfl
          refine eq_of (fun_w ?_)
          unfold mb_l_gis_plan
          generalize m_l_gis_plan f = M
          generalize m_l_gsame 12 = GS
          simp! only [nz]
          exact dl2
theorem ways_snoc {PL : List (Int × List Int)} {pls : List D} {p : Int × List Int} {pl : D} (h : PL.length = pls.length) : waysD (PL ++ [p]) (pls ++ [pl]) = waysD PL pls ++ [.tup [.int p.1, pl]] := by
  unfold waysD
  rw [List.zipWith_append h]
  rfl
theorem cost_le {PL : List (Int × List Int)} (h : ∀ p ∈ PL, 1 ≤ p.2.length) : (PL.map fun p => p.2.length - 1).sum + PL.length = (PL.map fun p => p.2.length).sum := by
  induction PL with
  | nil => rfl
  | cons p PL ih =>
    have := ih fun q hq => h q (List.mem_cons_of_mem _ hq)
    have := h p List.mem_cons_self
    rw [List.map_cons, List.sum_cons, List.map_cons, List.sum_cons, List.length_cons]
    omega
theorem take_sum {A : Type} {f : A → Nat} (l : List A) (i : Nat) : ((l.take i).map f).sum ≤ (l.map f).sum := by
  induction l generalizing i with
  | nil => simp
  | cons a l ih =>
    cases i with
    | zero => simp
    | succ i => rw [List.take_succ_cons, List.map_cons, List.map_cons, List.sum_cons, List.sum_cons]; have := ih i; omega
theorem gbuilt_w {c : Nat} (h : BookOk m u rows) (hu : u ≤ 1000) : ∀ (f : Nat) (sm : List Int) (S : Store) (n0 : Nat) (Q : RV → Store → Prop) (X : QX), muP rows u sm < f → sm ≠ [] → sm.length ≤ 60 → (∀ k ∈ sm, 0 ≤ k ∧ k < rows.length) → BagC S b c n0 → n0 + sm.length + 10 < 10 ^ 9 →
    (∀ d S', IsB rows u f sm d → BagC S' b c (n0 + (sm.length - 1)) → Same b S S' → Q (.d d) S') → WR (okR (m_l_gbuilt f [.d (.loc b), .d (bookD m rows), .d (rowL sm)] S)) Q X
  | 0, _, _, _, _, _, hf, _, _, _, _, _, _ => by omega
  | f + 1, sm, S, n0, Q, X, hf, hn, hl, hs, hbg, hn0, k => by
    have ih := gbuilt_w (c := c) h hu f
    obtain ⟨r0, a0, hr0⟩ := row0_w h
    have hpos : 1 ≤ sm.length := List.length_pos_iff.mpr hn
    refine fun_w ?_
    unfold mb_l_gbuilt
    generalize m_l_gbuilt f = M at ih ⊢
    simp! only [a0]
    rw [List.length_map, hr0]
    refine ⟨⟨by omega, by omega⟩, ?_⟩
    have eru : rngD (u : Int).toNat = (List.range u).map fun x : Nat => D.int (x : Int) := by rw [Int.toNat_natCast]; rfl
    rw [eru]
    refine comp_fil (ck := fun _ => True) (l := List.range u) (F := fun x : Nat => D.int (x : Int)) (fun x => decide (1 < (pAt rows sm (x : Int)).length)) (fun x : Nat => D.int (x : Int)) (le_line (by rw [List.length_range]; omega)) trivial (fun j x hx => ?_) ?_
    · have hx := List.mem_range.mp (List.mem_of_getElem? hx)
      obtain ⟨xI, hxI⟩ : ∃ z : Int, z = (x : Int) := ⟨_, rfl⟩
      have hgp := gparted_w (S := S) (sm := sm) (x := xI) h hs (by omega) (by omega) (by omega)
      rw [← hxI]
      have d1 : decide (((((pAt rows sm xI).map partD).length : Nat) : Int) > 1) = decide (1 < (pAt rows sm xI).length) := decide_eq_decide.mpr (by rw [List.length_map]; omega)
      refine ⟨_, rfl, ?_, fun _ => ?_⟩
      · simp! only [hgp, d1]
      · walk_at "w"
    · obtain ⟨PT, hPT⟩ : ∃ PT, PT = (List.range u).filter fun x : Nat => decide (1 < (pAt rows sm (x : Int)).length) := ⟨_, rfl⟩
      rw [← hPT]
      have hPm : ∀ x ∈ PT, x < u ∧ 1 < (pAt rows sm (x : Int)).length := fun x hx => by
        rw [hPT] at hx
        obtain ⟨h1, h2⟩ := List.mem_filter.mp hx
        exact ⟨List.mem_range.mp h1, of_decide_eq_true h2⟩
      have hPl : PT.length ≤ u := by rw [hPT]; exact Nat.le_trans (List.length_filter_le _ _) (by rw [List.length_range]; exact Nat.le_refl _)
      have ePT : (PT.map fun x : Nat => D.int (x : Int)) = (PT.map fun x : Nat => (x : Int)).map D.int := by rw [List.map_map]; rfl
      have en := fun (a b : Bool) => eq_nil (S := S) (a := a) (b := b) (xs := PT.map fun x : Nat => (x : Int))
      rw [ePT]
      simp! only [en]
      refine ⟨by decide, ?_⟩
      by_cases z : PT = []
      · have z2 : (PT.map fun x : Nat => (x : Int)) = [] := by rw [z]; rfl
        rw [decide_eq_true z2]
        walk_at "w"
        refine ⟨by decide, k _ S (.inl ⟨rfl, fun x hx h1 => ?_⟩) (hbg.mono (by omega)) (Same.refl _ _)⟩
        have : x ∈ PT := by
          rw [hPT]
          exact List.mem_filter.mpr ⟨List.mem_range.mpr hx, decide_eq_true h1⟩
        rw [z] at this
        cases this
      · have z2 : ¬ (PT.map fun x : Nat => (x : Int)) = [] := fun w => z (List.map_eq_nil_iff.mp w)
        have hPpos := List.length_pos_iff.mpr z
        rw [decide_eq_false z2]
        walk_at "w"
        refine gdraw_c hbg (by omega) (by rw [List.length_map, List.length_map]; omega) (by rw [List.length_map, List.length_map]; omega) fun v S1 v0 vl b1 g1 => ?_
        rw [List.length_map, List.length_map] at vl
        obtain ⟨x, ex, hxm, _⟩ := DM.atI_get (l := PT) v0 vl
        obtain ⟨hx, h1⟩ := hPm x hxm
        have ev : atI ((PT.map fun x : Nat => (x : Int)).map D.int) v = some (.int (x : Int)) := by
          rw [atI_map, atI_map, ex]; rfl
        have hgp := gparted_w (S := S1) (sm := sm) (x := (x : Int)) h hs (by omega) (by omega) (by omega)
        have hple := parts_le (rows := rows) sm (x : Int)
        simp! only [ev, hgp]
        have hcl := cost_le (PL := pAt rows sm (x : Int)) fun p hp => (parts_lt h1 hp).2
        have hps := pAt_sum (rows := rows) (sm := sm) (x := (x : Int))
        obtain ⟨PL, hPL⟩ : ∃ PL, PL = pAt rows sm (x : Int) := ⟨_, rfl⟩
        rw [← hPL] at hcl hps hple ⊢
        refine comp_inv (fun j ys S' => ∃ pls : List D, pls.length = j ∧ ys = waysD (PL.take j) pls ∧ (∀ (i : Nat) p pl, i < j → PL[i]? = some p → pls[i]? = some pl → IsB rows u f p.2 pl) ∧ BagC S' b c (n0 + 1 + ((PL.take j).map fun p => p.2.length - 1).sum) ∧ Same b S S') (by rw [List.length_map]; exact le_line (by omega)) ⟨[], rfl, rfl, fun _ _ _ h => absurd h (by omega), b1, g1⟩ (fun _ _ _ _ => trivial) (fun j y ys S2 hy hI => ?_) (fun ys S2 hI => ?_)
        · obtain ⟨pls, hpl, rfl, hsub, b2, g2⟩ := hI
          rw [List.getElem?_map] at hy
          cases ep : PL[j]? with
          | none => rw [ep] at hy; cases hy
          | some p =>
            rw [ep] at hy
            cases hy
            have hjl := (List.getElem?_eq_some_iff.mp ep).1
            have hpm : p ∈ pAt rows sm (x : Int) := by rw [← hPL]; exact List.mem_of_getElem? ep
            have hlt := parts_lt h1 hpm
            have hmu := mu_lt (u := u) (rows := rows) hx h1 hpm
            have htk := take_sum (f := fun p : Int × List Int => p.2.length - 1) PL j
            have etk : PL.take (j + 1) = PL.take j ++ [p] := by rw [List.take_succ, ep]; rfl
            have htk2 := take_sum (f := fun p : Int × List Int => p.2.length - 1) PL (j + 1)
            rw [etk, List.map_append, List.sum_append] at htk2
            have es1 : ([p].map fun p => p.2.length - 1).sum = p.2.length - 1 := by simp
            rw [es1] at htk2
            have hpl8 : 2 ≤ PL.length := by rw [hPL]; omega
            unfold partD
            refine ⟨_, rfl, ?_⟩
            walk_at "w"
            refine ⟨fun _ => ?_, fun z => by cases z⟩
            refine ih p.2 S2 (n0 + 1 + ((PL.take j).map fun p => p.2.length - 1).sum) _ _ (by omega) (part_ne h1 hpm) (by omega) (fun k hk => hs k (part_sub hpm k hk)) b2 (by omega) fun d S3 hd b3 g3 => ?_
            walk_at "w"
            refine ⟨by decide, pls ++ [d], by simp [hpl], ?_, fun i q pl hi h2 h3 => ?_, ?_, g2.trans g3⟩
            · rw [etk, ways_snoc (by rw [List.length_take, hpl]; omega)]
            · by_cases zi : i < j
              · rw [List.getElem?_append_left (by omega)] at h3
                exact hsub i q pl zi h2 h3
              · have : i = j := by omega
                subst this
                rw [ep] at h2
                cases h2
                rw [List.getElem?_append_right (by omega)] at h3
                have : i - pls.length = 0 := by omega
                rw [this] at h3
                cases h3
                exact hd
            · rw [etk, List.map_append, List.sum_append]
              exact b3.mono (by simp; omega)
        · obtain ⟨pls, hpl, rfl, hsub, b2, g2⟩ := hI
          rw [List.length_map] at hpl hsub b2 ⊢
          rw [List.take_length] at b2 ⊢
          have hpl9 : 2 ≤ PL.length := by rw [hPL]; omega
          walk_at "w"
          refine ⟨by decide, k _ S2 (.inr ⟨x, pls, hx, h1, by rw [← hPL]; exact hpl, by rw [← hPL], fun i p pl h2 h3 => ?_⟩) (b2.mono (by omega)) g2⟩
          rw [← hPL] at h2
          exact hsub i p pl (List.getElem?_eq_some_iff.mp h2).1 h2 h3
theorem gall_w : ∀ (f : Nat) (sm : List Int) (d : D), sm ≠ [] → sm.length ≤ 60 → IsB rows u f sm d → ∃ l : List Int, l ≠ [] ∧ l.length ≤ sm.length ∧ (∀ k ∈ l, k ∈ sm) ∧ m_l_gall f [.d d] S = .ok (.d (rowL l)) S
  | 0, _, _, _, _, hB => hB.elim
  | f + 1, sm, d, hn, hl, hB => by
    have q1 : eqF S (.d (.str "known")) (.d (.str "known")) = some (.d (.bl true)) := by
      rw [eq_str (by decide +kernel) (by decide +kernel), decide_eq_true rfl]
    have q2 : eqF S (.d (.str "ask")) (.d (.str "known")) = some (.d (.bl false)) := by
      rw [eq_str (by decide +kernel) (by decide +kernel)]
      have e : decide (Str.ofString "ask" = Str.ofString "known") = false := by decide +kernel
      rw [e]
    rcases hB with ⟨rfl, _⟩ | ⟨x, pls, hx, h1, hpl, rfl, hsub⟩
    · refine ⟨sm, hn, Nat.le_refl _, fun _ h => h, eq_of (fun_w ?_)⟩
      unfold mb_l_gall knownD
      simp! only [q1]
    · have hple := parts_le (rows := rows) sm (x : Int)
      have hps := pAt_sum (rows := rows) (sm := sm) (x := (x : Int))
      have hwl := ways_len hpl
      have ih : ∀ (k : Nat) (p : Int × List Int) (pl : D), (pAt rows sm (x : Int))[k]? = some p → pls[k]? = some pl → ∃ l : List Int, l ≠ [] ∧ l.length ≤ p.2.length ∧ (∀ k ∈ l, k ∈ sm) ∧ m_l_gall f [.d pl] S = .ok (.d (rowL l)) S := fun k p pl h2 h3 => by
        have hp := List.mem_of_getElem? h2
        have hlt := parts_lt h1 hp
        obtain ⟨l, l1, l2, l3, l4⟩ := gall_w f p.2 pl (part_ne h1 hp) (by omega) (hsub k p pl h2 h3)
        exact ⟨l, l1, l2, fun k hk => part_sub hp k (l3 k hk), l4⟩
      suffices hsuf : WR (okR (m_l_gall (f + 1) [.d (.tup [.str "ask", .int (x : Int), .tup (waysD (pAt rows sm x) pls)])] S)) (fun r S' => ∃ l : List Int, l ≠ [] ∧ l.length ≤ sm.length ∧ (∀ k ∈ l, k ∈ sm) ∧ r = .d (rowL l) ∧ S' = S) XF by
        cases e : m_l_gall (f + 1) [.d (.tup [.str "ask", .int (x : Int), .tup (waysD (pAt rows sm x) pls)])] S with
        | ok r S' =>
          rw [e] at hsuf
          cases r with
          | d x => obtain ⟨l, h1, h2, h3, h4, h5⟩ := hsuf; exact ⟨l, h1, h2, h3, by rw [h4, h5]⟩
          | l q x =>
            cases q with
            | true => obtain ⟨l, h1, h2, h3, h4, h5⟩ := hsuf; cases h4
            | false => exact hsuf.elim
        | ex _ _ _ => rw [e] at hsuf; exact hsuf.elim
        | bad => rw [e] at hsuf; exact hsuf.elim
      refine fun_w ?_
      unfold mb_l_gall
      generalize m_l_gall f = M at ih ⊢
      simp! only [q2]
      refine ⟨by decide, ?_⟩
      obtain ⟨PL, hPL⟩ : ∃ PL, PL = pAt rows sm (x : Int) := ⟨_, rfl⟩
      rw [← hPL] at ih hps hwl hpl hple ⊢
      have hpl9 : 2 ≤ PL.length := by rw [hPL]; omega
      refine for_inv (fun j es S' => S' = S ∧ ∃ (l : List Int) (s2 s3 : DM.Slot), es = [.v (.tup [.str "ask", .int (x : Int), .tup (waysD PL pls)]), .own (l.map .int), s2, s3] ∧ (0 < j → l ≠ []) ∧ l.length ≤ ((PL.take j).map fun p => p.2.length).sum ∧ ∀ k ∈ l, k ∈ sm) ⟨rfl, [], _, _, rfl, (fun h => absurd h (by omega)), by simp, fun _ h => nomatch h⟩ (fun _ _ _ _ => trivial) (fun j y es S' hy hI => ?_) (fun es S' hI => ?_)
      · obtain ⟨rfl, l, s2, s3, rfl, hl0, hl1, hl2⟩ := hI
        obtain ⟨p, pl, e1, e2, rfl⟩ := ways_get hy
        obtain ⟨l', l1, l2, l3, l4⟩ := ih j p pl e1 e2
        have htk := take_sum (f := fun p : Int × List Int => p.2.length) PL (j + 1)
        have etk : PL.take (j + 1) = PL.take j ++ [p] := by rw [List.take_succ, e1]; rfl
        rw [etk, List.map_append, List.sum_append] at htk
        have es1 : ([p].map fun p => p.2.length).sum = p.2.length := by simp
        rw [es1] at htk
        refine ⟨_, rfl, ?_⟩
        simp! only [l4]
        refine ⟨by rw [List.length_map, List.length_map]; exact le_line (by omega), l ++ l', _, _, by rw [List.map_append], fun _ z => ?_, ?_, fun k hk => ?_⟩
        · have := List.append_eq_nil_iff.mp z
          exact l1 this.2
        · rw [etk, List.map_append, List.sum_append, es1, List.length_append]
          omega
        · rcases List.mem_append.mp hk with hk | hk
          · exact hl2 k hk
          · exact l3 k hk
      · obtain ⟨rfl, l, s2, s3, rfl, hl0, hl1, hl2⟩ := hI
        rw [hwl] at hl0 hl1
        rw [List.take_length] at hl1
        have hne := hl0 (by omega)
        have hsr := fun (a : Bool) => sorted_e (S := S') (b := a) (ns := l)
        simp! only [hsr]
        refine ⟨sortI l, fun z => hne ?_, by rw [sortI_len]; omega, fun k hk => hl2 k ((sortI_perm l).mem_iff.mp hk), rfl⟩
        have := sortI_len (ns := l)
        rw [z] at this
        exact List.length_eq_zero_iff.mp this.symm
theorem cut_sub {T : Type} (xs : List T) (lo hi : Option Int) : (cutL xs lo hi).Sublist xs := by
  unfold cutL
  first
  | exact (List.take_sublist _ _).trans (List.drop_sublist _ _)
  | exact (List.drop_sublist _ _).trans (List.take_sublist _ _)
theorem cutV {k nn ww : Nat} {ds : List D} (h : AnyL b S k nn ww ds) (lo hi : Option Int) : AnyL b S k nn ww (cutL ds lo hi) := h.sub (cut_sub ds lo hi)
theorem tightL {k nn ww : Nat} {ds : List D} (h : AnyL b S k nn ww ds) : AnyL b S k ds.length ww ds := ⟨Nat.le_refl _, h.any, h.wt⟩
def trD (x : Int) : D := if x < 2 then .bl (decide (x = 1)) else .int x
theorem gbent_end_w {c n0 : Nat} {sm : List Int} {Q : RV → Store → Prop} {X : QX} (hbg : BagC S b c n0) (hn0 : n0 + 20 < 10 ^ 9) (hn : sm ≠ []) (hl : sm.length ≤ 45) (hs : ∀ k ∈ sm, 0 ≤ k ∧ k < 1000)
    (k : ∀ d S', AnyV b S' 5 200 d → BagC S' b c (n0 + 5) → Grow b S S' → Q (.d d) S') : WR (okR (m_l_gbent_end [.d (.loc b), .d (.tup [.str "known", rowL sm])] S)) Q X := by
  have hpos : 1 ≤ sm.length := List.length_pos_iff.mpr hn
  refine fun_w ?_
  unfold mb_l_gbent_end
  walk_at "w"
  refine gdraw_c hbg (by omega) (by omega) (by omega) fun way S1 w0 w20 b1 g1 => ?_
  walk_at "w"
  refine comp_all (ck := fun _ => True) (l := sm) (F := D.int) trD (le_line (by omega)) trivial (fun j x hx => ?_) ?_
  · refine ⟨_, rfl, ?_⟩
    simp! only [w_ecut]
    refine kEIf_br (fun z => ?_) (fun z => ?_)
    · have z := of_decide_eq_true z
      walk_at "w"
      unfold trD
      rw [if_pos z]
    · have z := of_decide_eq_false z
      walk_at "w"
      unfold trD
      rw [if_neg z]
  · obtain ⟨z, ez, hzm⟩ : ∃ z, atI (sm.map D.int) (-1) = some (.int z) ∧ z ∈ sm := by
      cases hg : sm.getLast? with
      | none => exact absurd (List.getLast?_eq_none_iff.mp hg) hn
      | some z => exact ⟨z, atI_last hg, List.mem_of_getLast? hg⟩
    have hz := hs z hzm
    have hsub : ∀ (S : Store) (T : List D), T.Sublist (sm.map D.int) → AnyL b S 2 45 45 T := fun S T h => ((rowVV (b := b) (S := S) (k := 2) (s := sm) (by omega) (by omega) fun z hz => by have := hs z hz; omega).up (Nat.le_refl _) hl hl).sub h
    have hlen : ∀ T : List D, T.Sublist (sm.map D.int) → T.length ≤ 45 := fun T h => by
      have := h.length_le
      rw [List.length_map] at this
      omega
    have htr : ∀ S : Store, AnyL b S 2 45 45 (sm.map trD) := fun S => by
      have hx : ∀ x ∈ sm, AnyD b S 2 (trD x) ∧ wtD S 2 (trD x) = 1 := fun x hx => by
        have := hs x hx
        unfold trD
        split
        · exact ⟨trivial, rfl⟩
        · exact ⟨any_int (by omega), rfl⟩
      refine ⟨by rw [List.length_map]; exact hl, fun d hd => ?_, ?_⟩
      · obtain ⟨x, hm, rfl⟩ := List.mem_map.mp hd
        exact (hx x hm).1
      · rw [List.map_map]
        have e : sm.map (wtD S 2 ∘ trD) = sm.map fun _ => 1 := List.map_congr_left fun x hm => (hx x hm).2
        rw [e]
        have : ∀ l : List Int, (l.map fun _ => 1).sum = l.length := fun l => by
          induction l with
          | nil => rfl
          | cons a l ih => rw [List.map_cons, List.sum_cons, ih, List.length_cons]; omega
        rw [this]
        exact hl
    obtain ⟨T1, hT1, sT1⟩ : ∃ T, cutL (sm.map D.int) (some 1) none = T ∧ T.Sublist (sm.map D.int) := ⟨_, rfl, cut_sub _ _ _⟩
    obtain ⟨T2, hT2, sT2⟩ : ∃ T, cutL (sm.map D.int) (some (-1)) none = T ∧ T.Sublist (sm.map D.int) := ⟨_, rfl, cut_sub _ _ _⟩
    have lT1 := hlen T1 sT1
    have lT2 := hlen T2 sT2
    simp! only [ez, hT1, hT2]
    have hsz : ∀ n : Nat, n ≤ 300 → n ≤ sizeLine := fun n h => le_line (by omega)
    have hdl : (sm.map D.int).length ≤ 45 := by rw [List.length_map]; exact hl
    (repeat refine ⟨by first | decide | exact hsz _ (by omega), ?_⟩)
    generalize hL0 : (([_, _, _, _] : List D) ++ [_, _, _, _, _, _] ++ [_, _, _, _]) = L0
    refine ⟨(show (14 : Nat) ≤ sizeLine by decide), ?_⟩
    have hE : Ext S1 (S1 ++ [O.lst (sm.map D.int)] ++ [O.lst [D.str (Str.ofString "known"), rowL sm]]) := Ext.push.trans Ext.push
    have hlA : (S1 ++ [O.lst (sm.map D.int)] ++ [O.lst [D.str (Str.ofString "known"), rowL sm]])[S1.length]? = some (.lst (sm.map D.int)) := st_old st_new
    have hlB : (S1 ++ [O.lst (sm.map D.int)] ++ [O.lst [D.str (Str.ofString "known"), rowL sm]])[(S1 ++ [O.lst (sm.map D.int)]).length]? = some (.lst [D.str (Str.ofString "known"), rowL sm]) := st_new
    have b2 := b1.ext hE
    have n1 : S1.length ≠ b := by have := b1.lt; omega
    have n2 : (S1 ++ [O.lst (sm.map D.int)]).length ≠ b := by have := b1.lt; rw [List.length_append]; omega
    have hg2 : Grow b S (S1 ++ [O.lst (sm.map D.int)] ++ [O.lst [D.str (Str.ofString "known"), rowL sm]]) := (Grow.of_same g1).trans (Grow.of_ext hE)
    generalize S1 ++ [O.lst (sm.map D.int)] ++ [O.lst [D.str (Str.ofString "known"), rowL sm]] = S2 at hE hlA hlB b2 hg2 ⊢
    generalize (S1 ++ [O.lst (sm.map D.int)]).length = N2 at hL0 hlB n2
    generalize S1.length = N1 at hL0 hlA n1
    have kn : ∀ (S : Store) (k : Nat), 1 ≤ k → AnyV b S k 1 (.str "known") := fun S k hk => wordV (by decide +kernel) (by decide +kernel) (by decide +kernel) hk
    have up : ∀ (S : Store) (k n2 w2 : Nat) (ds : List D), AnyL b S k n2 w2 ds → k ≤ 4 → n2 ≤ 100 → w2 ≤ 199 → AnyV b S 5 200 (.tup ds) := fun S k n2 w2 ds h h1 h2 h3 => (h.tup (Nat.le_trans h2 (by decide))).up (by omega) (by omega)
    have big : ∀ (S : Store) (n2 w2 : Nat) (ds : List D), AnyL b S 2 n2 w2 ds → n2 ≤ 100 → w2 ≤ 190 → AnyV b S 4 (w2 + 2 + 1) (.tup [.str "known", .tup ds]) := fun S n2 w2 ds h h2 h3 => ((AnyL.cons (kn S 3 (by omega)) (.one (h.tup (Nat.le_trans h2 (by decide))))).tup (by omega)).up (by omega) (by omega)
    have bg : ∀ (S : Store) (n2 w2 : Nat) (ds : List D), AnyL b S 2 n2 w2 ds → n2 ≤ 100 → w2 ≤ 190 → AnyV b S 5 200 (.tup [.str "known", .tup ds]) := fun S n2 w2 ds h h2 h3 => (big S n2 w2 ds h h2 h3).up (by omega) (by omega)
    have sm2 := fun S => hsub S _ (List.Sublist.refl _)
    have rowV2 : ∀ S : Store, AnyV b S 3 46 (rowL sm) := fun S => (sm2 S).tup (by omega)
    have i1 : ∀ (S : Store) (k : Nat) (i : Int), 1 ≤ k → -(2 ^ 190) < i ∧ i < 2 ^ 190 → AnyV b S k 1 (.int i) := fun S k i hk h => intV h hk
    have hL0V : ∀ d ∈ L0, AnyV b S2 5 200 d := fun d hd => by
      rw [← hL0] at hd
      simp only [List.mem_append, List.mem_cons, List.not_mem_nil, or_false] at hd
      rcases hd with ((rfl | rfl | rfl | rfl) | rfl | rfl | rfl | rfl | rfl | rfl) | rfl | rfl | rfl | rfl
      · exact bg _ _ _ _ (hsub S2 _ sT1) (by omega) (by omega)
      · exact bg _ _ _ _ ((sm2 S2).app (hsub S2 _ sT2)) (by omega) (by omega)
      · exact bg _ _ _ _ (sm2 S2).rev (by omega) (by omega)
      · exact up _ 3 _ _ _ (.cons (kn S2 3 (by omega)) (.one ((sm2 S2).lst (by omega) hlA n1))) (by omega) (by omega) (by omega)
      · exact up _ 3 _ _ _ (.cons (wordV (w := Str.ofString "ask") (by decide +kernel) (by decide +kernel) (by decide +kernel) (by omega)) (.one (rowV2 S2))) (by omega) (by omega) (by omega)
      · exact bg _ _ _ _ ((sm2 S2).app (.one (i1 S2 2 (z + 1) (by omega) (by omega)))) (by omega) (by omega)
      · exact up _ 3 _ _ _ (.cons (kn S2 3 (by omega)) (.cons (rowV2 S2) (.one ((AnyL.nil (k := 2)).tup (by omega))))) (by omega) (by omega) (by omega)
      · exact up _ 3 _ _ _ (.one (kn S2 3 (by omega))) (by omega) (by omega) (by omega)
      · exact ((AnyL.cons (kn S2 3 (by omega)) (.one (rowV2 S2))).lst (by omega) hlB n2).up (by omega) (by omega)
      · exact (leafV (k := 5) (S := S2) (b := b) (d := .non) trivial (by omega)).up (Nat.le_refl _) (by omega)
      · exact (rowV2 S2).up (by omega) (by omega)
      · exact bg _ _ _ _ (htr S2) (by omega) (by omega)
      · exact up _ 3 _ _ _ (.cons (kn S2 3 (by omega)) (.one (leafV (k := 3) (S := S2) (b := b) (d := .non) trivial (by omega)))) (by omega) (by omega) (by omega)
      · exact up _ 3 _ _ _ (.cons (kn S2 3 (by omega)) (.one (i1 S2 3 5 (by omega) (by omega)))) (by omega) (by omega) (by omega)
    have hL0l : L0.length = 14 := by rw [← hL0]; rfl
    clear hL0 hlA hlB
    rw [List.length_map]
    refine gdraw_c b2 (by omega) (by omega) (by omega) fun v7 S3 v70 v7l b3 g3 => ?_
    simp! only [ez]
    refine ⟨by decide, by decide, cpow (by decide) (by decide) (by decide) (by decide), by decide, ?_⟩
    refine gdraw_c (b3.ext Ext.push) (by omega) (by omega) (by omega) fun o S4 o0 o8 b4 g4 => ?_
    obtain ⟨odd, eo, hom, _⟩ := DM.atI_get (l := [D.non, D.str (Str.ofString "0"), D.tup [D.int 0], D.loc (List.length S3), D.int (-1), D.int (10 ^ Int.toNat 39), D.bl true, D.int (z + 1)]) o0 o8
    have e39 : (10 : Int) ^ Int.toNat 39 = 10 ^ 39 := rfl
    have n3 : S3.length ≠ b := by have := b3.lt; omega
    have hodd : AnyV b S4 2 2 odd := by
      have hl : S4[S3.length]? = some (.lst [.int 0]) := by
        rw [g4.2 _ n3]
        exact st_new
      simp only [List.mem_cons, List.not_mem_nil, or_false] at hom
      rcases hom with rfl | rfl | rfl | rfl | rfl | rfl | rfl | rfl
      · exact (leafV (k := 2) (S := S4) (b := b) (d := .non) trivial (by omega)).up (Nat.le_refl _) (by omega)
      · exact (wordV (S := S4) (b := b) (k := 2) (w := Str.ofString "0") (by decide +kernel) (by decide +kernel) (by decide +kernel) (by omega)).up (Nat.le_refl _) (by omega)
      · exact (AnyL.one (i1 S4 1 0 (by omega) (by omega))).tup (by omega)
      · exact (AnyL.one (i1 S4 1 0 (by omega) (by omega))).lst (by omega) hl n3
      · exact (i1 S4 2 (-1) (by omega) (by omega)).up (Nat.le_refl _) (by omega)
      · rw [e39]; exact (i1 S4 2 (10 ^ 39) (by omega) (by omega)).up (Nat.le_refl _) (by omega)
      · exact (leafV (k := 2) (S := S4) (b := b) (d := .bl true) trivial (by omega)).up (Nat.le_refl _) (by omega)
      · exact (i1 S4 2 (z + 1) (by omega) (by omega)).up (Nat.le_refl _) (by omega)
    have hg4 : Grow b S2 S4 := ((Grow.of_same g3).trans Grow.push).trans (Grow.of_same g4)
    simp! only [eo]
    refine ⟨by decide, ?_⟩
    refine gdraw_c b4 (by omega) (by omega) (by omega) fun o2 S5 o20 o28 b5 g5 => ?_
    obtain ⟨wd, ew, hwm, _⟩ := DM.atI_get (l := [D.str (Str.ofString ""), D.str (Str.ofString "none"), D.str (Str.ofString "Known"), D.str (Str.ofString "known "), D.str (Str.ofString "know"), D.str (Str.ofString "k"), D.non, D.int 0]) o20 o28
    have hwd : ∀ S : Store, AnyV b S 3 1 wd := fun S => by
      simp only [List.mem_cons, List.not_mem_nil, or_false] at hwm
      have lf : ∀ w : Str, PyData.strOk w = true → PyData.strOk (reprText w) = true → (reprText w).length ≤ 200 → AnyV b S 3 1 (.str w) := fun w h1 h2 h3 => wordV h1 h2 h3 (by omega)
      rcases hwm with rfl | rfl | rfl | rfl | rfl | rfl | rfl | rfl
      · exact lf _ (by decide +kernel) (by decide +kernel) (by decide +kernel)
      · exact lf _ (by decide +kernel) (by decide +kernel) (by decide +kernel)
      · exact lf _ (by decide +kernel) (by decide +kernel) (by decide +kernel)
      · exact lf _ (by decide +kernel) (by decide +kernel) (by decide +kernel)
      · exact lf _ (by decide +kernel) (by decide +kernel) (by decide +kernel)
      · exact lf _ (by decide +kernel) (by decide +kernel) (by decide +kernel)
      · exact leafV (k := 3) (S := S) (b := b) (d := .non) trivial (by omega)
      · exact i1 S 3 0 (by omega) (by omega)
    obtain ⟨T3, hT3, eT3, sT3⟩ : ∃ T, cutL (sm.map D.int) none (some v7) = T ∧ T = (sm.map D.int).take v7.toNat ∧ T.Sublist (sm.map D.int) := ⟨_, rfl, cut_to v70, cut_sub _ _ _⟩
    obtain ⟨T4, hT4, eT4, sT4⟩ : ∃ T, cutL (sm.map D.int) (some v7) none = T ∧ T = (sm.map D.int).drop v7.toNat ∧ T.Sublist (sm.map D.int) := ⟨_, rfl, cut_from v70, cut_sub _ _ _⟩
    obtain ⟨T5, hT5, sT5⟩ : ∃ T, cutL (sm.map D.int) (some (if v7 - 1 > 0 then v7 - 1 else 0)) (some v7) = T ∧ T.Sublist (sm.map D.int) := ⟨_, rfl, cut_sub _ _ _⟩
    obtain ⟨T6, hT6, eT6, sT6⟩ : ∃ T, cutL (sm.map D.int) (some (v7 + 1)) none = T ∧ T = (sm.map D.int).drop (v7 + 1).toNat ∧ T.Sublist (sm.map D.int) := ⟨_, rfl, cut_from (by omega), cut_sub _ _ _⟩
    have lT3 := hlen T3 sT3
    have lT4 := hlen T4 sT4
    have lT5 := hlen T5 sT5
    have lT6 := hlen T6 sT6
    have l36 : T3.length + T6.length ≤ 45 := by
      rw [eT3, eT6, List.length_take, List.length_drop]
      omega
    simp! only [ew, hT3, hT4, hT5, hT6]
    have sz : ∀ n : Nat, n ≤ 300 → n ≤ sizeLine := hsz
    refine ⟨by decide, by decide, by decide, by decide, by decide, sz _ (by omega), sz _ (by simp only [List.length_append, List.length_cons, List.length_nil]; omega), by decide, by decide, sz _ (by omega), sz _ (by omega), sz _ (by simp only [List.length_append]; omega), by decide, (show _ + 1 ≤ sizeLine from sz _ (by simp only [List.length_append, List.length_cons, List.length_nil]; omega)), by decide, sz _ (by omega), sz _ (by simp only [List.length_append, List.length_cons, List.length_nil]; omega), by decide, by decide, sz _ (by simp only [List.length_append, List.length_cons, List.length_nil]; omega), ?_⟩
    have hE5 : Ext S5 (S5 ++ [O.lst [D.str (Str.ofString "known")]]) := Ext.push
    have hlC : (S5 ++ [O.lst [D.str (Str.ofString "known")]])[S5.length]? = some (.lst [D.str (Str.ofString "known")]) := st_new
    have n5 : S5.length ≠ b := by have := b5.lt; omega
    have b6 := b5.ext hE5
    have hg6 : Grow b S2 (S5 ++ [O.lst [D.str (Str.ofString "known")]]) := (hg4.trans (Grow.of_same g5)).trans (Grow.of_ext hE5)
    have hodd6 := (hodd.grow (Grow.of_same g5)).grow (Grow.of_ext (b := b) hE5)
    generalize S5 ++ [O.lst [D.str (Str.ofString "known")]] = S6 at hlC b6 hg6 hodd6 ⊢
    generalize S5.length = N5 at hlC n5 ⊢
    generalize hL9 : (L0 ++ [_, _, _, _] ++ [_] ++ [_] : List D) = L9
    have hL9l : L9.length = 20 := by rw [← hL9]; simp only [List.length_append, List.length_cons, List.length_nil]; omega
    obtain ⟨d, ed, hdm, _⟩ := DM.atI_get (l := L9) (i := way) w0 (by omega)
    simp! only [ed]
    refine k d S6 ?_ (b6.mono (by omega)) (hg2.trans hg6)
    rw [← hL9] at hdm
    simp only [List.mem_append, List.mem_cons, List.not_mem_nil, or_false] at hdm
    rcases hdm with ((hdm | rfl | rfl | rfl | rfl) | rfl) | rfl
    · exact (hL0V d hdm).grow hg6
    · exact up _ 3 _ _ _ (.cons (kn S6 3 (by omega)) (.one (wordV (w := Str.ofString "0") (by decide +kernel) (by decide +kernel) (by decide +kernel) (by omega)))) (by omega) (by omega) (by omega)
    · exact up _ 3 _ _ _ (.cons (((AnyL.one (kn S6 1 (by omega))).lst (by omega) hlC n5).up (k2 := 3) (w2 := 2) (by omega) (by omega)) (.one (rowV2 S6))) (by omega) (by omega) (by omega)
    · exact up _ 3 _ _ _ (.cons (hwd S6) (.one (rowV2 S6))) (by omega) (by omega) (by omega)
    · exact bg _ _ _ _ (((hsub S6 _ sT3).app (.one hodd6)).app (hsub S6 _ sT4)) (by omega) (by omega)
    · exact bg _ _ _ _ ((((tightL (hsub S6 _ sT3)).app (tightL (hsub S6 _ sT5)))).app (tightL (hsub S6 _ sT6))) (by omega) (by omega)
    · exact bg _ _ _ _ (((hsub S6 _ sT3).app (.one hodd6)).app (hsub S6 _ sT6)) (by omega) (by omega)
theorem ask_facts (h : BookOk m u rows) (hu : u ≤ 1000) (hm : m ≤ 1000000) (hr : rows.length ≤ 1000) {f : Nat} {sm : List Int} {d : D} (hn : sm ≠ []) (hl : sm.length ≤ 45) (hs : ∀ k ∈ sm, 0 ≤ k ∧ k < rows.length) (hB : IsB rows u (f + 1) sm d) :
    d = knownD sm ∨ ∃ (x : Nat) (WS : List D), d = .tup [.str "ask", .int (x : Int), .tup WS] ∧ x < u ∧ 2 ≤ WS.length ∧ WS.length ≤ 45 ∧ (∀ w ∈ WS, ∃ (v : Int) (q : List Int) (pl : D), w = .tup [.int v, pl] ∧ 0 ≤ v ∧ v < m ∧ IsB rows u f q pl ∧ q ≠ [] ∧ q.length ≤ sm.length ∧ ∀ k ∈ q, k ∈ sm) ∧ ∀ S, AnyL b S (3 * f + 1) WS.length 540 WS := by
  have hV := fun S => isB_any (b := b) (S := S) h hu hm (f + 1) sm d hn (by omega) hs hr hB
  rcases hB with ⟨e, _⟩ | ⟨x, pls, hx, h1, hpl, rfl, hsub⟩
  · exact .inl e
  · right
    have hple := parts_le (rows := rows) sm (x : Int)
    have hwl := ways_len hpl
    refine ⟨x, waysD (pAt rows sm (x : Int)) pls, rfl, hx, by omega, by omega, fun w hw => ?_, fun S => ?_⟩
    · obtain ⟨i, hi⟩ := List.getElem?_of_mem hw
      obtain ⟨p, pl, e1, e2, e3⟩ := ways_get hi
      have hp := List.mem_of_getElem? e1
      have hlt := parts_lt h1 hp
      obtain ⟨e4, _⟩ := parts_mem hp
      obtain ⟨k, hk, e⟩ := List.mem_map.mp e4
      obtain ⟨k0, kl⟩ := hs k hk
      obtain ⟨b1, b2⟩ := rowK_at h k0 kl
      have hrm : rowK rows k ∈ rows := by
        unfold rowK
        rw [List.getElem?_eq_getElem (by omega)]
        exact List.getElem_mem _
      have hmm : at_ (rowK rows k) (x : Int) ∈ rowK rows k := by
        unfold at_
        rw [List.getD_eq_getElem?_getD, List.getElem?_eq_getElem (by omega)]
        exact List.getElem_mem _
      have hbx := (h.ok _ hrm).2 _ hmm
      rw [e] at hbx
      exact ⟨p.1, p.2, pl, e3, hbx.1, hbx.2, hsub i p pl e1 e2, part_ne h1 hp, by omega, part_sub hp⟩
    · have e3 : 3 * (f + 1) = 3 * f + 1 + 1 + 1 := by omega
      have hV := hV S
      rw [e3] at hV
      have h2 := hV.inv_tup.mem (d := .tup (waysD (pAt rows sm (x : Int)) pls)) (by simp)
      have h3 := h2.inv_tup
      exact ⟨Nat.le_refl _, h3.any, Nat.le_trans h3.wt (by omega)⟩
def gzD : D → D
  | .tup [.tup [a, _], .tup [_, p]] => .tup [a, p]
  | _ => .non
theorem zip_wt {k : Nat} : ∀ {A B : List D}, A.length = B.length → (∀ w ∈ A, ∃ (v : Int) (pl : D), w = .tup [.int v, pl] ∧ 0 ≤ v ∧ v < 1000000) → (∀ w ∈ B, ∃ (v : Int) (pl : D), w = .tup [.int v, pl] ∧ 0 ≤ v ∧ v < 1000000) → (∀ w ∈ B, AnyD b S (k + 2) w) → ((∀ d ∈ (zipD A B).map gzD, AnyD b S (k + 2) d) ∧ (((zipD A B).map gzD).map (wtD S (k + 2))).sum = (B.map (wtD S (k + 2))).sum)
  | [], [], _, _, _, _ => ⟨fun _ h => (nomatch h), rfl⟩
  | [], _ :: _, h, _, _, _ => absurd h (by simp)
  | _ :: _, [], h, _, _, _ => absurd h (by simp)
  | x :: A, y :: B, h, hA, hB, hV => by
    obtain ⟨i1, i2⟩ := zip_wt (A := A) (B := B) (by simpa using h) (fun w hw => hA w (List.mem_cons_of_mem _ hw)) (fun w hw => hB w (List.mem_cons_of_mem _ hw)) fun w hw => hV w (List.mem_cons_of_mem _ hw)
    obtain ⟨v, p1, rfl, v0, v1⟩ := hA x List.mem_cons_self
    obtain ⟨v', p2, rfl, _, _⟩ := hB y List.mem_cons_self
    have hy := hV _ List.mem_cons_self
    have e : (zipD (.tup [.int v, p1] :: A) (.tup [.int v', p2] :: B)).map gzD = .tup [.int v, p2] :: (zipD A B).map gzD := rfl
    rw [e]
    constructor
    · intro d hd
      rcases List.mem_cons.mp hd with rfl | hd
      · refine ⟨by simp, fun e he => ?_⟩
        rcases List.mem_cons.mp he with rfl | he
        · exact any_int (by omega)
        · cases List.mem_singleton.mp he
          exact hy.2 p2 (by simp)
      · exact i1 d hd
    · rw [List.map_cons, List.sum_cons, i2, List.map_cons, List.sum_cons]
      rfl
def xF (f : Nat) : Nat := 1200 * f + 4000
theorem gbent_w {c : Nat} (h : BookOk m u rows) (hu : u ≤ 1000) (u1 : 1 ≤ u) (hm : m ≤ 1000000) (hr : rows.length ≤ 1000) : ∀ (f : Nat) (sm : List Int) (d : D) (S : Store) (n0 : Nat) (Q : RV → Store → Prop) (X : QX), f ≤ 12 → IsB rows u f sm d → sm ≠ [] → sm.length ≤ 45 → (∀ k ∈ sm, 0 ≤ k ∧ k < rows.length) → BagC S b c n0 → n0 + 20 * f + 100 < 10 ^ 9 →
    (∀ d S', AnyV b S' (3 * f + 8) (xF f) d → BagC S' b c (n0 + 20 * f) → Grow b S S' → Q (.d d) S') → WR (okR (m_l_gbent f [.d (.loc b), .d (bookD m rows), .d d] S)) Q X
  | 0, _, _, _, _, _, _, _, hB, _, _, _, _, _, _ => hB.elim
  | f + 1, sm, d, S, n0, Q, X, hf12, hB, hn, hl, hs, hbg, hn0, k => by
    have ih := gbent_w (c := c) h hu u1 hm hr f
    obtain ⟨r0, a0, hr0⟩ := row0_w h
    have q1 : eqF S (.d (.str "known")) (.d (.str "known")) = some (.d (.bl true)) := by
      rw [eq_str (by decide +kernel) (by decide +kernel), decide_eq_true rfl]
    have q2 : eqF S (.d (.str "ask")) (.d (.str "known")) = some (.d (.bl false)) := by
      rw [eq_str (by decide +kernel) (by decide +kernel)]
      have e : decide (Str.ofString "ask" = Str.ofString "known") = false := by decide +kernel
      rw [e]
    have hgall := fun S => gall_w (S := S) (rows := rows) (u := u) 12 sm d hn (by omega) (isB_up (f + 1) 12 sm d hf12 hB)
    rcases ask_facts (b := b) h hu hm hr hn hl hs hB with rfl | ⟨x, WS, rfl, hx, wl2, wl45, hway, hWV⟩
    · have hend := fun (Q : RV → Store → Prop) (X : QX) => gbent_end_w (Q := Q) (X := X) hbg (by omega) hn hl fun k hk => by have := hs k hk; omega
      unfold knownD
      refine fun_w ?_
      unfold mb_l_gbent
      generalize m_l_gbent f = M
      generalize m_l_gbent_end = ME at hend ⊢
      simp! only [q1]
      exact hend _ _ fun d S' hd b1 g1 => k d S' (hd.up (by omega) (by unfold xF; omega)) (b1.mono (by omega)) g1
    · refine fun_w ?_
      unfold mb_l_gbent
      generalize m_l_gbent f = M at ih ⊢
      simp! only [q2]
      refine gdraw_c hbg (by omega) (by omega) (by omega) fun way S1 w0 w10 b1 g1 => ?_
      walk_at "w"
      refine gdraw_c b1 (by omega) (by omega) (by omega) fun at1 S2 at0 atl b2 g2 => ?_
      obtain ⟨wy, ew, hwm, _⟩ := DM.atI_get (l := WS) at0 atl
      obtain ⟨bx, q, pl, rfl, bx0, bxm, hpB, hqn, hql, hqs⟩ := hway _ hwm
      have e39 : (10 : Int) ^ Int.toNat 39 = 10 ^ 39 := rfl
      simp! only [ew, a0]
      rw [List.length_map, hr0]
      refine ⟨cpow (by decide) (by decide) (by decide) (by decide), by decide, ?_⟩
      refine gdraw_c b2 (by omega) (by omega) (by omega) fun o S3 o0 o10 b3 g3 => ?_
      obtain ⟨odd, eo, hom, _⟩ := DM.atI_get (l := [D.int ((x : Int) + 1), D.int ((x : Int) - 1), D.int (u : Int), D.int (-1), D.bl true, D.bl false, D.non, D.str (Str.ofString "0"), D.int (10 ^ Int.toNat 39), D.int 0]) o0 o10
      have i1 : ∀ (S : Store) (k : Nat) (i : Int), 1 ≤ k → -(2 ^ 190) < i ∧ i < 2 ^ 190 → AnyV b S k 1 (.int i) := fun S k i hk h => intV h hk
      have nonV : ∀ (S : Store) (k : Nat), 1 ≤ k → AnyV b S k 1 .non := fun S k hk => leafV (d := .non) (show AnyD b S 1 .non from trivial) hk
      have wV : ∀ (S : Store) (k : Nat) (w : Str), 1 ≤ k → PyData.strOk w = true → PyData.strOk (reprText w) = true → (reprText w).length ≤ 200 → AnyV b S k 1 (.str w) := fun S k w hk h1 h2 h3 => wordV h1 h2 h3 hk
      have hodd : ∀ (S : Store) (k : Nat), 1 ≤ k → AnyV b S k 1 odd := fun S k hk => by
        simp only [List.mem_cons, List.not_mem_nil, or_false] at hom
        rcases hom with rfl | rfl | rfl | rfl | rfl | rfl | rfl | rfl | rfl | rfl
        · exact i1 _ _ _ hk (by omega)
        · exact i1 _ _ _ hk (by omega)
        · exact i1 _ _ _ hk (by omega)
        · exact i1 _ _ _ hk (by omega)
        · exact leafV (d := .bl true) (show AnyD b S 1 (.bl true) from trivial) hk
        · exact leafV (d := .bl false) (show AnyD b S 1 (.bl false) from trivial) hk
        · exact nonV _ _ hk
        · exact wV _ _ _ hk (by decide +kernel) (by decide +kernel) (by decide +kernel)
        · rw [e39]; exact i1 _ _ _ hk (by omega)
        · exact i1 _ _ _ hk (by omega)
      clear hom
      obtain ⟨T1, hT1, eT1, sT1⟩ : ∃ T, cutL WS none (some at1) = T ∧ T = WS.take at1.toNat ∧ T.Sublist WS := ⟨_, rfl, cut_to at0, cut_sub _ _ _⟩
      obtain ⟨T2, hT2, eT2, sT2⟩ : ∃ T, cutL WS (some (at1 + 1)) none = T ∧ T = WS.drop (at1 + 1).toNat ∧ T.Sublist WS := ⟨_, rfl, cut_from (by omega), cut_sub _ _ _⟩
      obtain ⟨T3, hT3, sT3⟩ : ∃ T, cutL WS (some at1) (some (at1 + 1)) = T ∧ T.Sublist WS := ⟨_, rfl, cut_sub _ _ _⟩
      obtain ⟨T4, hT4, sT4⟩ : ∃ T, cutL WS (some (if at1 - 1 > 0 then at1 - 1 else 0)) (some at1) = T ∧ T.Sublist WS := ⟨_, rfl, cut_sub _ _ _⟩
      have l12 : T1.length + T2.length ≤ 45 := by
        rw [eT1, eT2, List.length_take, List.length_drop]
        omega
      have lT1 : T1.length ≤ 45 := by omega
      have lT2 : T2.length ≤ 45 := by omega
      have lT3 : T3.length ≤ 45 := Nat.le_trans sT3.length_le wl45
      have lT4 : T4.length ≤ 45 := Nat.le_trans sT4.length_le wl45
      have wsV : ∀ (S : Store) (T : List D), T.Sublist WS → AnyL b S (3 * f + 1) 45 540 T := fun S T hT => ((hWV S).up (Nat.le_refl _) wl45 (Nat.le_refl _)).sub hT
      have plV : ∀ S : Store, AnyV b S (3 * f) 540 pl := fun S => ((hWV S).mem hwm).inv_tup.mem (by simp)
      have planV : ∀ S : Store, AnyV b S (3 * f + 3) 545 (.tup [.str "ask", .int (x : Int), .tup WS]) := fun S => ((AnyL.cons (wV S (3 * f + 2) (Str.ofString "ask") (by omega) (by decide +kernel) (by decide +kernel) (by decide +kernel)) (.cons (i1 S (3 * f + 2) (x : Int) (by omega) (by omega)) (.one ((wsV S WS (List.Sublist.refl _)).tup (by omega))))).tup (by omega)).up (by omega) (by omega)
      have fin : ∀ (S : Store) (n2 w2 : Nat) (T : List D), AnyL b S (3 * f + 9) n2 w2 T → n2 ≤ 100 → w2 + 10 ≤ xF (f + 1) → AnyV b S (3 * (f + 1) + 8) (xF (f + 1)) (.tup [.str "ask", .int (x : Int), .tup T]) := fun S n2 w2 T h1 h2 h3 => ((AnyL.cons (wV S (3 * f + 10) (Str.ofString "ask") (by omega) (by decide +kernel) (by decide +kernel) (by decide +kernel)) (.cons (i1 S (3 * f + 10) (x : Int) (by omega) (by omega)) (.one (h1.tup (Nat.le_trans h2 (by decide)))))).tup (by omega)).up (by omega) (by omega)
      have xge : 5200 ≤ xF (f + 1) := by unfold xF; omega
      have put : ∀ (S : Store) (w2 : Nat) (e : D), AnyV b S (3 * f + 9) w2 e → w2 + 1100 ≤ xF (f + 1) → AnyV b S (3 * (f + 1) + 8) (xF (f + 1)) (.tup [.str "ask", .int (x : Int), .tup (T1 ++ [e] ++ T2)]) := fun S w2 e he hw2 => fin S _ _ _ ((((wsV S T1 sT1).up (k2 := 3 * f + 9) (by omega) (Nat.le_refl _) (Nat.le_refl _)).app (.one he)).app ((wsV S T2 sT2).up (k2 := 3 * f + 9) (by omega) (Nat.le_refl _) (Nat.le_refl _))) (by omega) (by omega)
      have sz : ∀ n : Nat, n ≤ 300 → n ≤ sizeLine := fun n h => le_line (by omega)
      have hg3 : Grow b S S3 := ((Grow.of_same g1).trans (Grow.of_same g2)).trans (Grow.of_same g3)
      have b3 := b3.mono (k := n0 + 3) (by omega)
      simp! only [eo]
      refine kIf_br (fun z5 => ?_) (fun z5 => ?_)
      · simp! only [hT1, hT2]
        refine ih q pl S3 (n0 + 3) _ _ (by omega) hpB hqn (by omega) (fun k hk => hs k (hqs k hk)) b3 (by omega) fun d' S4 hd b4 g4 => ?_
        simp! only [hT2]
        refine ⟨by decide, by decide, sz _ (by omega), sz _ (by simp only [List.length_append, List.length_cons, List.length_nil]; omega), by decide, ?_⟩
        refine k _ S4 (put S4 (xF f + 3) _ (((AnyL.cons (i1 S4 (3 * f + 8) bx (by omega) (by omega)) (.one hd)).tup (by omega)).up (Nat.le_refl _) (by omega)) (by unfold xF; omega)) (b4.mono (by omega)) (hg3.trans g4)
      · walk_at "w"
        refine kIf_br (fun z6 => ?_) (fun z6 => ?_)
        · walk_at "w"
          refine ⟨by decide, ?_⟩
          have := ((AnyL.cons (wV S3 (3 * f + 2) (Str.ofString "ask") (by omega) (by decide +kernel) (by decide +kernel) (by decide +kernel)) (.cons (hodd S3 (3 * f + 2) (by omega)) (.one ((wsV S3 WS (List.Sublist.refl _)).tup (by omega))))).tup (by omega))
          exact k _ S3 (this.up (by omega) (by omega)) (b3.mono (by omega)) hg3
        · walk_at "w"
          refine kIf_br (fun z7 => ?_) (fun z7 => ?_)
          · simp! only [hT1, hT2]
            refine ⟨by decide, by decide, sz _ (by omega), sz _ (by simp only [List.length_append, List.length_cons, List.length_nil]; omega), by decide, ?_⟩
            refine k _ S3 (put S3 545 _ (((AnyL.cons (hodd S3 (3 * f + 8) (by omega)) (.one ((plV S3).up (k2 := 3 * f + 8) (w2 := 540) (by omega) (Nat.le_refl _)))).tup (by omega)).up (Nat.le_refl _) (by omega)) (by omega)) (b3.mono (by omega)) hg3
          · walk_at "w"
            refine kIf_br (fun z8 => ?_) (fun z8 => ?_)
            · simp! only [hT1, hT2, hT3, hT4]
              refine ⟨sz _ (by omega), sz _ (by omega), by decide, ⟨_, st_new⟩, sz _ (by omega), sz _ (by simp only [List.length_append]; omega), ?_⟩
              have hE : Ext S3 (S3 ++ [O.lst [D.tup (T1 ++ T2), D.tup (WS ++ T3), D.tup WS.reverse]]) := Ext.push
              have hl1 : (S3 ++ [O.lst [D.tup (T1 ++ T2), D.tup (WS ++ T3), D.tup WS.reverse]])[S3.length]? = some (.lst [D.tup (T1 ++ T2), D.tup (WS ++ T3), D.tup WS.reverse]) := st_new
              have b4 := b3.ext hE
              have n1 : S3.length ≠ b := by have := b3.lt; omega
              have n1c : S3.length ≠ c := by have := b3.lt; omega
              have hg4 := hg3.trans (Grow.of_ext (b := b) hE)
              have hNl : S3.length < (S3 ++ [O.lst [D.tup (T1 ++ T2), D.tup (WS ++ T3), D.tup WS.reverse]]).length := by simp
              have hN0 : S.length ≤ S3.length := hg3.1
              generalize (S3 ++ [O.lst [D.tup (T1 ++ T2), D.tup (WS ++ T3), D.tup WS.reverse]]) = S4 at hE hl1 b4 hg4 hNl ⊢
              generalize S3.length = N1 at hl1 n1 n1c hNl hN0 ⊢
              obtain ⟨T7, hT7, eT7, sT7⟩ : ∃ T, cutL WS (some 1) none = T ∧ T = WS.drop 1 ∧ T.Sublist WS := ⟨_, rfl, cut_from (by decide), cut_sub _ _ _⟩
              obtain ⟨T8, hT8, eT8, sT8⟩ : ∃ T, cutL WS none (some 1) = T ∧ T = WS.take 1 ∧ T.Sublist WS := ⟨_, rfl, cut_to (by decide), cut_sub _ _ _⟩
              have l78 : (T7 ++ T8).length = WS.length := by
                rw [eT7, eT8, List.length_append, List.length_drop, List.length_take]
                omega
              have l78' : T7.length + T8.length = WS.length := by rw [← l78, List.length_append]
              simp! only [hl1, hT7, hT8]
              have hl2 := set_at (o' := O.lst ([D.tup (T1 ++ T2), D.tup (WS ++ T3), D.tup WS.reverse] ++ [D.tup (T1 ++ T4 ++ T2)])) hl1
              refine ⟨by decide, ⟨_, hl2⟩, sz _ (by omega), ?_⟩
              have b5 : BagC (S4.set N1 (O.lst ([D.tup (T1 ++ T2), D.tup (WS ++ T3), D.tup WS.reverse] ++ [D.tup (T1 ++ T4 ++ T2)]))) b c (n0 + 3) := b4.set n1 n1c
              have hg5 : Grow b S (S4.set N1 (O.lst ([D.tup (T1 ++ T2), D.tup (WS ++ T3), D.tup WS.reverse] ++ [D.tup (T1 ++ T4 ++ T2)]))) := hg4.set hN0
              generalize S4.set N1 (O.lst ([D.tup (T1 ++ T2), D.tup (WS ++ T3), D.tup WS.reverse] ++ [D.tup (T1 ++ T4 ++ T2)])) = S5 at hl2 b5 hg5 ⊢
              have hwA : ∀ w ∈ WS, ∃ (v : Int) (pl : D), w = .tup [.int v, pl] ∧ 0 ≤ v ∧ v < 1000000 := fun w hw => by
                obtain ⟨v, q, pl, e, v0, v1, _⟩ := hway w hw
                exact ⟨v, pl, e, v0, by omega⟩
              have hwR : ∀ w ∈ T7 ++ T8, w ∈ WS := fun w hw => by
                rcases List.mem_append.mp hw with hw | hw
                · exact sT7.subset hw
                · exact sT8.subset hw
              refine comp_map gzD (sz _ (by unfold zipD; rw [List.length_zipWith]; omega)) trivial (fun j y hy => ?_) ?_
              · obtain ⟨y1, y2, e1, e2, rfl⟩ := DM.zipD_get hy
                obtain ⟨v1, p1, rfl, _, _⟩ := hwA y1 (List.mem_of_getElem? e1)
                obtain ⟨v2, p2, rfl, _, _⟩ := hwA y2 (hwR _ (List.mem_of_getElem? e2))
                refine ⟨_, rfl, ?_⟩
                walk_at "w"
                exact ⟨by decide, rfl⟩
              · have hz := fun S => zip_wt (b := b) (S := S) (k := 3 * f) (A := WS) (B := T7 ++ T8) l78.symm hwA (fun w hw => hwA w (hwR w hw)) fun w hw => ((hWV S).any w (hwR w hw)).up (by omega)
                have hzl : ((zipD WS (T7 ++ T8)).map gzD).length = WS.length := by
                  rw [List.length_map]
                  unfold zipD
                  rw [List.length_zipWith, l78, Nat.min_self]
                generalize (zipD WS (T7 ++ T8)).map gzD = ZW at hz hzl ⊢
                simp! only [hl2]
                refine ⟨(show (4 : Nat) < sizeLine by decide), ?_⟩
                have hl3 := set_at (o' := O.lst ([D.tup (T1 ++ T2), D.tup (WS ++ T3), D.tup WS.reverse] ++ [D.tup (T1 ++ T4 ++ T2)] ++ [D.tup ZW])) hl2
                have b6 : BagC (S5.set N1 (O.lst ([D.tup (T1 ++ T2), D.tup (WS ++ T3), D.tup WS.reverse] ++ [D.tup (T1 ++ T4 ++ T2)] ++ [D.tup ZW]))) b c (n0 + 3) := b5.set n1 n1c
                have hg6 : Grow b S (S5.set N1 (O.lst ([D.tup (T1 ++ T2), D.tup (WS ++ T3), D.tup WS.reverse] ++ [D.tup (T1 ++ T4 ++ T2)] ++ [D.tup ZW]))) := hg5.set hN0
                generalize S5.set N1 (O.lst ([D.tup (T1 ++ T2), D.tup (WS ++ T3), D.tup WS.reverse] ++ [D.tup (T1 ++ T4 ++ T2)] ++ [D.tup ZW])) = S6 at hl3 b6 hg6 ⊢
                refine gdraw_c b6 (by omega) (by omega) (by omega) fun o2 S7 o20 o25 b7 g7 => ?_
                have hl4 := (g7.2 _ n1).trans hl3
                obtain ⟨e, ee, hem, _⟩ := DM.atI_get (l := [D.tup (T1 ++ T2), D.tup (WS ++ T3), D.tup WS.reverse] ++ [D.tup (T1 ++ T4 ++ T2)] ++ [D.tup ZW]) o20 o25
                simp! only [hl4, ee]
                refine ⟨by decide, k _ S7 ?_ (b7.mono (by omega)) (hg6.trans (Grow.of_same g7))⟩
                have ws9 : ∀ T : List D, T.Sublist WS → AnyL b S7 (3 * f + 9) T.length 540 T := fun T hT => tightL ((wsV S7 T hT).up (k2 := 3 * f + 9) (by omega) (Nat.le_refl _) (Nat.le_refl _))
                have zV : AnyL b S7 (3 * f + 9) 45 1100 ZW := by
                  obtain ⟨z1, z2⟩ := hz S7
                  have hw78 := ((wsV S7 T7 sT7).app (wsV S7 T8 sT8)).wt
                  have hup : ∀ w ∈ T7 ++ T8, wtD S7 (3 * f + 2) w = wtD S7 (3 * f + 1) w := fun w hw => wt_up (Grow.refl _ _) ((hWV S7).any w (hwR w hw)) (by omega)
                  have e1 : ((T7 ++ T8).map (wtD S7 (3 * f + 2))) = (T7 ++ T8).map (wtD S7 (3 * f + 1)) := List.map_congr_left hup
                  rw [e1] at z2
                  have z3 : AnyL b S7 (3 * f + 2) 45 1080 ZW := ⟨by omega, z1, by rw [z2]; omega⟩
                  exact z3.up (by omega) (by omega) (by omega)
                simp only [List.mem_append, List.mem_cons, List.not_mem_nil, or_false] at hem
                rcases hem with ((rfl | rfl | rfl) | rfl) | rfl
                · exact fin S7 _ _ _ ((ws9 T1 sT1).app (ws9 T2 sT2)) (by omega) (by omega)
                · exact fin S7 _ _ _ ((ws9 WS (List.Sublist.refl _)).app (ws9 T3 sT3)) (by omega) (by omega)
                · exact fin S7 _ _ _ (ws9 WS (List.Sublist.refl _)).rev (by omega) (by omega)
                · exact fin S7 _ _ _ (((ws9 T1 sT1).app (ws9 T4 sT4)).app (ws9 T2 sT2)) (by omega) (by omega)
                · exact fin S7 _ _ _ zV (by omega) (by omega)
            · walk_at "w"
              refine kIf_br (fun z9 => ?_) (fun z9 => ?_)
              · simp! only [hT1, hT2]
                refine ⟨by decide, by decide, by decide, by decide, by decide, by decide, ?_⟩
                have hE : Ext S3 (S3 ++ [O.lst [D.int bx, pl]] ++ [O.lst [D.str (Str.ofString "0")]]) := Ext.push.trans Ext.push
                have hlA : (S3 ++ [O.lst [D.int bx, pl]] ++ [O.lst [D.str (Str.ofString "0")]])[S3.length]? = some (.lst [D.int bx, pl]) := st_old st_new
                have hlB : (S3 ++ [O.lst [D.int bx, pl]] ++ [O.lst [D.str (Str.ofString "0")]])[(S3 ++ [O.lst [D.int bx, pl]]).length]? = some (.lst [D.str (Str.ofString "0")]) := st_new
                have b4 := b3.ext hE
                have n1 : S3.length ≠ b := by have := b3.lt; omega
                have n2 : (S3 ++ [O.lst [D.int bx, pl]]).length ≠ b := by have := b3.lt; rw [List.length_append]; omega
                have hg4 := hg3.trans (Grow.of_ext (b := b) hE)
                generalize S3 ++ [O.lst [D.int bx, pl]] ++ [O.lst [D.str (Str.ofString "0")]] = S4 at hE hlA hlB b4 hg4 ⊢
                generalize (S3 ++ [O.lst [D.int bx, pl]]).length = N2 at hlB n2 ⊢
                generalize S3.length = N1 at hlA n1 ⊢
                refine gdraw_c b4 (by omega) (by omega) (by omega) fun o2 S5 o20 o28 b5 g5 => ?_
                obtain ⟨e, ee, hem, _⟩ := DM.atI_get (l := [D.tup [D.int bx], D.loc N1, D.tup [D.int bx, pl, pl], pl, D.non, D.int 5, D.tup [D.loc N2, pl], D.str (Str.ofString "0")]) o20 o28
                have hlA := (g5.2 _ n1).trans hlA
                have hlB := (g5.2 _ n2).trans hlB
                have pV := (plV S5).up (k2 := 3 * f + 7) (w2 := 540) (by omega) (Nat.le_refl _)
                have bV := i1 S5 (3 * f + 7) bx (by omega) (by omega)
                have heV : AnyV b S5 (3 * f + 9) 1100 e := by
                  simp only [List.mem_cons, List.not_mem_nil, or_false] at hem
                  rcases hem with rfl | rfl | rfl | rfl | rfl | rfl | rfl | rfl
                  · exact ((AnyL.one bV).tup (by omega)).up (by omega) (by omega)
                  · exact ((AnyL.cons bV (.one pV)).lst (by omega) hlA n1).up (by omega) (by omega)
                  · exact ((AnyL.cons bV (.cons pV (.one pV))).tup (by omega)).up (by omega) (by omega)
                  · exact pV.up (by omega) (by omega)
                  · exact (nonV S5 1 (by omega)).up (by omega) (by omega)
                  · exact (i1 S5 1 5 (by omega) (by omega)).up (by omega) (by omega)
                  · exact ((AnyL.cons (((AnyL.one (wV S5 1 (Str.ofString "0") (by omega) (by decide +kernel) (by decide +kernel) (by decide +kernel))).lst (by omega) hlB n2).up (k2 := 3 * f + 7) (w2 := 2) (by omega) (by omega)) (.one pV)).tup (by omega)).up (by omega) (by omega)
                  · exact (wV S5 1 (Str.ofString "0") (by omega) (by decide +kernel) (by decide +kernel) (by decide +kernel)).up (by omega) (by omega)
                simp! only [ee, hT2]
                refine ⟨by decide, sz _ (by omega), sz _ (by simp only [List.length_append, List.length_cons, List.length_nil]; omega), by decide, ?_⟩
                exact k _ S5 (put S5 1100 e heV (by omega)) (b5.mono (by omega)) (hg4.trans (Grow.of_same g5))
              · obtain ⟨gl, gl1, gl2, gl3, _⟩ := hgall S
                have hga : ∀ S, ∃ l : List Int, l ≠ [] ∧ l.length ≤ sm.length ∧ (∀ k ∈ l, k ∈ sm) ∧ m_l_gall 12 [.d (.tup [.str "ask", .int (x : Int), .tup WS])] S = .ok (.d (rowL l)) S := hgall
                clear hgall
                generalize m_l_gall 12 = GA at hga ⊢
                walk_at "w"
                refine ⟨by decide, by decide, by decide, by decide, by decide, by decide, by decide, ?_⟩
                have hE : Ext S3 (S3 ++ [O.lst WS] ++ [O.lst [D.str (Str.ofString "ask"), D.int (x : Int), D.tup WS]]) := Ext.push.trans Ext.push
                have hlA : (S3 ++ [O.lst WS] ++ [O.lst [D.str (Str.ofString "ask"), D.int (x : Int), D.tup WS]])[S3.length]? = some (.lst WS) := st_old st_new
                have hlB : (S3 ++ [O.lst WS] ++ [O.lst [D.str (Str.ofString "ask"), D.int (x : Int), D.tup WS]])[(S3 ++ [O.lst WS]).length]? = some (.lst [D.str (Str.ofString "ask"), D.int (x : Int), D.tup WS]) := st_new
                have b4 := b3.ext hE
                have n1 : S3.length ≠ b := by have := b3.lt; omega
                have n2 : (S3 ++ [O.lst WS]).length ≠ b := by have := b3.lt; rw [List.length_append]; omega
                have hg4 := hg3.trans (Grow.of_ext (b := b) hE)
                generalize S3 ++ [O.lst WS] ++ [O.lst [D.str (Str.ofString "ask"), D.int (x : Int), D.tup WS]] = S4 at hE hlA hlB b4 hg4 ⊢
                generalize (S3 ++ [O.lst WS]).length = N2 at hlB n2 ⊢
                generalize S3.length = N1 at hlA n1 ⊢
                obtain ⟨gl, gl1, gl2, gl3, gl4⟩ := hga S4
                simp! only [gl4, a0]
                rw [List.length_map, hr0]
                refine gdraw_c b4 (by omega) (by omega) (by omega) fun v13 S5 v130 v13u b5 g5 => ?_
                obtain ⟨g0, eg0, hg0m, _⟩ := DM.atI_get (l := gl) (i := 0) (by omega) (by have := List.length_pos_iff.mpr gl1; omega)
                have eg : atI (gl.map D.int) 0 = some (.int g0) := by rw [atI_map, eg0]; rfl
                obtain ⟨k0, kl⟩ := hs g0 (gl3 g0 hg0m)
                obtain ⟨eb1, eb2⟩ := rowK_at h k0 kl
                have ax := row_atI (r := rowK rows g0) (x := v13) v130 (by omega)
                have hax : 0 ≤ at_ (rowK rows g0) v13 ∧ at_ (rowK rows g0) v13 < m := by
                  have hrm : rowK rows g0 ∈ rows := by
                    unfold rowK
                    rw [List.getElem?_eq_getElem (by omega)]
                    exact List.getElem_mem _
                  refine (h.ok _ hrm).2 _ ?_
                  unfold at_
                  rw [List.getD_eq_getElem?_getD, List.getElem?_eq_getElem (by omega)]
                  exact List.getElem_mem _
                generalize at_ (rowK rows g0) v13 = bv at ax hax
                simp! only [eg, eb1, ax]
                refine ⟨by decide, by decide, by decide, by decide, by decide, by decide, by decide, by decide, by decide, by decide, by decide, by decide, by decide, by decide, (show (14 : Nat) ≤ sizeLine by decide), by decide, ?_⟩
                have hlC : (S5 ++ [O.lst [D.str (Str.ofString "ask")]])[S5.length]? = some (.lst [D.str (Str.ofString "ask")]) := st_new
                have n5 : S5.length ≠ b := by have := b5.lt; omega
                have b6 := b5.ext (S' := S5 ++ [O.lst [D.str (Str.ofString "ask")]]) Ext.push
                have hlA := (g5.2 _ n1).trans hlA
                have hlB := (g5.2 _ n2).trans hlB
                have hlA : (S5 ++ [O.lst [D.str (Str.ofString "ask")]])[N1]? = some (.lst WS) := st_old hlA
                have hlB : (S5 ++ [O.lst [D.str (Str.ofString "ask")]])[N2]? = some (.lst [D.str (Str.ofString "ask"), D.int (x : Int), D.tup WS]) := st_old hlB
                have hg6 : Grow b S (S5 ++ [O.lst [D.str (Str.ofString "ask")]]) := (hg4.trans (Grow.of_same g5)).trans Grow.push
                generalize S5 ++ [O.lst [D.str (Str.ofString "ask")]] = S6 at hlA hlB hlC b6 hg6 ⊢
                generalize S5.length = N5 at hlC n5 ⊢
                refine gdraw_c b6 (by omega) (by omega) (by omega) fun o2 S7 o20 o26 b7 g7 => ?_
                obtain ⟨w6, e6, h6, _⟩ := DM.atI_get (l := [D.str (Str.ofString ""), D.str (Str.ofString "Ask"), D.str (Str.ofString "ask "), D.str (Str.ofString "as"), D.non, D.int 0]) o20 o26
                have h6V : ∀ (S : Store) (k : Nat), 1 ≤ k → AnyV b S k 1 w6 := fun S k hk => by
                  simp only [List.mem_cons, List.not_mem_nil, or_false] at h6
                  rcases h6 with rfl | rfl | rfl | rfl | rfl | rfl
                  · exact wV S k _ hk (by decide +kernel) (by decide +kernel) (by decide +kernel)
                  · exact wV S k _ hk (by decide +kernel) (by decide +kernel) (by decide +kernel)
                  · exact wV S k _ hk (by decide +kernel) (by decide +kernel) (by decide +kernel)
                  · exact wV S k _ hk (by decide +kernel) (by decide +kernel) (by decide +kernel)
                  · exact nonV S k hk
                  · exact i1 S k 0 hk (by omega)
                simp! only [e6]
                refine ⟨by decide, by decide, by decide, (show (19 : Nat) ≤ sizeLine by decide), ?_⟩
                generalize hLF : (([_, _, _, _, _, _] : List D) ++ [_, _, _] ++ [_, _, _, _, _] ++ [_, _, _, _, _]) = LF
                have hLFl : LF.length = 19 := by rw [← hLF]; rfl
                refine gdraw_c b7 (by omega) (by omega) (by omega) fun o3 S8 o30 o319 b8 g8 => ?_
                have hlA := (g8.2 _ n1).trans ((g7.2 _ n1).trans hlA)
                have hlB := (g8.2 _ n2).trans ((g7.2 _ n2).trans hlB)
                have hlC := (g8.2 _ n5).trans ((g7.2 _ n5).trans hlC)
                obtain ⟨e, ee, hem, _⟩ := DM.atI_get (l := LF) o30 (by omega)
                simp! only [ee]
                refine k e S8 ?_ (b8.mono (by omega)) ((hg6.trans (Grow.of_same g7)).trans (Grow.of_same g8))
                have askV : AnyV b S8 (3 * f + 9) 1 (.str "ask") := wV S8 _ (Str.ofString "ask") (by omega) (by decide +kernel) (by decide +kernel) (by decide +kernel)
                have xV : AnyV b S8 (3 * f + 9) 1 (.int (x : Int)) := i1 S8 _ _ (by omega) (by omega)
                have wsL := (wsV S8 WS (List.Sublist.refl _))
                have wsT : AnyV b S8 (3 * f + 9) 541 (.tup WS) := (wsL.tup (by omega)).up (by omega) (by omega)
                have plan9 : AnyV b S8 (3 * f + 4) 545 (.tup [.str "ask", .int (x : Int), .tup WS]) := (planV S8).up (by omega) (by omega)
                have glV : AnyV b S8 (3 * f + 9) 46 (rowL gl) := ((rowVV (b := b) (S := S8) (k := 1) (s := gl) (by omega) (by omega) fun z hz => by have := hs z (gl3 z hz); omega).tup (by omega)).up (by omega) (by omega)
                have up9 : ∀ (n2 w2 : Nat) (T : List D), AnyL b S8 (3 * f + 9) n2 w2 T → n2 ≤ 100 → w2 + 1 ≤ 5200 → AnyV b S8 (3 * (f + 1) + 8) (xF (f + 1)) (.tup T) := fun n2 w2 T h1 h2 h3 => (h1.tup (Nat.le_trans h2 (by decide))).up (by omega) (by omega)
                have up1 : ∀ (w2 : Nat) (d : D), AnyV b S8 (3 * f + 9) w2 d → w2 ≤ 5200 → AnyV b S8 (3 * (f + 1) + 8) (xF (f + 1)) d := fun w2 d h1 h2 => h1.up (by omega) (by omega)
                have knV : AnyV b S8 (3 * f + 9) 1 (.str "known") := wV S8 _ (Str.ofString "known") (by omega) (by decide +kernel) (by decide +kernel) (by decide +kernel)
                rw [← hLF] at hem
                simp only [List.mem_append, List.mem_cons, List.not_mem_nil, or_false] at hem
                rcases hem with (((rfl | rfl | rfl | rfl | rfl | rfl) | rfl | rfl | rfl) | rfl | rfl | rfl | rfl | rfl) | rfl | rfl | rfl | rfl | rfl
                · exact up9 _ _ _ (.cons askV (.cons xV (.one ((wsL.lst (by omega) hlA n1).up (k2 := 3 * f + 9) (w2 := 541) (by omega) (by omega))))) (by omega) (by omega)
                · exact up9 _ _ _ (.cons askV (.one xV)) (by omega) (by omega)
                · exact up9 _ _ _ (.cons askV (.cons xV (.cons wsT (.one ((AnyL.nil (k := 3 * f + 8)).tup (by omega)))))) (by omega) (by omega)
                · exact up1 _ _ ((AnyL.cons (k := 3 * f + 8) (wV S8 _ (Str.ofString "ask") (by omega) (by decide +kernel) (by decide +kernel) (by decide +kernel)) (.cons (i1 S8 _ _ (by omega) (by omega)) (.one ((wsL.tup (by omega)).up (k2 := 3 * f + 8) (w2 := 541) (by omega) (by omega))))).lst (by omega) hlB n2) (by omega)
                · exact up9 _ _ _ (.cons knV (.cons xV (.one wsT))) (by omega) (by omega)
                · exact up9 _ _ _ (.cons (wV S8 _ (Str.ofString "asks") (by omega) (by decide +kernel) (by decide +kernel) (by decide +kernel)) (.cons xV (.one wsT))) (by omega) (by omega)
                · exact up9 _ _ _ (.cons knV (.one glV)) (by omega) (by omega)
                · exact up9 _ _ _ (.cons askV (.cons (i1 S8 _ _ (by omega) (by omega)) (.one (((AnyL.one ((AnyL.cons (i1 S8 (3 * f + 4) bv (by omega) (by omega)) (.one plan9)).tup (by omega))).tup (by omega)).up (k2 := 3 * f + 9) (w2 := 560) (by omega) (by omega))))) (by omega) (by omega)
                · exact up9 _ _ _ (.cons knV (.one glV)) (by omega) (by omega)
                · exact up9 _ _ _ (.cons askV (.cons xV (.one (nonV S8 _ (by omega))))) (by omega) (by omega)
                · exact up9 _ _ _ (.cons askV (.cons xV (.one (i1 S8 _ 7 (by omega) (by omega))))) (by omega) (by omega)
                · exact up9 _ _ _ (.cons askV (.cons xV (.one (wV S8 _ (Str.ofString "0") (by omega) (by decide +kernel) (by decide +kernel) (by decide +kernel))))) (by omega) (by omega)
                · exact up9 _ _ _ (.cons (((AnyL.one (wV S8 1 (Str.ofString "ask") (by omega) (by decide +kernel) (by decide +kernel) (by decide +kernel))).lst (by omega) hlC n5).up (k2 := 3 * f + 9) (w2 := 2) (by omega) (by omega)) (.cons xV (.one wsT))) (by omega) (by omega)
                · exact up9 _ _ _ (.cons askV (.cons (nonV S8 _ (by omega)) (.one wsT))) (by omega) (by omega)
                · exact up1 _ _ (nonV S8 _ (by omega)) (by omega)
                · exact up1 _ _ (i1 S8 _ 5 (by omega) (by omega)) (by omega)
                · exact up9 _ _ _ .nil (by omega) (by omega)
                · exact up1 _ _ wsT (by omega)
                · exact up9 _ _ _ (.cons (h6V S8 _ (by omega)) (.cons xV (.one wsT))) (by omega) (by omega)
end
section
variable {m : Int} {u b n : Nat} {rows : List (List Int)} {S : Store}
theorem q_kk {S : Store} : eqF S (.d (.str "known")) (.d (.str "known")) = some (.d (.bl true)) := by
  rw [eq_str (by decide +kernel) (by decide +kernel), decide_eq_true rfl]
theorem q_ak {S : Store} : eqF S (.d (.str "ask")) (.d (.str "known")) = some (.d (.bl false)) := by
  rw [eq_str (by decide +kernel) (by decide +kernel)]
  have e : decide (Str.ofString "ask" = Str.ofString "known") = false := by decide +kernel
  rw [e]
theorem q_aa {S : Store} : eqF S (.d (.str "ask")) (.d (.str "ask")) = some (.d (.bl true)) := by
  rw [eq_str (by decide +kernel) (by decide +kernel), decide_eq_true rfl]
theorem q_ka {S : Store} : eqF S (.d (.str "known")) (.d (.str "ask")) = some (.d (.bl false)) := by
  rw [eq_str (by decide +kernel) (by decide +kernel)]
  have e : decide (Str.ofString "known" = Str.ofString "ask") = false := by decide +kernel
  rw [e]
theorem askV {k : Nat} {S : Store} (hk : 1 ≤ k) : AnyV b S k 1 (.str "ask") := wordV (by decide +kernel) (by decide +kernel) (by decide +kernel) hk
theorem knownV {k : Nat} {S : Store} (hk : 1 ≤ k) : AnyV b S k 1 (.str "known") := wordV (by decide +kernel) (by decide +kernel) (by decide +kernel) hk
theorem gtwice_w {c : Nat} (h : BookOk m u rows) (hu : u ≤ 1000) (u1 : 1 ≤ u) (hm : m ≤ 1000000) (hr : rows.length ≤ 1000) {f : Nat} {sm : List Int} {d : D} {n0 : Nat} {Q : RV → Store → Prop} {X : QX} (hf : f ≤ 12) (hB : IsB rows u f sm d) (hn : sm ≠ []) (hl : sm.length ≤ 45) (hs : ∀ k ∈ sm, 0 ≤ k ∧ k < rows.length) (hbg : BagC S b c n0) (hn0 : n0 + 2000 < 10 ^ 9)
    (k : ∀ d S', AnyV b S' 50 45000 d → BagC S' b c (n0 + 700) → Grow b S S' → Q (.d d) S') : WR (okR (m_l_gtwice [.d (.loc b), .d (bookD m rows), .d d] S)) Q X := by
  cases f with
  | zero => exact hB.elim
  | succ f =>
  rcases ask_facts (b := b) h hu hm hr hn hl hs hB with rfl | ⟨x, WS, rfl, hx, wl2, wl45, hway, hWV⟩
  · have hend := fun (Q : RV → Store → Prop) (X : QX) => gbent_end_w (Q := Q) (X := X) hbg (by omega) hn hl fun k hk => by have := hs k hk; omega
    unfold knownD
    refine fun_w ?_
    unfold mb_l_gtwice
    generalize m_l_gbent_end = ME at hend ⊢
    simp! only [q_kk]
    exact hend _ _ fun d S' hd b1 g1 => k d S' (hd.up (by omega) (by omega)) (b1.mono (by omega)) g1
  · have hbe := fun (q : List Int) (pl : D) (S : Store) (n0 : Nat) (Q : RV → Store → Prop) (X : QX) (hq : IsB rows u 12 q pl) => gbent_w (b := b) (c := c) h hu u1 hm hr 12 q pl S n0 Q X (by omega) hq
    refine fun_w ?_
    unfold mb_l_gtwice
    generalize m_l_gbent 12 = M at hbe ⊢
    obtain ⟨T1, hT1, eT1, sT1⟩ : ∃ T, cutL WS none (some 2) = T ∧ T = WS.take 2 ∧ T.Sublist WS := ⟨_, rfl, cut_to (by omega), cut_sub _ _ _⟩
    obtain ⟨T2, hT2, eT2, sT2⟩ : ∃ T, cutL WS (some 2) none = T ∧ T = WS.drop 2 ∧ T.Sublist WS := ⟨_, rfl, cut_from (by omega), cut_sub _ _ _⟩
    have l1 : T1.length = 2 := by rw [eT1, List.length_take]; omega
    have l2 : T2.length ≤ 45 := by rw [eT2, List.length_drop]; omega
    simp! only [q_ak, hT1]
    refine comp_inv (fun j ys S' => ys.length = j ∧ AnyL b S' 46 j (18500 * j) ys ∧ BagC S' b c (n0 + 300 * j) ∧ Grow b S S') (le_line (by omega)) ⟨rfl, .nil, hbg, Grow.refl _ _⟩ (fun _ _ _ _ => trivial) (fun j y ys S2 hy hI => ?_) (fun ys S2 hI => ?_)
    · obtain ⟨hyl, hyV, b2, g2⟩ := hI
      have hj := (List.getElem?_eq_some_iff.mp hy).1
      obtain ⟨v, q, pl, rfl, v0, vm, hpB, hqn, hql, hqs⟩ := hway y (sT1.subset (List.mem_of_getElem? hy))
      refine ⟨_, rfl, ?_⟩
      walk_at "w"
      refine ⟨fun _ => ?_, fun z => by cases z⟩
      refine hbe q pl S2 (n0 + 300 * j) _ _ (isB_up f 12 q pl (by omega) hpB) hqn (by omega) (fun k hk => hs k (hqs k hk)) b2 (by omega) fun d S3 hd b3 g3 => ?_
      walk_at "w"
      have hi : AnyV b S3 46 18500 (.tup [.int v, d]) := ((AnyL.cons (intV (b := b) (S := S3) (k := 45) (i := v) (by omega) (by omega)) (.one (hd.up (k2 := 45) (w2 := 18400) (by omega) (by unfold xF; omega)))).tup (by omega)).up (by omega) (by omega)
      exact ⟨by decide, by rw [List.length_append, hyl]; rfl, ((hyV.grow g3).app (.one hi)).up (Nat.le_refl _) (by omega) (by omega), b3.mono (by omega), g2.trans g3⟩
    · obtain ⟨hyl, hyV, b2, g2⟩ := hI
      simp! only [hT2]
      rw [l1] at hyl hyV b2
      have hW : AnyL b S2 46 45 540 T2 := ((hWV S2).up (by omega) wl45 (Nat.le_refl _)).sub sT2
      refine ⟨le_line (by omega), by decide, k _ S2 ?_ (b2.mono (by omega)) g2⟩
      exact ((AnyL.cons (askV (b := b) (S := S2) (k := 47) (by omega)) (.cons (intV (b := b) (S := S2) (k := 47) (i := (x : Int)) (by omega) (by omega)) (.one ((hyV.app hW).tup (by omega))))).tup (by omega)).up (by omega) (by omega)
theorem anyl_map {A : Type} {k w : Nat} {S : Store} {g : A → D} : ∀ {L : List A}, (∀ v ∈ L, AnyV b S k w (g v)) → AnyL b S k L.length (w * L.length) (L.map g)
  | [], _ => .nil
  | v :: L, h => (AnyL.cons (h v List.mem_cons_self) (anyl_map fun x hx => h x (List.mem_cons_of_mem _ hx))).up (Nat.le_refl _) (Nat.le_refl _) (by rw [List.length_cons, Nat.mul_succ]; omega)
theorem anyl_perm {k n w : Nat} {S : Store} {ds es : List D} (h : AnyL b S k n w ds) (p : es.Perm ds) : AnyL b S k n w es :=
  ⟨by rw [p.length_eq]; exact h.len, fun d hd => h.any d (p.mem_iff.mp hd), by rw [(p.map (wtD S k)).sum_nat]; exact h.wt⟩
structure WsF (WS : List D) (ns : List Int) (ks : List (Key × D)) : Prop where
  fs : WS.mapM firstI = some ns
  kv : WS.mapM pairKV = some ks
  key : ks.map (·.1) = ns.map Sum.inl
theorem wsF_nil : WsF [] [] [] := ⟨rfl, rfl, rfl⟩
theorem wsF_cons {v : Int} {pl : D} {WS : List D} {ns : List Int} {ks : List (Key × D)} (h : WsF WS ns ks) : WsF (.tup [.int v, pl] :: WS) (v :: ns) ((.inl v, pl) :: ks) :=
  ⟨by rw [List.mapM_cons, h.fs]; rfl, by rw [List.mapM_cons, h.kv]; rfl, by rw [List.map_cons, List.map_cons, h.key]⟩
theorem wsF_app {A B : List D} {ns ms : List Int} (h : A.mapM firstI = some ns) (h2 : B.mapM firstI = some ms) : (A ++ B).mapM firstI = some (ns ++ ms) := by
  rw [List.mapM_append, h, h2]
  rfl
theorem wsF_map {e : D} : ∀ L : List Int, (L.map fun v => D.tup [.int v, e]).mapM firstI = some L
  | [] => rfl
  | v :: L => by rw [List.map_cons, List.mapM_cons, wsF_map L]; rfl
theorem wsF_ways : ∀ {PL : List (Int × List Int)} {pls : List D}, pls.length = PL.length → ∃ ks, WsF (waysD PL pls) (PL.map (·.1)) ks
  | [], [], _ => ⟨[], wsF_nil⟩
  | [], _ :: _, h => by cases h
  | _ :: _, [], h => by cases h
  | p :: PL, pl :: pls, h => by
    obtain ⟨ks, hk⟩ := wsF_ways (PL := PL) (pls := pls) (by simpa using h)
    exact ⟨_, wsF_cons hk⟩
theorem merge_val {v : Int} : ∀ {ks : List (Key × D)} {acc : List (List Key × D)}, (valD (mergeD acc ks) [Sum.inl v]).isSome = true ↔ ((valD acc [Sum.inl v]).isSome = true ∨ (Sum.inl v : Key) ∈ ks.map (·.1))
  | [], acc => by simp [mergeD]
  | kx :: ks, acc => by
    have ih := merge_val (v := v) (ks := ks) (acc := putD acc [kx.1] kx.2)
    show (valD (mergeD (putD acc [kx.1] kx.2) ks) [Sum.inl v]).isSome = true ↔ _
    rw [ih, val_put, List.map_cons, List.mem_cons]
    by_cases e : kx.1 = Sum.inl v
    · rw [if_pos (by rw [e])]
      exact ⟨fun _ => .inr (.inl e.symm), fun _ => .inl rfl⟩
    · rw [if_neg (fun z => e (by simpa using z))]
      exact ⟨fun z => z.elim .inl fun w => .inr (.inr w), fun z => z.elim .inl fun w => w.elim (fun q => absurd q.symm e) .inr⟩
theorem wsF_in {WS : List D} {ns : List Int} {ks : List (Key × D)} (h : WsF WS ns ks) (v : Int) : (valD (mergeD [] ks) [Sum.inl v]).isSome = decide (v ∈ ns) := by
  rw [Bool.eq_iff_iff, merge_val, h.key, decide_eq_true_iff]
  have e0 : (valD ([] : List (List Key × D)) [Sum.inl v]).isSome = false := rfl
  rw [e0]
  refine ⟨fun z => z.elim (fun w => nomatch w) fun w => ?_, fun z => .inr (List.mem_map.mpr ⟨v, z, rfl⟩)⟩
  obtain ⟨y, hy, e⟩ := List.mem_map.mp w
  cases e
  exact hy
theorem ask_boxes (h : BookOk m u rows) {f : Nat} {sm : List Int} {x : Nat} {WS : List D} (hs : ∀ k ∈ sm, 0 ≤ k ∧ k < rows.length) (hB : IsB rows u (f + 1) sm (.tup [.str "ask", .int (x : Int), .tup WS])) :
    ∃ ns ks, WsF WS ns ks ∧ ns.Nodup ∧ ns.length = WS.length ∧ ns.length ≤ sm.length ∧ ∀ v ∈ ns, 0 ≤ v ∧ v < m := by
  rcases hB with ⟨e, _⟩ | ⟨x', pls, hx, h1, hpl, e, _⟩
  · unfold knownD at e
    injection e with e
    have := congrArg List.length e
    simp at this
  · injection e with e
    injection e with _ e
    injection e with e1 e
    injection e with e2 e
    injection e2 with e2
    subst e2
    obtain ⟨ks, hk⟩ := wsF_ways (PL := pAt rows sm (x' : Int)) (pls := pls) hpl
    refine ⟨_, ks, hk, ?_, by rw [List.length_map, ways_len hpl], by rw [List.length_map]; exact parts_le sm _, fun v hv => ?_⟩
    · rw [parts_fst]
      exact (setI_rises _).imp fun {a b} h => by omega
    · obtain ⟨p, hp, rfl⟩ := List.mem_map.mp hv
      obtain ⟨e4, _⟩ := parts_mem hp
      obtain ⟨k, hk, e⟩ := List.mem_map.mp e4
      obtain ⟨k0, kl⟩ := hs k hk
      obtain ⟨b1, b2⟩ := rowK_at h k0 kl
      have hrm : rowK rows k ∈ rows := by
        unfold rowK
        rw [List.getElem?_eq_getElem (by omega)]
        exact List.getElem_mem _
      have hxl : x' < (rowK rows k).length := by rw [b2]; exact hx
      have hmm : at_ (rowK rows k) (x' : Int) ∈ rowK rows k := by
        unfold at_
        rw [List.getD_eq_getElem?_getD, List.getElem?_eq_getElem (by omega)]
        exact List.getElem_mem _
      have hbx := (h.ok _ hrm).2 _ hmm
      rw [e] at hbx
      exact hbx
theorem box_left {ns : List Int} {m : Int} (m1 : 1 ≤ m) (hb : ∀ v ∈ ns, 0 ≤ v ∧ v < m) (hl : ns.length ≤ 40) : ∃ j : Nat, (j : Int) < (if (40 : Int) < m then 40 else m) + 2 ∧ (j : Int) ∉ ns := by
  by_cases h : (40 : Int) < m
  · rw [if_pos h]
    have : ∃ j ∈ List.range 41, ((j : Nat) : Int) ∉ ns := by
      refine Classical.byContradiction fun z => ?_
      have nd : ((List.range 41).map fun j : Nat => (j : Int)).Nodup := List.pairwise_map.mpr (List.nodup_range.imp fun {a b} h => by omega)
      have := nd.length_le_of_subset (l₂ := ns) fun v hv => by
        obtain ⟨j, hj, rfl⟩ := List.mem_map.mp hv
        exact Classical.byContradiction fun w => z ⟨j, hj, w⟩
      rw [List.length_map, List.length_range] at this
      omega
    obtain ⟨j, hj, hn⟩ := this
    have := List.mem_range.mp hj
    exact ⟨j, by omega, hn⟩
  · rw [if_neg h]
    refine ⟨m.toNat, by omega, fun z => ?_⟩
    have := (hb _ z).2
    omega
noncomputable def tailM : MS := (sSeq (sSet 8 (eDictT (eVar 5)))
    (sSeq (sSet 9 (eComp (miRng1 (eOp2 addF (eOpN minF [(eOp2 ixF (eVar 1) (eC (.int 0))), (eC (.int 40))]) (eC (.int 2)))) (tgName 11) (bOf (eOp2 dninKF (eVar 11) (eVar 8))) (eVar 11) [11]))
    (sSeq (sCut (sIf (bOf (eOp2 eqF (eCall m_l_gdraw [(eVar 0), (eC (.int 2))]) (eC (.int 0)))) (sSet 9 (eLst [(eOp2 ixF (eVar 9) (eCall m_l_gdraw [(eVar 0), (eOpN lenF [(eVar 9)])]))])) sNop))
    (sSeq (sSetS 10 (eOp2 ixF (eLst [(eTup [(eC (.str "known")), (eTup [])]), (eTup [(eC (.str "known")), (eSl none (some (eC (.int 1))) (eCall (m_l_gall 12) [(eVar 2)]))]), (eVar 2)]) (eCall m_l_gdraw [(eVar 0), (eC (.int 3))])))
    (sRet (eTup [(eVar 3), (eVar 4), (eOpN tupF [(eSortTP (eOp2 addF (eVar 5) (eOpN tupF [(eComp (miSeq (qC (eVar 9))) (tgName 11) bYes (eTup [(eVar 11), (eVar 10)]) [11])])))])]))))))
def mF (f : Nat) : Nat := 24500 + 1200 * f
theorem tailM_w {c : Nat} (h : BookOk m u rows) (m1 : 1 ≤ m) (hm : m ≤ 1000000) {f : Nat} {sm : List Int} {x : Nat} {ws : List D} {at1 : Int} {n0 : Nat} {Q : RV → Store → Prop} {X : QX} (hf : f + 1 ≤ 12) (hB : IsB rows u (f + 1) sm (.tup [.str "ask", .int (x : Int), .tup ws])) (hn : sm ≠ []) (hl : sm.length ≤ 40) (hs : ∀ k ∈ sm, 0 ≤ k ∧ k < rows.length) (hr : rows.length ≤ 1000) (hx : x < 1000000) (wl45 : ws.length ≤ 45) (hWV : ∀ S, AnyL b S (3 * f + 1) ws.length 540 ws) (hbg : BagC S b c n0) (hn0 : n0 + 100 < 10 ^ 9)
    (k : ∀ d S', AnyV b S' (3 * (f + 1) + 8) (mF (f + 1)) d → BagC S' b c (n0 + 10) → Grow b S S' → Q (.d d) S') :
    WS (tailM [.v (.loc b), .v (bookD m rows), .v (.tup [.str "ask", .int (x : Int), .tup ws]), .v (.str "ask"), .v (.int (x : Int)), .v (.tup ws), .v (.int at1), .no, .no, .no, .no, .no] S) (EnF Q X) := by
  obtain ⟨ns, ks, hF, nd, nl, nsl, hb⟩ := ask_boxes h hs hB
  have hgall := fun S => gall_w (S := S) (rows := rows) (u := u) 12 sm _ hn (by omega) (isB_up (f + 1) 12 sm _ hf hB)
  have planV : ∀ S : Store, AnyV b S (3 * f + 3) 545 (.tup [.str "ask", .int (x : Int), .tup ws]) := fun S => ((AnyL.cons (askV (b := b) (S := S) (k := 3 * f + 2) (by omega)) (.cons (intV (b := b) (S := S) (k := 3 * f + 2) (i := (x : Int)) (by omega) (by omega)) (.one ((hWV S).tup (by omega))))).tup (by omega)).up (by omega) (by omega)
  unfold tailM
  generalize m_l_gall 12 = MG at hgall ⊢
  have eb : bookD m rows = D.tup [.int m, .tup (rows.map rowL)] := rfl
  rw [eb]
  simp! only [w_dictT, kDictT_t hF.kv]
  have b1 : BagC (S ++ [O.dic false (mergeD [] ks)]) b c n0 := bag_push hbg
  have g1 : Grow b S (S ++ [O.dic false (mergeD [] ks)]) := Grow.of_ext Ext.push
  have e1 : (S ++ [O.dic false (mergeD [] ks)])[S.length]? = some (.dic false (mergeD [] ks)) := st_new
  generalize S.length = p at e1 ⊢
  generalize S ++ [O.dic false (mergeD [] ks)] = S1 at b1 g1 e1 ⊢
  obtain ⟨N, hN⟩ : ∃ N : Int, N = (if (40 : Int) < m then 40 else m) + 2 := ⟨_, rfl⟩
  have hN2 : 3 ≤ N ∧ N ≤ 42 := by rw [hN]; split <;> omega
  rw [← hN]
  refine ⟨⟨by omega, by omega⟩, ?_⟩
  have ed : ∀ j : Int, dninKF S1 (.d (.int j)) (.d (.loc p)) = some (.d (.bl (!decide (j ∈ ns)))) := fun j => by rw [dninK_e e1 (k := .inl j) rfl, wsF_in hF]
  refine comp_fil (ck := fun _ => True) (l := List.range N.toNat) (F := fun j : Nat => D.int (j : Int)) (fun j => !decide ((j : Int) ∈ ns)) (fun j : Nat => D.int (j : Int)) (le_line (by rw [List.length_range]; omega)) trivial (fun j a ha => ⟨_, rfl, ?_, fun _ => ?_⟩) ?_
  · simp! only [ed]
  · walk_at "w"
  obtain ⟨OL, hOL⟩ : ∃ OL : List Int, OL = ((List.range N.toNat).filter fun j : Nat => !decide ((j : Int) ∈ ns)).map fun j : Nat => (j : Int) := ⟨_, rfl⟩
  have eOL : (((List.range N.toNat).filter fun j : Nat => !decide ((j : Int) ∈ ns)).map fun j : Nat => D.int (j : Int)) = OL.map D.int := by rw [hOL, List.map_map]; rfl
  rw [eOL]
  have oN : OL ≠ [] := fun z => by
    obtain ⟨j, hj, hjn⟩ := box_left m1 hb (by omega)
    rw [← hN] at hj
    have : (j : Int) ∈ OL := by
      rw [hOL]
      exact List.mem_map.mpr ⟨j, List.mem_filter.mpr ⟨List.mem_range.mpr (by omega), by simpa using hjn⟩, rfl⟩
    rw [z] at this
    cases this
  have oM : ∀ v ∈ OL, v ∉ ns ∧ 0 ≤ v ∧ v < 42 := fun v hv => by
    rw [hOL] at hv
    obtain ⟨j, hj, rfl⟩ := List.mem_map.mp hv
    obtain ⟨h1, h2⟩ := List.mem_filter.mp hj
    have := List.mem_range.mp h1
    exact ⟨by simpa using h2, by omega, by omega⟩
  have oD : OL.Nodup := by
    rw [hOL]
    exact List.pairwise_map.mpr ((List.nodup_range.filter _).imp fun {a b} h => by omega)
  have oL : OL.length ≤ 42 := by
    rw [hOL, List.length_map]
    refine Nat.le_trans (List.length_filter_le ..) ?_
    rw [List.length_range]
    omega
  have oP := List.length_pos_iff.mpr oN
  clear hOL eOL
  walk_at "w"
  refine cut_seq (fun es T => ∃ L : List Int, es = [.v (.loc b), .v (.tup [.int m, .tup (rows.map rowL)]), .v (.tup [.str "ask", .int (x : Int), .tup ws]), .v (.str "ask"), .v (.int (x : Int)), .v (.tup ws), .v (.int at1), .no, .v (.loc p), .own (L.map .int), .no, .no] ∧ L.Nodup ∧ L.length ≤ 42 ∧ (∀ v ∈ L, v ∉ ns ∧ 0 ≤ v ∧ v < 42) ∧ BagC T b c (n0 + 5) ∧ Grow b S T) ?_ (fun es T hI => ?_)
  · walk_at "w"
    refine gdraw_c b1 (by omega) (by omega) (by omega) fun v S2 v0 v2 b2 g2 => ?_
    walk_at "w"
    refine kIf_br (fun hc => ?_) (fun hc => ?_)
    · walk_at "w"
      refine gdraw_c b2 (by omega) (by rw [List.length_map]; omega) (by rw [List.length_map]; omega) fun w S3 w0 w2 b3 g3 => ?_
      rw [List.length_map] at w2
      obtain ⟨o, eo, om, _⟩ := DM.atI_get (l := OL) w0 w2
      have ev : atI (OL.map D.int) w = some (.int o) := by rw [atI_map, eo]; rfl
      simp! only [ev]
      exact ⟨by decide, [o], rfl, by simp, by simp, fun v hv => by cases List.mem_singleton.mp hv; exact oM o om, b3.mono (by omega), (g1.trans (Grow.of_same g2)).trans (Grow.of_same g3)⟩
    · walk_at "w"
      exact ⟨OL, rfl, oD, oL, oM, b2.mono (by omega), g1.trans (Grow.of_same g2)⟩
  obtain ⟨L, rfl, LD, LL, LM, b4, g4⟩ := hI
  obtain ⟨gl, gn, gll, gm, eg⟩ := hgall T
  have c1 : cutL (gl.map D.int) none (some 1) = (gl.take 1).map D.int := by rw [cut_to (by omega), ← List.map_take]; rfl
  simp! only [eg, rowL, c1]
  refine ⟨by decide, by decide, by decide, by decide, ?_⟩
  refine gdraw_c b4 (by omega) (by omega) (by omega) fun v T2 v0 v3 b5 g5 => ?_
  obtain ⟨e, ee, em, _⟩ := DM.atI_get (l := [D.tup [D.str "known", D.tup []], D.tup [D.str "known", D.tup ((gl.take 1).map D.int)], D.tup [D.str "ask", D.int (x : Int), D.tup ws]]) v0 v3
  have ee : atI [D.tup [D.str (Str.ofString "known"), D.tup []], D.tup [D.str (Str.ofString "known"), D.tup ((gl.take 1).map D.int)], D.tup [D.str (Str.ofString "ask"), D.int (x : Int), D.tup ws]] v = some e := ee
  have eV : ∀ S, AnyV b S (3 * f + 3) 545 e := fun S => by
    simp only [List.mem_cons, List.not_mem_nil, or_false] at em
    rcases em with rfl | rfl | rfl
    · exact ((AnyL.cons (knownV (b := b) (S := S) (k := 3 * f + 2) (by omega)) (.one ((AnyL.nil (k := 3 * f + 1)).tup (by omega)))).tup (by omega)).up (by omega) (by omega)
    · have hg : ∀ y ∈ gl.take 1, AnyV b S (3 * f + 1) 1 (.int y) := fun y hy => by
        obtain ⟨y0, y1⟩ := hs y (gm y (List.mem_of_mem_take hy))
        exact intV ⟨by omega, by omega⟩ (by omega)
      have hL := anyl_map (g := D.int) hg
      have h1 : (gl.take 1).length ≤ 1 := by rw [List.length_take]; omega
      exact ((AnyL.cons (knownV (b := b) (S := S) (k := 3 * f + 2) (by omega)) (.one (hL.tup (by omega)))).tup (by omega)).up (by omega) (by omega)
    · exact planV S
  clear em
  simp! only [ee, w_sortTP]
  have nw : (L.map fun v => D.tup [.int v, e]).length = L.length := List.length_map _
  refine comp_all (ck := fun _ => True) (l := L) (F := D.int) (fun v => D.tup [.int v, e]) (le_line (by omega)) trivial (fun j a ha => ⟨_, rfl, ?_⟩) ?_
  · walk_at "w"
    trivial
  have e6 : (ws ++ L.map fun v => D.tup [.int v, e]).mapM firstI = some (ns ++ L) := wsF_app hF.fs (wsF_map L)
  have nd6 : (ns ++ L).Nodup := List.nodup_append.mpr ⟨nd, LD, fun a ha c hc z => (LM c hc).1 (z ▸ ha)⟩
  have pm := sortFI_perm (ds := ws ++ L.map fun v => D.tup [.int v, e]) (ns := ns ++ L) (by rw [List.length_append, List.length_append, nw, nl])
  simp! only [w_sortTP, kSortTP_t e6 nd6]
  have hnew : AnyL b T2 (3 * f + 4) L.length (547 * L.length) (L.map fun v => D.tup [.int v, e]) := anyl_map fun v hv => by
    have := LM v hv
    exact ((AnyL.cons (intV (b := b) (S := T2) (k := 3 * f + 3) (i := v) (by omega) (by omega)) (.one (eV T2))).tup (by omega)).up (by omega) (by omega)
  have hall := anyl_perm (((hWV T2).up (k2 := 3 * f + 4) (by omega) (Nat.le_refl _) (Nat.le_refl _)).app hnew) pm
  generalize sortFI (ws ++ L.map fun v => D.tup [.int v, e]) (ns ++ L) = R at hall ⊢
  refine ⟨le_line (by omega), by decide, k _ T2 ?_ (b5.mono (by omega)) (g4.trans (Grow.of_same g5))⟩
  exact ((AnyL.cons (askV (b := b) (S := T2) (k := 3 * f + 5) (by omega)) (.cons (intV (b := b) (S := T2) (k := 3 * f + 5) (i := (x : Int)) (by omega) (by omega)) (.one (hall.tup (by omega))))).tup (by omega)).up (by omega) (by unfold mF; omega)
theorem gmore_w {c : Nat} (h : BookOk m u rows) (hu : u ≤ 1000) (m1 : 1 ≤ m) (hm : m ≤ 1000000) (hr : rows.length ≤ 1000) : ∀ (f : Nat) (sm : List Int) (d : D) (S : Store) (n0 : Nat) (Q : RV → Store → Prop) (X : QX), f ≤ 12 → IsB rows u f sm d → sm ≠ [] → sm.length ≤ 40 → (∀ k ∈ sm, 0 ≤ k ∧ k < rows.length) → BagC S b c n0 → n0 + 20 * f + 200 < 10 ^ 9 →
    (∀ d S', AnyV b S' (3 * f + 8) (mF f) d → BagC S' b c (n0 + 20 * f) → Grow b S S' → Q (.d d) S') → WR (okR (m_l_gmore_ways f [.d (.loc b), .d (bookD m rows), .d d] S)) Q X
  | 0, _, _, _, _, _, _, _, hB, _, _, _, _, _, _ => hB.elim
  | f + 1, sm, d, S, n0, Q, X, hf12, hB, hn, hl, hs, hbg, hn0, k => by
    have ih := gmore_w (c := c) h hu m1 hm hr f
    rcases ask_facts (b := b) h hu hm hr hn (by omega) hs hB with rfl | ⟨x, ws, rfl, hx, wl2, wl45, hway, hWV⟩
    · have hend := fun (Q : RV → Store → Prop) (X : QX) => gbent_end_w (Q := Q) (X := X) hbg (by omega) hn (by omega) fun k hk => by have := hs k hk; omega
      unfold knownD
      refine fun_w ?_
      unfold mb_l_gmore_ways
      generalize m_l_gmore_ways f = M
      generalize m_l_gbent_end = ME at hend ⊢
      simp! only [q_kk]
      exact hend _ _ fun d S' hd b1 g1 => k d S' (hd.up (by omega) (by unfold mF; omega)) (b1.mono (by omega)) g1
    · refine fun_w ?_
      unfold mb_l_gmore_ways
      generalize m_l_gmore_ways f = M at ih ⊢
      have tl := fun (T : Store) (at1 : Int) (n1 : Nat) (hb1 : BagC T b c n1) (h1 : n1 + 100 < 10 ^ 9) (k : ∀ d S', AnyV b S' (3 * (f + 1) + 8) (mF (f + 1)) d → BagC S' b c (n1 + 10) → Grow b T S' → Q (.d d) S') => tailM_w (S := T) (at1 := at1) (Q := Q) (X := X) h m1 hm hf12 hB hn hl hs hr (by omega) wl45 hWV hb1 h1 k
      simp! only [q_ak]
      refine gdraw_c hbg (by omega) (by omega) (by omega) fun at1 S1 at0 atl b1 g1 => ?_
      obtain ⟨wy, ew, hwm, _⟩ := DM.atI_get (l := ws) at0 atl
      obtain ⟨bx, q, pl, rfl, bx0, bxm, hpB, hqn, hql, hqs⟩ := hway _ hwm
      simp! only [ew]
      cases f with
      | zero => exact hpB.elim
      | succ f =>
      rcases ask_facts (b := b) h hu hm hr hqn (by omega) (fun k hk => hs k (hqs k hk)) hpB with rfl | ⟨x2, ws2, rfl, _⟩
      · have z := tl S1 at1 (n0 + 1) b1 (by omega) fun d S' hd hb hg => k d S' hd (hb.mono (by omega)) ((Grow.of_same g1).trans hg)
        unfold tailM at z
        simp only [QV_v, QV_own, QV_bor, QI_d, QI_l, QO_d, QO_l, QO_ite, QO_A, QA_s, w_C, w_var, kA2_e, kB2_dd, kB2_ld, kB2_dl, kB2_ll, w_op2, kA1_d, w_op1, kArg_e, kArg2_d, kArg2_l, w_args0, w_args, kOpN_e, w_opN, kIt_e, kIt2_e, kIt3_e, w_items0, w_items, kTup_e, kLst_e, w_tup, w_lst, kB_e, w_bOf, kAnd_t, kAnd_f, kOr_t, kOr_f, kNot_e, w_bAnd, w_bOr, w_bNot, w_bYes, kEAnd_t, kEAnd_f, kEOr_t, kEOr_f, kENot_e, w_eAnd, w_eOr, w_eNot, kEIf_t, kEIf_f, w_eIf, kCall_e, w_call, okR_d, okR_l, okR_ex, kPart2_e, w_part0, w_part, kSl3_d, kSl3_l, kSl2_e, kSl_e, w_sl, kCh_e, kCh1_e, kCh2_t, kCh2_f, w_chain, seq_nx, seq_rt, seq_bk, seq_ct, seq_ex, kX_e, w_seq, w_nop, w_brk, w_cnt, kIf_t, kIf_f, w_if, kRet_d, kRet_l, w_ret, w_retN, QRV_v, QRV_own, w_retV, kDrop_e, w_drop, kSet_d, kSet_l, w_set, kSetS_d, kSetS_l, w_setS, QMv_e, w_move, QG_e, tg_name, tg_tup, tg_tup1, tg_tup2, tg_tup3, tg_tup4, tg_nil, tg_cons, ob_some, kAsg_d, w_asg, kPar_e, w_par, kSixN_e, kSixL_e, QSt_e, kSixO_e, kSixT_e, QSix_o, QSix_l, kSix_d, kSix_l, w_setix, kAppO_d, kAppO_l, QAppT_e, kAppT_d, kAppT_l, QApp_o, QApp_l, w_app, kExtO_l, QExt_o, QS_t, QS_l, QSL_e, QQ_b, QQ_v, w_qVar, kQE_l, kQE_d, w_qE, kQC_l, kQC_d, w_qC, kSeq_e, w_miSeq, kRev_e, w_miRev, kEnum_e, w_miEnum, kZip_e, kZip2_e, w_miZip, kR1_e, w_miRng1, kR2_e, kR3_e, rngD_len, rngD2_len, chk_t, chk_p, chk_s, isT_t, isT_p, isT_s, w_for, lp_nx, lp_rt, lp_bk, lp_ct, lp_ex, frzS_e, frzQ_o, frzQ_v, frzQ_b, frzQ_n, unfS_e, unfQ_o, unfQ_v, unfQ_b, unfQ_n, unf_nx, unf_rt, unf_bk, unf_ct, unf_ex, w_frz, w_comp, EnF_nx, EnF_d, EnF_l, EnF_ex, slot_d, slot_f, add_ii, add_ss, add_tt, add_ll, sub_ii, mul_ii, mul_li, div_ii, mod_ii, pow_ii, shl_ii, shr_ii, lt_ii, le_ii, gt_ii, ge_ii, neg_i, and_ii, or_ii, xor_ii, is_n, isnt_n, isNon_n, isNon_b, isNon_i, isNon_s, isNon_t, isNon_o, isNon_l, isNon_e, lstO_e, lstOf_l, lstOf_o, om_some, ix_t, ix_s, ix_l, ix_o, len_s, len_t, len_l, len_o, sum_l, all_l, any_l, max_ii, min_ii, max_l, min_l, tup_t, tup_l, tup_o, list_t, list_l, list_o, int_i, int_b, str_i, sl_t, sl_l, sl_s, eq_ii, ne_ii, eq_bb, ne_bb, isi_non_int, isi_non_bool, isi_non_str, isi_non_tuple, isi_non_list, isi_non_tl, isi_bl_int, isi_bl_bool, isi_bl_str, isi_bl_tuple, isi_bl_list, isi_bl_tl, isi_int_int, isi_int_bool, isi_int_str, isi_int_tuple, isi_int_list, isi_int_tl, isi_str_int, isi_str_bool, isi_str_str, isi_str_tuple, isi_str_list, isi_str_tl, isi_tup_int, isi_tup_bool, isi_tup_str, isi_tup_tuple, isi_tup_list, isi_tup_tl, isi_l_int, isi_l_bool, isi_l_str, isi_l_tuple, isi_l_list, isi_l_tl, ixN_00, ixN_1, ixN_2, ixN_3, atI_0, atI_1, atI_2, atI_3, intsOf_map, blsOf_map, List.set_cons_zero, List.set_cons_succ, List.getElem?_cons_zero, List.getElem?_cons_succ, List.replicate_succ, List.replicate_zero, List.length_cons, List.length_nil, Nat.zero_add, Nat.add_zero, Nat.reduceAdd, Nat.reduceSub, Nat.reduceLT, Nat.reduceLeDiff, Option.some.injEq, true_and, and_true, List.map_cons, List.map_nil, decide_true, decide_false, Bool.not_true, Bool.not_false, wipeE, QO_gd, startE_1, startE_2, startE_3, startE_4, fb_nx, fl_nx, fl_ct, fl_bk, fl_rt, fl_ex, cut_nx, cut_rt, cut_bk, cut_ct, cut_ex, w_raise, tr_nx, tr_rt, tr_bk, tr_ct, tr_ex, w_try, QCL_e, w_callL, kMt2_e, kMt_l, kMt_s, kMt_o, w_mt, if_true, QXT_e, kExtT_l, kExtT_d, QExt2_o, QExt2_l, exo_e, w_ext2, w_rng2, w_rng3, isB_bb, isntB_bb, beq_self_eq_true, w_ins0, QIns_o, kInsO_d, w_revE, kRevE_l, w_miEnumA, kEnumA_e, w_popAt, kPop_e, kPop2_e, sorted_e, divmod_e, w_lenSet, kLenSet_l, kRevA_l, kRevA_t, kRevA_o, w_revA, kZipM_e, kZipM2_e, w_miZipM, kAppD_e, kAppD2_e, w_appD] at z
        unfold knownD
        simp! only [q_ka]
        exact z
      · simp! only [q_aa]
        refine gdraw_c b1 (by omega) (by omega) (by omega) fun v S2 v0 v2 b2 g2 => ?_
        walk_at "w"
        refine kIf_br (fun hc => ?_) (fun hc => ?_)
        · obtain ⟨T1, hT1, eT1, sT1⟩ : ∃ T, cutL ws none (some at1) = T ∧ T = ws.take at1.toNat ∧ T.Sublist ws := ⟨_, rfl, cut_to at0, cut_sub _ _ _⟩
          obtain ⟨T2, hT2, eT2, sT2⟩ : ∃ T, cutL ws (some (at1 + 1)) none = T ∧ T = ws.drop (at1 + 1).toNat ∧ T.Sublist ws := ⟨_, rfl, cut_from (by omega), cut_sub _ _ _⟩
          have l12 : T1.length + T2.length ≤ 45 := by
            rw [eT1, eT2, List.length_take, List.length_drop]
            omega
          simp! only [ew, hT1]
          refine ih q _ S2 (n0 + 2) _ _ (by omega) hpB hqn (by omega) (fun k hk => hs k (hqs k hk)) (b2.mono (by omega)) (by omega) fun d' S3 hd b3 g3 => ?_
          simp! only [hT1, hT2]
          have wsV : ∀ (T : List D), T.Sublist ws → AnyL b S3 (3 * (f + 1) + 9) 45 540 T := fun T hT => ((hWV S3).up (by omega) wl45 (Nat.le_refl _)).sub hT
          have hi : AnyV b S3 (3 * (f + 1) + 9) (mF (f + 1) + 3) (.tup [.int bx, d']) := ((AnyL.cons (intV (b := b) (S := S3) (k := 3 * (f + 1) + 8) (i := bx) (by omega) (by omega)) (.one hd)).tup (by omega)).up (by omega) (by omega)
          refine ⟨by decide, by decide, le_line (by omega), le_line (by simp only [List.length_append, List.length_cons, List.length_nil]; omega), by decide, k _ S3 ?_ (b3.mono (by omega)) (((Grow.of_same g1).trans (Grow.of_same g2)).trans g3)⟩
          exact ((AnyL.cons (askV (b := b) (S := S3) (k := 3 * (f + 1) + 10) (by omega)) (.cons (intV (b := b) (S := S3) (k := 3 * (f + 1) + 10) (i := (x : Int)) (by omega) (by omega)) (.one ((((wsV T1 sT1).app (.one hi)).app (wsV T2 sT2)).tup (by omega))))).tup (by omega)).up (by omega) (by unfold mF; omega)
        · have z := tl S2 at1 (n0 + 2) (b2.mono (by omega)) (by omega) fun d S' hd hb hg => k d S' hd (hb.mono (by omega)) (((Grow.of_same g1).trans (Grow.of_same g2)).trans hg)
          unfold tailM at z
          simp only [QV_v, QV_own, QV_bor, QI_d, QI_l, QO_d, QO_l, QO_ite, QO_A, QA_s, w_C, w_var, kA2_e, kB2_dd, kB2_ld, kB2_dl, kB2_ll, w_op2, kA1_d, w_op1, kArg_e, kArg2_d, kArg2_l, w_args0, w_args, kOpN_e, w_opN, kIt_e, kIt2_e, kIt3_e, w_items0, w_items, kTup_e, kLst_e, w_tup, w_lst, kB_e, w_bOf, kAnd_t, kAnd_f, kOr_t, kOr_f, kNot_e, w_bAnd, w_bOr, w_bNot, w_bYes, kEAnd_t, kEAnd_f, kEOr_t, kEOr_f, kENot_e, w_eAnd, w_eOr, w_eNot, kEIf_t, kEIf_f, w_eIf, kCall_e, w_call, okR_d, okR_l, okR_ex, kPart2_e, w_part0, w_part, kSl3_d, kSl3_l, kSl2_e, kSl_e, w_sl, kCh_e, kCh1_e, kCh2_t, kCh2_f, w_chain, seq_nx, seq_rt, seq_bk, seq_ct, seq_ex, kX_e, w_seq, w_nop, w_brk, w_cnt, kIf_t, kIf_f, w_if, kRet_d, kRet_l, w_ret, w_retN, QRV_v, QRV_own, w_retV, kDrop_e, w_drop, kSet_d, kSet_l, w_set, kSetS_d, kSetS_l, w_setS, QMv_e, w_move, QG_e, tg_name, tg_tup, tg_tup1, tg_tup2, tg_tup3, tg_tup4, tg_nil, tg_cons, ob_some, kAsg_d, w_asg, kPar_e, w_par, kSixN_e, kSixL_e, QSt_e, kSixO_e, kSixT_e, QSix_o, QSix_l, kSix_d, kSix_l, w_setix, kAppO_d, kAppO_l, QAppT_e, kAppT_d, kAppT_l, QApp_o, QApp_l, w_app, kExtO_l, QExt_o, QS_t, QS_l, QSL_e, QQ_b, QQ_v, w_qVar, kQE_l, kQE_d, w_qE, kQC_l, kQC_d, w_qC, kSeq_e, w_miSeq, kRev_e, w_miRev, kEnum_e, w_miEnum, kZip_e, kZip2_e, w_miZip, kR1_e, w_miRng1, kR2_e, kR3_e, rngD_len, rngD2_len, chk_t, chk_p, chk_s, isT_t, isT_p, isT_s, w_for, lp_nx, lp_rt, lp_bk, lp_ct, lp_ex, frzS_e, frzQ_o, frzQ_v, frzQ_b, frzQ_n, unfS_e, unfQ_o, unfQ_v, unfQ_b, unfQ_n, unf_nx, unf_rt, unf_bk, unf_ct, unf_ex, w_frz, w_comp, EnF_nx, EnF_d, EnF_l, EnF_ex, slot_d, slot_f, add_ii, add_ss, add_tt, add_ll, sub_ii, mul_ii, mul_li, div_ii, mod_ii, pow_ii, shl_ii, shr_ii, lt_ii, le_ii, gt_ii, ge_ii, neg_i, and_ii, or_ii, xor_ii, is_n, isnt_n, isNon_n, isNon_b, isNon_i, isNon_s, isNon_t, isNon_o, isNon_l, isNon_e, lstO_e, lstOf_l, lstOf_o, om_some, ix_t, ix_s, ix_l, ix_o, len_s, len_t, len_l, len_o, sum_l, all_l, any_l, max_ii, min_ii, max_l, min_l, tup_t, tup_l, tup_o, list_t, list_l, list_o, int_i, int_b, str_i, sl_t, sl_l, sl_s, eq_ii, ne_ii, eq_bb, ne_bb, isi_non_int, isi_non_bool, isi_non_str, isi_non_tuple, isi_non_list, isi_non_tl, isi_bl_int, isi_bl_bool, isi_bl_str, isi_bl_tuple, isi_bl_list, isi_bl_tl, isi_int_int, isi_int_bool, isi_int_str, isi_int_tuple, isi_int_list, isi_int_tl, isi_str_int, isi_str_bool, isi_str_str, isi_str_tuple, isi_str_list, isi_str_tl, isi_tup_int, isi_tup_bool, isi_tup_str, isi_tup_tuple, isi_tup_list, isi_tup_tl, isi_l_int, isi_l_bool, isi_l_str, isi_l_tuple, isi_l_list, isi_l_tl, ixN_00, ixN_1, ixN_2, ixN_3, atI_0, atI_1, atI_2, atI_3, intsOf_map, blsOf_map, List.set_cons_zero, List.set_cons_succ, List.getElem?_cons_zero, List.getElem?_cons_succ, List.replicate_succ, List.replicate_zero, List.length_cons, List.length_nil, Nat.zero_add, Nat.add_zero, Nat.reduceAdd, Nat.reduceSub, Nat.reduceLT, Nat.reduceLeDiff, Option.some.injEq, true_and, and_true, List.map_cons, List.map_nil, decide_true, decide_false, Bool.not_true, Bool.not_false, wipeE, QO_gd, startE_1, startE_2, startE_3, startE_4, fb_nx, fl_nx, fl_ct, fl_bk, fl_rt, fl_ex, cut_nx, cut_rt, cut_bk, cut_ct, cut_ex, w_raise, tr_nx, tr_rt, tr_bk, tr_ct, tr_ex, w_try, QCL_e, w_callL, kMt2_e, kMt_l, kMt_s, kMt_o, w_mt, if_true, QXT_e, kExtT_l, kExtT_d, QExt2_o, QExt2_l, exo_e, w_ext2, w_rng2, w_rng3, isB_bb, isntB_bb, beq_self_eq_true, w_ins0, QIns_o, kInsO_d, w_revE, kRevE_l, w_miEnumA, kEnumA_e, w_popAt, kPop_e, kPop2_e, sorted_e, divmod_e, w_lenSet, kLenSet_l, kRevA_l, kRevA_t, kRevA_o, w_revA, kZipM_e, kZipM2_e, w_miZipM, kAppD_e, kAppD2_e, w_appD] at z
          walk_at "w"
          exact z
theorem gspread_w {c n0 : Nat} {Q : RV → Store → Prop} {X : QX} (h : BookOk m u rows) (m1 : 1 ≤ m) (m5 : m ≤ 5) (hu : u ≤ 10) (hr : rows.length ≤ 60) (hbg : BagC S b c n0) (hn0 : n0 + 100 < 10 ^ 9)
    (k : ∀ (M : Int) rows' S', 1 ≤ M → M ≤ 4000 → BookOk M u rows' → rows'.length = rows.length → BagC S' b c (n0 + 10) → Grow b S S' → Q (.d (bookD M rows')) S') : WR (okR (m_l_gspread [.d (.loc b), .d (bookD m rows)] S)) Q X := by
  refine fun_w ?_
  unfold mb_l_gspread
  have eb : bookD m rows = D.tup [.int m, .tup (rows.map rowL)] := rfl
  rw [eb]
  walk_at "w"
  refine ⟨by decide, ?_⟩
  refine gdraw_c hbg (by omega) (by omega) (by omega) fun v S1 v0 v4 b1 g1 => ?_
  obtain ⟨y, ey, hy⟩ := pickL (l := [1, 1, 13, 800]) v0 v4
  have ey : atI [D.int 1, D.int 1, D.int 13, D.int 800] v = some (.int y) := ey
  have hy2 : 1 ≤ y ∧ y ≤ 800 := by
    simp only [List.mem_cons, List.not_mem_nil, or_false] at hy
    omega
  have hMb : m * y ≤ 5 * 800 := Int.mul_le_mul m5 hy2.2 (by omega) (by omega)
  have hM1 : 1 * 1 ≤ m * y := Int.mul_le_mul m1 hy2.1 (by omega) (by omega)
  simp! only [ey]
  refine ⟨⟨by omega, by omega⟩, ?_⟩
  refine comp_inv (fun j ys S' => ∃ L : List Int, ys = L.map D.int ∧ L.length = j ∧ (∀ z ∈ L, 0 ≤ z ∧ z < m * y) ∧ BagC S' b c (n0 + 1 + j) ∧ Grow b S S') (le_line (by rw [rngD_len]; omega)) ⟨[], rfl, rfl, (fun _ h => nomatch h), b1, Grow.of_same g1⟩ (fun _ _ _ _ => trivial) (fun j d ys S2 hd hI => ?_) (fun ys S2 hI => ?_)
  · obtain ⟨L, rfl, hLj, hLb, b2, g2⟩ := hI
    obtain ⟨rfl, hj⟩ := rngD_get hd
    refine ⟨_, rfl, ?_⟩
    walk_at "w"
    refine ⟨fun _ => ?_, fun z => by cases z⟩
    refine ⟨cmul_l (by omega) (by omega), ?_⟩
    refine gdraw_c b2 (by omega) (by omega) (by omega) fun w S3 w0 wy b3 g3 => ?_
    walk_at "w"
    have h1 : ((j : Int) + 1) * y ≤ m * y := Int.mul_le_mul_of_nonneg_right (by omega) (by omega)
    have h2 : 0 ≤ (j : Int) * y := Int.mul_nonneg (by omega) (by omega)
    rw [Int.add_mul, Int.one_mul] at h1
    refine ⟨L ++ [(j : Int) * y + w], by rw [List.map_append]; rfl, by rw [List.length_append, hLj]; rfl, fun z hz => ?_, b3, g2.trans (Grow.of_same g3)⟩
    rcases List.mem_append.mp hz with hz | hz
    · exact hLb z hz
    · cases List.mem_singleton.mp hz
      omega
  · obtain ⟨L, rfl, hLj, hLb, b2, g2⟩ := hI
    rw [rngD_len] at hLj b2
    obtain ⟨g, hg⟩ : ∃ g : Int → Int, g = fun z => L.getD z.toNat 0 := ⟨_, rfl⟩
    have hgz : ∀ z, 0 ≤ z → z < m → atI (L.map D.int) z = some (.int (g z)) ∧ 0 ≤ g z ∧ g z < m * y := fun z z0 zm => by
      have hlt : z.toNat < L.length := by omega
      rw [hg]
      dsimp only
      rw [List.getD_eq_getElem?_getD, List.getElem?_eq_getElem hlt]
      have := hLb _ (List.getElem_mem hlt)
      refine ⟨?_, this⟩
      rw [atI_map, atI_int z0 (by omega)]
      simp [List.getElem?_eq_getElem hlt]
    walk_at "w"
    refine ⟨cmul_l (by omega) (by omega), ?_⟩
    refine comp_all (ck := fun _ => True) (l := rows) (F := rowL) (fun r => rowL (r.map g)) (le_line (by omega)) trivial (fun i r hr => ⟨_, rfl, ?_⟩) ?_
    · have hro := h.ok r (List.mem_of_getElem? hr)
      have hl := hro.1
      simp! only [rowL]
      refine comp_all (ck := fun _ => True) (l := r) (F := D.int) (fun z => D.int (g z)) (le_line (by omega)) trivial (fun i z hz => ⟨_, rfl, ?_⟩) ?_
      · have hb := hro.2 z (List.mem_of_getElem? hz)
        simp! only [(hgz z hb.1 hb.2).1]
      · have e : r.map (fun z => D.int (g z)) = (r.map g).map D.int := by rw [List.map_map]; rfl
        rw [e]
        walk_at "w"
    · have e : rows.map (fun r => rowL (r.map g)) = (rows.map fun r => r.map g).map rowL := by rw [List.map_map]; rfl
      rw [e]
      walk_at "w"
      refine ⟨by decide, k (m * y) (rows.map fun r => r.map g) S2 (by omega) (by omega) ⟨fun z => h.ne (List.map_eq_nil_iff.mp z), fun r hr => ?_⟩ (List.length_map _) (b2.mono (by omega)) g2⟩
      obtain ⟨r0, h0, rfl⟩ := List.mem_map.mp hr
      have hro := h.ok r0 h0
      refine ⟨by rw [List.length_map]; exact hro.1, fun z hz => ?_⟩
      obtain ⟨z0, hz0, rfl⟩ := List.mem_map.mp hz
      exact (hgz z0 (hro.2 z0 hz0).1 (hro.2 z0 hz0).2).2
def loneR (many : Nat) : List (List Int) := (List.range many).map fun k : Nat => (List.range (many - 1)).map fun x : Nat => if (x : Int) = (k : Int) then (1 : Int) else 0
def smT (many t : Nat) : List Int := (List.range (t + 1)).map fun i : Nat => ((many - 1 - t + i : Nat) : Int)
def loneP (many : Nat) : Nat → D
  | 0 => knownD [((many - 1 : Nat) : Int)]
  | t + 1 => .tup [.str "ask", .int ((many - 2 - t : Nat) : Int), .tup [.tup [.int 0, loneP many t], .tup [.int 1, knownD [((many - 2 - t : Nat) : Int)]]]]
theorem lone_all : ∀ many ∈ [8, 9], ∀ t ∈ List.range 8, t + 1 < many → ((smT many (t + 1)).map fun j => at_ (rowK (loneR many) j) ((many - 2 - t : Nat) : Int)) = 1 :: List.replicate (t + 1) 0 ∧
    ((smT many (t + 1)).filter fun j => decide (at_ (rowK (loneR many) j) ((many - 2 - t : Nat) : Int) = 0)) = smT many t ∧ ((smT many (t + 1)).filter fun j => decide (at_ (rowK (loneR many) j) ((many - 2 - t : Nat) : Int) = 1)) = [((many - 2 - t : Nat) : Int)] := by decide +kernel
theorem lone_ok : ∀ many ∈ [8, 9], (loneR many ≠ [] ∧ ∀ r ∈ loneR many, r.length = many - 1 ∧ ∀ x ∈ r, 0 ≤ x ∧ x < 2) ∧ smT many (many - 1) = everN many ∧ deepB 12 (loneP many (many - 1)) = many - 1 ∧ (loneR many).length = many := by decide +kernel
theorem setI_lone (t : Nat) : setI (1 :: List.replicate (t + 1) (0 : Int)) = [0, 1] := by
  symm
  refine setI_eq (by simp) fun k => ?_
  simp [List.mem_replicate, or_comm]
theorem lone_isB {many : Nat} (hm : many ∈ [8, 9]) : ∀ t : Nat, t < many → IsB (loneR many) (many - 1) (t + 1) (smT many t) (loneP many t)
  | 0, _ => by
    refine .inl ⟨?_, fun x _ => ?_⟩
    · show knownD _ = knownD _
      have : smT many 0 = [((many - 1 : Nat) : Int)] := by
        unfold smT
        simp
      rw [this]
    · have := parts_le (rows := loneR many) (smT many 0) (x : Int)
      have e : (smT many 0).length = 1 := by unfold smT; simp
      omega
  | t + 1, ht => by
    have hm9 : many = 8 ∨ many = 9 := by simpa using hm
    obtain ⟨f1, f2, f3⟩ := lone_all many hm t (List.mem_range.mpr (by omega)) ht
    have hp : pAt (loneR many) (smT many (t + 1)) ((many - 2 - t : Nat) : Int) = [(0, smT many t), (1, [((many - 2 - t : Nat) : Int)])] := by
      unfold pAt
      rw [f1, setI_lone]
      simp only [List.map_cons, List.map_nil, f2, f3]
    refine .inr ⟨many - 2 - t, [loneP many t, knownD [((many - 2 - t : Nat) : Int)]], by omega, by rw [hp]; exact Nat.le_refl 2, by rw [hp]; rfl, by rw [hp]; rfl, fun i p pl h1 h2 => ?_⟩
    rw [hp] at h1
    match i, h1, h2 with
    | 0, h1, h2 =>
      cases h1
      cases h2
      exact lone_isB hm t (by omega)
    | 1, h1, h2 =>
      cases h1
      cases h2
      refine .inl ⟨rfl, fun x _ => ?_⟩
      have := parts_le (rows := loneR many) [((many - 2 - t : Nat) : Int)] (x : Int)
      simp only [List.length_cons, List.length_nil] at this
      exact Nat.not_lt.mpr this
    | i + 2, h1, h2 => cases h1
theorem both_look {k w : Nat} {d : D} (h : BookOk m u rows) (hu : u ≤ 10) (hr : rows.length ≤ 45) (hd : AnyV b S k w d) :
    m_is_asks [.d (bookD m rows), .d d] S = .ok (.d (.bl (planB rows u 12 (everN rows.length) d))) S ∧ m_l_gis_plan 12 [.d (bookD m rows), .d (rowL (everN rows.length)), .d d] S = .ok (.d (.bl (planB rows u 12 (everN rows.length) d))) S := by
  have hrn : 0 < rows.length := List.length_pos_iff.mpr h.ne
  have hel := everN_len rows.length
  have hmu := mu_le (rows := rows) (u := u) (sm := everN rows.length)
  exact ⟨is_asks_any h (by omega) (by omega) hd.any, gis_any h (by omega) 12 _ d (by omega) (by omega) (fun z => by rw [z] at hel; simp at hel; omega) (everN_rs rows.length).2 hd.any⟩
theorem glone_w {c n0 : Nat} {Q : RV → Store → Prop} {X : QX} (hbg : BagC S b c n0) (hn0 : n0 + 1000 < 10 ^ 9) (k : ∀ S', Q (.d (.bl true)) S') : WR (okR (m_l_glone_right [.d (.loc b)] S)) Q X := by
  refine fun_w ?_
  unfold mb_l_glone_right
  walk_at "w"
  refine gdraw_c hbg (by omega) (by omega) (by omega) fun v S1 v0 v2 b1 g1 => ?_
  obtain ⟨many, hM⟩ : ∃ many : Nat, 8 + v = (many : Int) := ⟨(8 + v).toNat, by omega⟩
  have hm : many ∈ [8, 9] := by
    have : many = 8 ∨ many = 9 := by omega
    simpa using this
  obtain ⟨⟨l1, l2⟩, l3, l4, l5⟩ := lone_ok many hm
  have hm9 : many = 8 ∨ many = 9 := by omega
  have hok : BookOk 2 (many - 1) (loneR many) := ⟨l1, l2⟩
  have hB := isB_up many 12 (smT many (many - 1)) (loneP many (many - 1)) (by omega) (by
    have := lone_isB hm (many - 1) (by omega)
    rwa [show many - 1 + 1 = many by omega] at this)
  rw [l3] at hB
  obtain ⟨MI, hMI⟩ : ∃ MI : Int, MI = (many : Int) := ⟨_, rfl⟩
  rw [← hMI] at hM
  have eM : MI.toNat = many := by omega
  have eM1 : (MI - 1).toNat = many - 1 := by omega
  simp! only [hM]
  refine ⟨⟨by omega, by omega⟩, ?_⟩
  rw [eM]
  refine comp_all (ck := fun _ => True) (l := List.range many) (F := fun x : Nat => D.int (x : Int)) (fun k : Nat => rowL ((List.range (many - 1)).map fun x : Nat => if (x : Int) = (k : Int) then (1 : Int) else 0)) (le_line (by rw [List.length_range]; omega)) trivial (fun i a ha => ⟨_, rfl, ?_⟩) ?_
  · walk_at "w"
    refine ⟨⟨by omega, by omega⟩, ?_⟩
    rw [eM1]
    refine comp_all (ck := fun _ => True) (l := List.range (many - 1)) (F := fun x : Nat => D.int (x : Int)) (fun x : Nat => D.int (if (x : Int) = (a : Int) then (1 : Int) else 0)) (le_line (by rw [List.length_range]; omega)) trivial (fun j x hx => ⟨_, rfl, ?_⟩) ?_
    · walk_at "w"
      by_cases z : (x : Int) = (a : Int)
      · rw [decide_eq_true z, if_pos z]; rfl
      · rw [decide_eq_false z, if_neg z]; rfl
    · walk_at "w"
      unfold rowL
      rw [List.map_map]
      rfl
  have er : ((List.range many).map fun k : Nat => rowL ((List.range (many - 1)).map fun x : Nat => if (x : Int) = (k : Int) then (1 : Int) else 0)) = (loneR many).map rowL := by
    unfold loneR
    rw [List.map_map]
    rfl
  rw [er]
  walk_at "w"
  have es : (Builtin.Range.rangeSize (MI - 2) (-1) (-1)).toNat = many - 1 := by
    rw [PySem.W.rangeSize_downNat]
    omega
  have hR : RgC (MI - 2) (-1) (-1) (Builtin.Range.rangeSize (MI - 2) (-1) (-1)).toNat := by
    rw [PySem.W.rangeSize_downNat]
    exact RgC.neg (by omega) (by omega) (by omega) (by omega)
  refine ⟨by decide, by decide, by decide, hR, ?_⟩
  rw [es]
  have eb : D.tup [D.int 2, D.tup ((loneR many).map rowL)] = bookD 2 (loneR many) := rfl
  rw [eb]
  have e0 : D.tup [D.str (Str.ofString "known"), D.tup [D.int (MI - 1)]] = loneP many 0 := by
    have : MI - 1 = ((many - 1 : Nat) : Int) := by omega
    rw [this]
    rfl
  rw [e0]
  refine for_inv (fun i es S' => S' = S1 ∧ ∃ s4, es = [.v (.loc b), .v (.int MI), .v (bookD 2 (loneR many)), .v (loneP many i), s4, .no, .no]) ⟨rfl, _, rfl⟩ (fun _ _ _ _ => trivial) (fun i x es S' hx hI => ?_) (fun es S' hI => ?_)
  · obtain ⟨rfl, s4, rfl⟩ := hI
    obtain ⟨rfl, hi⟩ : x = .int (MI - 2 + (i : Int) * -1) ∧ i < many - 1 := by
      unfold rngD3 at hx
      rw [List.getElem?_map] at hx
      cases e : (List.range (many - 1))[i]? with
      | none => rw [e] at hx; cases hx
      | some j =>
        rw [e] at hx
        obtain ⟨z1, z2⟩ := List.getElem?_eq_some_iff.mp e
        rw [List.length_range] at z1
        rw [List.getElem_range] at z2
        subst z2
        exact ⟨(Option.some.inj hx).symm, z1⟩
    have ek : MI - 2 + (i : Int) * -1 = ((many - 2 - i : Nat) : Int) := by omega
    rw [ek]
    refine ⟨_, rfl, ?_⟩
    walk_at "w"
    exact ⟨by decide, by decide, by decide, by decide, by decide, by decide, _, rfl⟩
  · obtain ⟨rfl, s4, rfl⟩ := hI
    have el : (rngD3 (MI - 2) (-1) (many - 1)).length = many - 1 := by unfold rngD3; rw [List.length_map, List.length_range]
    rw [el]
    have hel := everN_len many
    have hen : everN many ≠ [] := fun z => by rw [z] at hel; simp at hel; omega
    have hes : ∀ k ∈ everN many, 0 ≤ k ∧ k < ((loneR many).length : Int) := by rw [l5]; exact (everN_rs many).2
    have hV := isB_any (b := b) (S := S') hok (by omega) (by omega) 12 (everN many) _ hen (by omega) hes (by omega) hB
    have hP := isB_plan hok 12 (everN many) _ hen hes hB
    have hdp := (isB_deep (S := S') (rows := loneR many) (u := many - 1) (m := 2) 12 (everN many) _ (by omega) hB).1
    rw [l4] at hdp
    have ed1 : ((many - 1 : Nat) : Int) = MI - 1 := by omega
    rw [ed1] at hdp
    have hlk := (both_look hok (by omega) (by omega) hV).1
    rw [l5, hP] at hlk
    have hbe := fun (Q : RV → Store → Prop) (X : QX) => gbent_w (b := b) (c := c) hok (by omega) (by omega) (by omega) (by omega) 12 (everN many) _ S' (n0 + 1) Q X (by omega) hB hen (by omega) hes b1 (by omega)
    have eR : ∀ S, tupRgF S [.d (.int MI)] = some (.d (rowL (everN many))) := fun S => by
      rw [tupRg_e (by omega) (by omega), eM, everD]
    generalize loneP many (many - 1) = d at hbe hdp hlk ⊢
    have gs := gsame_self 12 (.int (MI - 1)) S' trivial
    have gb := fun (x : Bool) S => gsame_self 12 (.bl x) S trivial
    walk_at "w"
    rw [hlk]
    walk_at "w"
    rw [hdp]
    walk_at "w"
    rw [gs]
    walk_at "w"
    refine hbe _ _ fun d' S2 hd b2 g2 => ?_
    have kk := both_look (S := S2) hok (by omega) (by omega) hd
    have k1 := kk.1
    have k2 := kk.2
    rw [l5] at k1 k2
    walk_at "w"
    rw [k1]
    simp! only [eR]
    rw [k2]
    walk_at "w"
    rw [gb]
    walk_at "w"
    exact k _
end
theorem law_true (ns : List Int) (hl : ns.length ≤ 63) : ∃ S', m_law [.d (.scr ns)] [] = .ok (.d (.bl true)) S' := by
  refine law_of (fun_w ?_)
  unfold mb_law
  have e : cutL ns none (some 63) = ns.take 63 := by
    unfold cutL HT.sIx
    simp
  simp! only [e]
  refine ⟨by decide, ?_⟩
  have hb : BagC ([] ++ [.lst ((ns.take 63).map .int)] ++ [.lst [.loc ([] : Store).length, .int 0, .int 0]]) (([] : Store).length + 1) 0 0 := ⟨ns.take 63, 0, 0, rfl, rfl, by decide, by omega, by omega, by omega⟩
  generalize hS : ([] ++ [O.lst ((ns.take 63).map .int)] ++ [O.lst [.loc ([] : Store).length, .int 0, .int 0]] : Store) = S0 at hb
  have hloc : List.length (([] : Store) ++ [O.lst ((ns.take 63).map D.int)]) = 1 := rfl
  have hb : BagC S0 1 0 0 := hb
  rw [hloc]
  clear hS
  refine ⟨by decide, ?_⟩
  refine for_inv (fun t es S => (∃ s2 s3 s4 s5 s6 s7 s8 s9, es = [.v (.scr ns), .v (.loc 1), s2, s3, s4, s5, s6, s7, s8, s9, .no]) ∧ BagC S 1 0 (t * 6000)) ⟨⟨_, _, _, _, _, _, _, _, rfl⟩, hb⟩ (fun _ _ _ _ => trivial) (fun i x es S hx h => ?_) (fun es S h => ?_)
  · obtain ⟨rfl, hi⟩ := rngD_get hx
    have hi : i < 4 := hi
    obtain ⟨⟨s2, s3, s4, s5, s6, s7, s8, s9, rfl⟩, b0⟩ := h
    refine ⟨_, rfl, ?_⟩
    obtain ⟨R, eR0, hR⟩ := pickL (l := [8, 8, 12, 40]) (v := (i : Int)) (by omega) (by simpa using (show (i : Int) < 4 by omega))
    have eR0 : atI [D.int 8, D.int 8, D.int 12, D.int 40] (i : Int) = some (.int R) := eR0
    have hR2 : 8 ≤ R ∧ R ≤ 40 := by
      simp only [List.mem_cons, List.not_mem_nil, or_false] at hR
      omega
    have hN : R.toNat * ((7 : Int).toNat + 10) ≤ 700 := by
      have : R.toNat * 17 ≤ 40 * 17 := Nat.mul_le_mul_right _ (by omega)
      have e7 : (7 : Int).toNat + 10 = 17 := rfl
      rw [e7]
      omega
    simp! only [eR0]
    refine ⟨by decide, ?_⟩
    refine gbook_c 700 b0 (by omega) (by omega) (by omega) (by omega) (by omega) (by omega) hN (by omega) fun m u rows S1 m1 m5 u1 u7 rl hbk b1 _ => ?_
    walk_at "w"
    refine gspread_w hbk m1 m5 (by omega) (by omega) b1 (by omega) fun M rows' S2 M1 M4 hok hrl b2 _ => ?_
    have rl40 : rows'.length ≤ 40 := by omega
    have rpos : 0 < rows'.length := List.length_pos_iff.mpr hok.ne
    clear hbk hrl rl
    have eR : ∀ S, tupRgF S [.d (.int ((rows'.length : Nat) : Int))] = some (.d (rowL (everN rows'.length))) := fun S => by
      rw [tupRg_e (by omega) (by omega), Int.toNat_natCast, everD]
    have eb : bookD M rows' = D.tup [.int M, .tup (rows'.map rowL)] := rfl
    rw [eb]
    simp! only [List.length_map, eR]
    rw [← eb]
    have hel := everN_len rows'.length
    obtain ⟨sm, hsm⟩ : ∃ sm, sm = everN rows'.length := ⟨_, rfl⟩
    have hl40 : sm.length ≤ 40 := by rw [hsm]; omega
    have hl0 : sm ≠ [] := fun z => by rw [hsm] at z; rw [z] at hel; simp at hel; omega
    have hs : ∀ k ∈ sm, 0 ≤ k ∧ k < (rows'.length : Int) := by rw [hsm]; exact (everN_rs rows'.length).2
    have hmu := mu_le (rows := rows') (u := u) (sm := sm)
    have look := fun (S : Store) (k w : Nat) (d : D) (hd : AnyV 1 S k w d) => both_look (S := S) hok (by omega) (by omega) hd
    rw [← hsm] at look ⊢
    clear hsm hel eb
    refine ⟨⟨by omega, by omega⟩, ?_⟩
    refine for_inv (fun a es S => (∃ s5 s6 s7 s8 s9, es = [.v (.scr ns), .v (.loc 1), .v (.int (i : Int)), .v (bookD M rows'), .v (rowL sm), s5, s6, s7, s8, s9, .no]) ∧ BagC S 1 0 (i * 6000 + 800 + a * 2500)) ⟨⟨_, _, _, _, _, rfl⟩, b2.mono (by omega)⟩ (fun _ _ _ _ => trivial) (fun a x es S hx hI => ?_) (fun es S hI => ?_)
    · obtain ⟨rfl, ha⟩ := rngD_get hx
      have ha : a < 2 := ha
      obtain ⟨⟨s5, s6, s7, s8, s9, rfl⟩, b3⟩ := hI
      refine ⟨_, rfl, ?_⟩
      walk_at "w"
      refine gbuilt_w hok (by omega) 12 sm S _ _ _ (by omega) hl0 (by omega) hs b3 (by omega) fun d S3 hB b4 g4 => ?_
      walk_at "w"
      have hP := isB_plan hok 12 sm d hl0 hs hB
      have hV := isB_any (b := 1) (S := S3) hok (by omega) (by omega) 12 sm d hl0 (by omega) hs (by omega) hB
      have hdp := isB_deep (S := S3) (rows := rows') (u := u) (m := M) 12 sm d (by omega) hB
      have hlk := (look S3 _ _ d hV).1
      rw [hP] at hlk
      generalize ((deepB 12 d : Nat) : Int) = N at hdp
      have gs := gsame_self 12 (.int N) S3 trivial
      have gb := fun (x : Bool) S => gsame_self 12 (.bl x) S trivial
      rw [hlk]
      walk_at "w"
      rw [hdp.1]
      walk_at "w"
      rw [hdp.2]
      walk_at "w"
      rw [gs]
      walk_at "w"
      refine ⟨⟨by decide, by decide⟩, ?_⟩
      refine comp_inv (fun j ys S' => ys.length = j ∧ (∀ y ∈ ys, AnyV 1 S' 50 45000 y) ∧ BagC S' 1 0 (i * 6000 + 800 + a * 2500 + 60 + j * 240) ∧ Grow 1 S3 S') (by decide) ⟨rfl, (fun _ h => nomatch h), b4.mono (by omega), Grow.refl _ _⟩ (fun _ _ _ _ => trivial) (fun j y ys S4 hy hI => ?_) (fun ys S4 hI => ?_)
      · obtain ⟨rfl, hj⟩ := rngD_get hy
        have hj : j < 5 := hj
        obtain ⟨hyl, hyV, b5, g5⟩ := hI
        refine ⟨_, rfl, ?_⟩
        walk_at "w"
        refine ⟨fun _ => ?_, fun z => by cases z⟩
        refine gbent_w hok (by omega) (by omega) (by omega) (by omega) 12 sm d S4 _ _ _ (by omega) hB hl0 (by omega) hs b5 (by omega) fun d' S5 hd b6 g6 => ?_
        walk_at "w"
        refine ⟨by rw [List.length_append, hyl]; rfl, fun y hy => ?_, b6.mono (by omega), g5.trans g6⟩
        rcases List.mem_append.mp hy with hy | hy
        · exact (hyV y hy).grow g6
        · cases List.mem_singleton.mp hy
          exact hd.up (by omega) (by unfold xF; omega)
      · obtain ⟨hyl, hyV, b5, g5⟩ := hI
        have hyl : ys.length = 5 := hyl
        have b5 : BagC S4 1 0 (i * 6000 + 800 + a * 2500 + 60 + 5 * 240) := b5
        walk_at "w"
        refine gtwice_w hok (by omega) (by omega) (by omega) (by omega) (f := 12) (by omega) hB hl0 (by omega) hs b5 (by omega) fun d1 S5 hd1 b6 g6 => ?_
        walk_at "w"
        refine gmore_w hok (by omega) M1 (by omega) (by omega) 12 sm d S5 _ _ _ (by omega) hB hl0 hl40 hs b6 (by omega) fun d2 S6 hd2 b7 g7 => ?_
        walk_at "w"
        have all7 : ∀ y ∈ ys ++ [d1, d2], AnyV 1 S6 50 45000 y := fun y hy => by
          rcases List.mem_append.mp hy with hy | hy
          · exact ((hyV y hy).grow g6).grow g7
          · simp only [List.mem_cons, List.not_mem_nil, or_false] at hy
            rcases hy with rfl | rfl
            · exact hd1.grow g7
            · exact hd2.up (by omega) (by unfold mF; omega)
        have l7 : (ys ++ [d1, d2]).length = 7 := by rw [List.length_append, hyl]; rfl
        refine ⟨by decide, le_line (by omega), ?_⟩
        generalize ys ++ [d1, d2] = Y at all7 l7 ⊢
        refine for_inv (fun j es S => (∃ s8 s9, es = [.v (.scr ns), .v (.loc 1), .v (.int (i : Int)), .v (bookD M rows'), .v (rowL sm), .v (.int (a : Int)), .v d, .own ys, s8, s9, .no]) ∧ S = S6) ⟨⟨_, _, rfl⟩, rfl⟩ (fun _ _ _ _ => trivial) (fun j y es S hy hI => ?_) (fun es S hI => ?_)
        · obtain ⟨⟨s8, s9, rfl⟩, rfl⟩ := hI
          have hv := all7 y (List.mem_of_getElem? hy)
          refine ⟨_, rfl, ?_⟩
          obtain ⟨W, hW, hWr⟩ := anyv_repr hv (by omega) (by omega)
          have hr := hWr S (Grow.refl _ _)
          have hlk2 := look S _ _ y hv
          have kl1 := hlk2.1
          have kl2 := hlk2.2
          have nw := ne_ss_self (S := S) hW
          generalize planB rows' u 12 sm y = B at kl1 kl2
          simp! only [hr]
          rw [kl1]
          walk_at "w"
          rw [kl2]
          walk_at "w"
          rw [gb]
          simp! only [hr, nw]
          exact ⟨_, _, rfl⟩
        · obtain ⟨⟨s8, s9, rfl⟩, rfl⟩ := hI
          walk_at "w"
          exact ⟨⟨_, _, _, _, _, rfl⟩, b7.mono (by omega)⟩
    · obtain ⟨⟨s5, s6, s7, s8, s9, rfl⟩, b3⟩ := hI
      rw [rngD_len] at b3
      have b3 : BagC S 1 0 (i * 6000 + 800 + 2 * 2500) := b3
      walk_at "w"
      exact ⟨⟨_, _, _, _, _, _, _, _, rfl⟩, b3.mono (by omega)⟩
  · obtain ⟨⟨s2, s3, s4, s5, s6, s7, s8, s9, rfl⟩, b0⟩ := h
    rw [rngD_len] at b0
    have b0 : BagC S 1 0 24000 := b0
    walk_at "w"
    exact glone_w b0 (by omega) fun S' => by walk_at "w"
section
end
end LK

open PySem PySem.W PyProof.Rows
set_option maxRecDepth 100000 in
set_option maxHeartbeats 0 in
theorem PySem.Challenge.cw_partbook_k64_asks_looked_at_holds : PySem.Challenge.rw_partbook_k64_asks_looked_at.Holds := by
  w_on; o_law; k_head; (case hw => w_witness2)
  k_fill
  refine DM.walk_C (l := PySem.Challenge.rw_partbook_k64_asks_looked_at) (n := 63) (k := 30) (x := "_law_script") (m := LK.m_law) rfl (by decide) rfl ⟨rfl, by decide, by decide⟩ (fun w h Y => PySem.W.kIn_of Y) ?F LK.law_true
  case F =>
    intro w mg fa h KX G hmg
    refine' LK.all_mk KX G hmg ?a0 ?l0 ?c0 ?k0 ?a1 ?l1 ?c1 ?k1 ?a2 ?l2 ?c2 ?k2 ?a3 ?l3 ?c3 ?k3 ?a4 ?l4 ?c4 ?k4 ?a5 ?l5 ?c5 ?k5 ?a6 ?l6 ?c6 ?k6 ?a7 ?l7 ?c7 ?k7 ?a8 ?l8 ?c8 ?k8 ?a9 ?l9 ?c9 ?k9 ?a10 ?l10 ?c10 ?k10 ?a11 ?l11 ?c11 ?k11 ?a12 ?l12 ?c12 ?k12 ?a13 ?l13 ?c13 ?k13 ?a14 ?l14 ?c14 ?k14 ?a15 ?l15 ?c15 ?k15 ?a16 ?l16 ?c16 ?k16 ?a17 ?l17 ?c17 ?k17 ?a18 ?l18 ?c18 ?k18 ?a19 ?l19 ?c19 ?k19 ?a20 ?l20 ?c20 ?k20 ?a21 ?l21 ?c21 ?k21 ?a22 ?l22 ?c22 ?k22 ?a23 ?l23 ?c23 ?k23 ?a24 ?l24 ?c24 ?k24 ?a25 ?l25 ?c25 ?k25 ?z0 ?z1 ?z2 ?z3 ?z4 ?z5 ?z6 ?z7 ?z8 ?z9 ?z10 ?z11 ?z12 ?z13 ?z14 ?z15
    (case a0 => k_is)
    (case a1 => k_is)
    (case a2 => k_is)
    (case a3 => k_is)
    (case a4 => k_is)
    (case a5 => k_is)
    (case a6 => k_is)
    (case a7 => k_is)
    (case a8 => k_is)
    (case a9 => k_is)
    (case a10 => k_is)
    (case a11 => k_is)
    (case a12 => k_is)
    (case a13 => k_is)
    (case a14 => k_is)
    (case a15 => k_is)
    (case a16 => k_is)
    (case a17 => k_is)
    (case a18 => k_is)
    (case a19 => k_is)
    (case a20 => k_is)
    (case a21 => k_is)
    (case a22 => k_is)
    (case a23 => k_is)
    (case a24 => k_is)
    (case a25 => k_is)
    (case l0 => k_is)
    (case c0 => k_is)
    (case k0 => k_is)
    (case l1 => k_is)
    (case c1 => k_is)
    (case k1 => k_is)
    (case l2 => k_is)
    (case c2 => k_is)
    (case k2 => k_is)
    (case l3 => k_is)
    (case c3 => k_is)
    (case k3 => k_is)
    (case l4 => k_is)
    (case c4 => k_is)
    (case k4 => k_is)
    (case l5 => k_is)
    (case c5 => k_is)
    (case k5 => k_is)
    (case l6 => k_is)
    (case c6 => k_is)
    (case k6 => k_is)
    (case l7 => k_is)
    (case c7 => k_is)
    (case k7 => k_is)
    (case l8 => k_is)
    (case c8 => k_is)
    (case k8 => k_is)
    (case l9 => k_is)
    (case c9 => k_is)
    (case k9 => k_is)
    (case l10 => k_is)
    (case c10 => k_is)
    (case k10 => k_is)
    (case l11 => k_is)
    (case c11 => k_is)
    (case k11 => k_is)
    (case l12 => k_is)
    (case c12 => k_is)
    (case k12 => k_is)
    (case l13 => k_is)
    (case c13 => k_is)
    (case k13 => k_is)
    (case l14 => k_is)
    (case c14 => k_is)
    (case k14 => k_is)
    (case l15 => k_is)
    (case c15 => k_is)
    (case k15 => k_is)
    (case l16 => k_is)
    (case c16 => k_is)
    (case k16 => k_is)
    (case l17 => k_is)
    (case c17 => k_is)
    (case k17 => k_is)
    (case l18 => k_is)
    (case c18 => k_is)
    (case k18 => k_is)
    (case l19 => k_is)
    (case c19 => k_is)
    (case k19 => k_is)
    (case l20 => k_is)
    (case c20 => k_is)
    (case k20 => k_is)
    (case l21 => k_is)
    (case c21 => k_is)
    (case k21 => k_is)
    (case l22 => k_is)
    (case c22 => k_is)
    (case k22 => k_is)
    (case l23 => k_is)
    (case c23 => k_is)
    (case k23 => k_is)
    (case l24 => k_is)
    (case c24 => k_is)
    (case k24 => k_is)
    (case l25 => k_is)
    (case c25 => k_is)
    (case k25 => k_is)
    (case z0 => k_is)
    (case z1 => k_is)
    (case z2 => k_is)
    (case z3 => k_is)
    (case z4 => k_is)
    (case z5 => k_is)
    (case z6 => k_is)
    (case z7 => k_is)
    (case z8 => k_is)
    (case z9 => k_is)
    (case z10 => k_is)
    (case z11 => k_is)
    (case z12 => k_is)
    (case z13 => k_is)
    (case z14 => k_is)
    (case z15 => k_is)
