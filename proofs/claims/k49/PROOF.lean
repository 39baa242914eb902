import PyProof.Rows.All
import Wide.All
import OpenK.AllK
import Wide.FinOn
import HandS.ForMost
import HandS.ForExc
import HandS.Wide
import HandS.IsInst
import HandS.Zip
import HandS.CallSlots
import HandS.CallLocal
import HandS.TupLe
import HandS.TupMul
import HandS.Conv
import HandS.TupAny
import HandS.Rev
import HandS.Exc
import HandS.ExcOwn
import HandS.ExcIs
import HandS.Deep
import KE.KExcIs
import KE.DataFind
import HandS.Style
import PyProof.ReprRoads
import HandS.More
import KE.GoesEnum
import HandS.SortInts
import KE.GoesZip
import KE.GoesMore
import HandS.TryOnly
import HandS.Dict
import KE.DataMinMax
import KE.SortData
import HandS.TupLen
import KE.KDictDisplayH
import KE.KDictSum
import KE.KDictZip
import HandS.MapObj
import HandS.ExcValue
import HandS.TupSets
import HandS.ExcInit
import HandS.ExcField
import HandS.Iter
import HandS.StrMore
import PySem.Challenge.RW_partbook_k49_refusals_apart
set_option Elab.async false
set_option linter.all false
set_option maxRecDepth 100000
set_option maxHeartbeats 4000000
set_option autoImplicit false
/-! DX0: raise; try: .. except X as n: y = n, the exception kept as a value -/
namespace L2
open PySem PySem.Spec PyProof.Rows
/-- an exception that stands still -/
def ExK (oe : Obj) (a : Addr) : HO := .frz oe (.ext fun h => h.get? a = some oe)
section
variable {X : Cx} {x n y : Str} {c : Value} {i j : Nat} {body : List Stmt} {np pos pos' yp ep ap : Pos} {tb : WX → TS} {Wout : WX}
end
end L2

/-! DM: a def of the text by a plain function over data (its mirror), with lists by value and a store for shared ones. -/
namespace DM
open PySem PySem.Spec L2

/-- data: what stands still; a shared list is named by its place in the store -/
inductive D where
  | non | bl (b : Bool) | int (i : Int) | str (x : Str) | tup (xs : List D) | loc (n : Nat) | ty (n : String) | cls (n : Nat) | fn (n : Nat) | exn (c : Nat) (p : List D) | scr (xs : List Int)
/-- what stands in the store; ins: a dict while it is walked (locked); obj: an instance of class c with its attributes -/
inductive O where
  | lst (xs : List D) | dic (t : Bool) (kvs : List (List Key × D)) | ins (t : Bool) (kvs : List (List Key × D)) | obj (c : Nat) (fs : List (Str × D))
abbrev Store := List O
/-- a value: data, or a list by value (new, or lent) -/
inductive RV where
  | d (x : D) | l (fresh : Bool) (xs : List D)
inductive Res (T : Type) where
  | ok (a : T) (S : Store) | ex (c : Nat) (p : List D) (S : Store) | bad
inductive Slot where
  | no | v (x : D) | own (xs : List D) | bor (xs : List D)
abbrev Env := List Slot

/-- what is fixed through a law: the written part, its classes, its defs as values -/
structure GT where
  K : PySem.W.Frag
  cls : List Addr
  fns : List Addr
  exf : Nat → List D → Addr → Hp → Prop

/-- the script: a list that stands still -/
def ScrAt (K : PySem.W.Frag) (H : Hp) (a : Addr) (ns : List Int) : Prop := (∃ o, H a = some (.frz o (.lst (ns.map V.int)))) ∨ ∀ H', SqL K H' a (ns.map V.int)
mutual
inductive Rep (G : GT) (ρ : List Addr) (H : Hp) : D → V → Prop
  | non : Rep G ρ H .non .non
  | bl (b : Bool) : Rep G ρ H (.bl b) (.bl b)
  | int (i : Int) : Rep G ρ H (.int i) (.int i)
  | str (x : Str) : Rep G ρ H (.str x) (.str x)
  | tup {a : Addr} {vs : List V} {ds : List D} (h : H a = some (.tup vs)) (r : Reps G ρ H ds vs) : Rep G ρ H (.tup ds) (.ref a)
  | loc {n : Nat} {a : Addr} (h : ρ[n]? = some a) : Rep G ρ H (.loc n) (.ref a)
  | ty (n : String) : Rep G ρ H (.ty n) (.ty n)
  | cls {n : Nat} {a : Addr} (h : G.cls[n]? = some a) : Rep G ρ H (.cls n) (.ref a)
  | fn {n : Nat} {a : Addr} (h : G.fns[n]? = some a) : Rep G ρ H (.fn n) (.ref a)
  | scr {ns : List Int} {a : Addr} (h : ScrAt G.K H a ns) : Rep G ρ H (.scr ns) (.ref a)
  | exn {c : Nat} {C a : Addr} {oe : Obj} (hC : G.cls[c]? = some C) (h : H a = some (ExK oe a)) (z : Zc (.ref C) none oe) (f : ∃ vs, oe.data = .fields vs) : Rep G ρ H (.exn c []) (.ref a)
  | exo {c : Nat} {C a dx : Addr} {oe : Obj} {d : D} {v : V} (hC : G.cls[c]? = some C) (h : H a = some (ExK oe a)) (z : Zc (.ref C) (some dx) oe) (f : ∃ vs, oe.data = .fields vs) (hd : H dx = some (.xd [(("at" : Str), v)])) (r : Rep G ρ H d v) : Rep G ρ H (.exn c [d]) (.ref a)
inductive Reps (G : GT) (ρ : List Addr) (H : Hp) : List D → List V → Prop
  | nil : Reps G ρ H [] []
  | cons {d : D} {ds : List D} {v : V} {vs : List V} (h : Rep G ρ H d v) (t : Reps G ρ H ds vs) : Reps G ρ H (d :: ds) (v :: vs)
end

/-- tuples and locked things stay, the store's places stay -/
structure TK (ρ : List Addr) (H : Hp) (ρ' : List Addr) (H' : Hp) : Prop where
  pre : ∃ t, ρ' = ρ ++ t
  tup : ∀ a xs, H a = some (.tup xs) → H' a = some (.tup xs)
  frz : ∀ a o u, H a = some (.frz o u) → H' a = some (.frz o u)
  xd : ∀ a fs, H a = some (.xd fs) → H' a = some (.xd fs)
theorem TK.refl (ρ : List Addr) (H : Hp) : TK ρ H ρ H := ⟨⟨[], by simp⟩, fun _ _ h => h, fun _ _ _ h => h, fun _ _ h => h⟩
theorem TK.trans {ρ ρ1 ρ2 : List Addr} {H H1 H2 : Hp} (a : TK ρ H ρ1 H1) (b : TK ρ1 H1 ρ2 H2) : TK ρ H ρ2 H2 := by
  obtain ⟨t, rfl⟩ := a.pre
  obtain ⟨u, rfl⟩ := b.pre
  exact ⟨⟨t ++ u, by simp⟩, fun x xs h => b.tup x xs (a.tup x xs h), fun x o u h => b.frz x o u (a.frz x o u h), fun x fs h => b.xd x fs (a.xd x fs h)⟩
theorem TK.same {ρ : List Addr} {H H' : Hp} (h : ∀ a o, H a = some o → H' a = some o) : TK ρ H ρ H' := ⟨⟨[], by simp⟩, fun a _ e => h a _ e, fun a _ _ e => h a _ e, fun a _ e => h a _ e⟩
/-- a new thing joins -/
theorem TK.new {ρ : List Addr} {H : Hp} {a : Addr} {y : HO} (n : H a = none) : TK ρ H (ρ ++ [a]) (upd H a y) := by
  have k : ∀ b o, H b = some o → upd H a y b = some o := fun b o e => by rw [upd_ne (fun z => by rw [z, n] at e; cases e)]; exact e
  exact ⟨⟨[a], rfl⟩, fun b xs e => k b _ e, fun b o u e => k b _ e, fun b fs e => k b _ e⟩
theorem TK.at_ {ρ ρ' : List Addr} {H H' : Hp} {n : Nat} {a : Addr} (k : TK ρ H ρ' H') (h : ρ[n]? = some a) : ρ'[n]? = some a := by
  obtain ⟨t, rfl⟩ := k.pre
  rw [List.getElem?_append_left (List.getElem?_eq_some_iff.mp h).1]
  exact h

section
variable {G : GT} {ρ ρ' : List Addr} {H H' : Hp}
mutual
theorem Rep.mono (k : TK ρ H ρ' H') : ∀ {d : D} {v : V}, Rep G ρ H d v → Rep G ρ' H' d v
  | _, _, .non => .non
  | _, _, .bl b => .bl b
  | _, _, .int i => .int i
  | _, _, .str x => .str x
  | _, _, .tup h r => .tup (k.tup _ _ h) (Reps.mono k r)
  | _, _, .loc h => .loc (k.at_ h)
  | _, _, .ty n => .ty n
  | _, _, .cls h => .cls h
  | _, _, .fn h => .fn h
  | _, _, .scr h => .scr (h.elim (fun ⟨o, e⟩ => .inl ⟨o, k.frz _ _ _ e⟩) .inr)
  | _, _, .exn hC h z f => .exn hC (k.frz _ _ _ h) z f
  | _, _, .exo hC h z f hd r => .exo hC (k.frz _ _ _ h) z f (k.xd _ _ hd) (Rep.mono k r)
theorem Reps.mono (k : TK ρ H ρ' H') : ∀ {ds : List D} {vs : List V}, Reps G ρ H ds vs → Reps G ρ' H' ds vs
  | _, _, .nil => .nil
  | _, _, .cons h t => .cons (Rep.mono k h) (Reps.mono k t)
end
theorem Reps.len {ds : List D} {vs : List V} (r : Reps G ρ H ds vs) : ds.length = vs.length := by
  induction ds generalizing vs with
  | nil => cases r; rfl
  | cons d ds ih => cases r with | cons h t => simp [ih t]
theorem Reps.get {ds : List D} {vs : List V} (r : Reps G ρ H ds vs) : ∀ {i : Nat} {d : D}, ds[i]? = some d → ∃ v, vs[i]? = some v ∧ Rep G ρ H d v := by
  induction ds generalizing vs with
  | nil => intro i d h; simp at h
  | cons e ds ih =>
    cases r with
    | cons h t =>
      intro i d hd
      cases i with
      | zero => simp at hd; subst hd; exact ⟨_, rfl, h⟩
      | succ i => simpa using ih t (i := i) (d := d) (by simpa using hd)
theorem Reps.append {ds es : List D} {vs ws : List V} (r : Reps G ρ H ds vs) (q : Reps G ρ H es ws) : Reps G ρ H (ds ++ es) (vs ++ ws) := by
  induction ds generalizing vs with
  | nil => cases r; exact q
  | cons d ds ih => cases r with | cons h t => exact .cons h (ih t)
theorem Reps.one {d : D} {v : V} (h : Rep G ρ H d v) : Reps G ρ H [d] [v] := .cons h .nil
theorem Reps.set {ds : List D} {vs : List V} (r : Reps G ρ H ds vs) {d : D} {v : V} (h : Rep G ρ H d v) : ∀ i, Reps G ρ H (ds.set i d) (vs.set i v) := by
  induction ds generalizing vs with
  | nil => intro i; cases r; exact .nil
  | cons e ds ih =>
    cases r with
    | cons q t =>
      intro i
      cases i with
      | zero => exact .cons h t
      | succ i => exact .cons q (ih t i)
theorem Reps.take {ds : List D} {vs : List V} (r : Reps G ρ H ds vs) : ∀ n, Reps G ρ H (ds.take n) (vs.take n) := by
  induction ds generalizing vs with
  | nil => intro n; cases r; simp; exact .nil
  | cons e ds ih =>
    cases r with
    | cons q t =>
      intro n
      cases n with
      | zero => exact .nil
      | succ n => exact .cons q (ih t n)
theorem Reps.drop {ds : List D} {vs : List V} (r : Reps G ρ H ds vs) : ∀ n, Reps G ρ H (ds.drop n) (vs.drop n) := by
  induction ds generalizing vs with
  | nil => intro n; cases r; simp; exact .nil
  | cons e ds ih =>
    cases r with
    | cons q t =>
      intro n
      cases n with
      | zero => exact .cons q t
      | succ n => exact ih t n
theorem Reps.reverse {ds : List D} {vs : List V} (r : Reps G ρ H ds vs) : Reps G ρ H ds.reverse vs.reverse := by
  induction ds generalizing vs with
  | nil => cases r; exact .nil
  | cons e ds ih =>
    cases r with
    | cons q t =>
      rw [List.reverse_cons, List.reverse_cons]
      exact (ih t).append (.one q)
end

/-- what the store has at an address -/
def OR (G : GT) (ρ : List Addr) (H : Hp) : O → Addr → Prop
  | .lst ds, a => ∃ vs, H a = some (.lst vs) ∧ Reps G ρ H ds vs
  | .dic true kvs, a => ∃ us : List (List Key × V), H a = some (.dT us) ∧ kvs.map (·.1) = us.map (·.1) ∧ Reps G ρ H (kvs.map (·.2)) (us.map (·.2))
  | .dic false kvs, a => ∃ us : List (Key × V), H a = some (.dK us) ∧ kvs.map (·.1) = us.map (fun q => [q.1]) ∧ Reps G ρ H (kvs.map (·.2)) (us.map (·.2))
  | .ins true kvs, a => ∃ (o : Obj) (us : List (List Key × V)), H a = some (.frz o (.dT us)) ∧ kvs.map (·.1) = us.map (·.1) ∧ Reps G ρ H (kvs.map (·.2)) (us.map (·.2))
  | .ins false kvs, a => ∃ (o : Obj) (us : List (Key × V)), H a = some (.frz o (.dK us)) ∧ kvs.map (·.1) = us.map (fun q => [q.1]) ∧ Reps G ρ H (kvs.map (·.2)) (us.map (·.2))
  | .obj c fs, a => ∃ (C dx : Addr) (us : List (Str × V)), G.cls[c]? = some C ∧ H a = some (.ins C dx us) ∧ fs.map (·.1) = us.map (·.1) ∧ Reps G ρ H (fs.map (·.2)) (us.map (·.2))
/-- the store is held; P: what is protected, kept to the sign -/
structure VS (G : GT) (P : Hp) (ρ : List Addr) (H : Hp) (S : Store) : Prop where
  len : ρ.length = S.length
  nd : ρ.Nodup
  st : ∀ (n : Nat) (a : Addr) (o : O), ρ[n]? = some a → S[n]? = some o → OR G ρ H o a
  pr : ∀ a o, P a = some o → H a = some o ∧ a ∉ ρ
theorem OR.mem {G : GT} {ρ : List Addr} {H : Hp} {o : O} {a : Addr} (h : OR G ρ H o a) : ∃ x, H a = some x ∧ True := by
  cases o with
  | lst ds => obtain ⟨vs, e, _⟩ := h; exact ⟨_, e, trivial⟩
  | dic t kvs => cases t with
    | true => obtain ⟨us, e, _⟩ := h; exact ⟨_, e, trivial⟩
    | false => obtain ⟨us, e, _⟩ := h; exact ⟨_, e, trivial⟩
  | ins t kvs => cases t with
    | true => obtain ⟨o, us, e, _⟩ := h; exact ⟨_, e, trivial⟩
    | false => obtain ⟨o, us, e, _⟩ := h; exact ⟨_, e, trivial⟩
  | obj c fs => obtain ⟨C, dx, us, _, e, _⟩ := h; exact ⟨_, e, trivial⟩
/-- the same thing in another heap -/
theorem OR.next {G : GT} {ρ ρ' : List Addr} {H H' : Hp} {o : O} {a : Addr} (h : OR G ρ H o a) (k : TK ρ H ρ' H') (e : H' a = H a) : OR G ρ' H' o a := by
  cases o with
  | lst ds => obtain ⟨vs, x, r⟩ := h; exact ⟨vs, by rw [e]; exact x, r.mono k⟩
  | dic t kvs => cases t with
    | true => obtain ⟨us, x, y, r⟩ := h; exact ⟨us, by rw [e]; exact x, y, r.mono k⟩
    | false => obtain ⟨us, x, y, r⟩ := h; exact ⟨us, by rw [e]; exact x, y, r.mono k⟩
  | ins t kvs => cases t with
    | true => obtain ⟨o, us, x, y, r⟩ := h; exact ⟨o, us, by rw [e]; exact x, y, r.mono k⟩
    | false => obtain ⟨o, us, x, y, r⟩ := h; exact ⟨o, us, by rw [e]; exact x, y, r.mono k⟩
  | obj c fs => obtain ⟨C, dx, us, z, x, y, r⟩ := h; exact ⟨C, dx, us, z, by rw [e]; exact x, y, r.mono k⟩
section
variable {G : GT} {P P' : Hp} {ρ ρ' : List Addr} {H H' : Hp} {S S' : Store}
theorem VS.tracked (s : VS G P ρ H S) {a : Addr} (h : a ∈ ρ) : ∃ x, H a = some x ∧ True := by
  obtain ⟨n, hn⟩ := List.getElem?_of_mem h
  have hl : n < S.length := by rw [← s.len]; exact (List.getElem?_eq_some_iff.mp hn).1
  exact (s.st n a S[n] hn (List.getElem?_eq_getElem hl)).mem
theorem VS.free (s : VS G P ρ H S) {a : Addr} (h : H a = none) : a ∉ ρ ∧ P a = none := by
  refine ⟨fun m => ?_, ?_⟩
  · obtain ⟨vs, e, _⟩ := s.tracked m
    rw [h] at e; cases e
  · cases q : P a with
    | none => rfl
    | some o => have z := (s.pr a o q).1; rw [h] at z; cases z
theorem VS.less (s : VS G P' ρ H S) (h : ∀ a o, P a = some o → P' a = some o) : VS G P ρ H S := ⟨s.len, s.nd, s.st, fun a o e => s.pr a o (h a o e)⟩
/-- the heap has grown -/
theorem VS.grow (s : VS G P ρ H S) (h : ∀ a o, H a = some o → H' a = some o) : VS G P ρ H' S := by
  refine ⟨s.len, s.nd, fun n a o e1 e2 => ?_, fun a o e => ⟨h a o (s.pr a o e).1, (s.pr a o e).2⟩⟩
  have q := s.st n a o e1 e2
  obtain ⟨x, ex, _⟩ := q.mem
  exact q.next (TK.same h) (by rw [ex]; exact h _ _ ex)
/-- a list outside the store is written -/
theorem tk_updl {a : Addr} {vs ws : List V} (h : H a = some (.lst vs)) : TK ρ H ρ (upd H a (.lst ws)) := by
  refine ⟨⟨[], by simp⟩, fun b xs e => ?_, fun b o u e => ?_, fun b fs e => ?_⟩
  · rw [upd_ne (ne_of e h (by intro z; cases z))]; exact e
  · rw [upd_ne (ne_of e h (by intro z; cases z))]; exact e
  · rw [upd_ne (ne_of e h (by intro z; cases z))]; exact e
theorem VS.updO {a : Addr} {vs ws : List V} (s : VS G P ρ H S) (h : H a = some (.lst vs)) (hr : a ∉ ρ) (hp : P a = none) : VS G P ρ (upd H a (.lst ws)) S := by
  refine ⟨s.len, s.nd, fun n b o e1 e2 => ?_, fun b o e => ?_⟩
  · have q := s.st n b o e1 e2
    have hb : b ≠ a := fun z => hr (z ▸ List.mem_of_getElem? e1)
    exact q.next (tk_updl h) (upd_ne hb)
  · have hb : b ≠ a := fun z => by rw [z, hp] at e; cases e
    rw [upd_ne hb]
    exact s.pr b o e
/-- a list of the store is written -/
theorem VS.updS {a : Addr} {n : Nat} {vs ws : List V} {ds : List D} (s : VS G P ρ H S) (hn : ρ[n]? = some a) (h : H a = some (.lst vs)) (r : Reps G ρ (upd H a (.lst ws)) ds ws) : VS G P ρ (upd H a (.lst ws)) (S.set n (.lst ds)) := by
  refine ⟨by rw [List.length_set]; exact s.len, s.nd, fun m b o e1 e2 => ?_, fun b o e => ?_⟩
  · by_cases hm : m = n
    · subst hm
      rw [hn] at e1
      have eb : a = b := Option.some.inj e1
      subst eb
      have hl : m < S.length := by rw [← s.len]; exact (List.getElem?_eq_some_iff.mp hn).1
      rw [List.getElem?_set_self hl] at e2
      cases e2
      exact ⟨ws, upd_same, r⟩
    · rw [List.getElem?_set_ne (Ne.symm hm)] at e2
      have q := s.st m b o e1 e2
      have hb : b ≠ a := fun z => hm (by
        subst z
        have h1 := (List.getElem?_eq_some_iff.mp e1)
        have h2 := (List.getElem?_eq_some_iff.mp hn)
        exact (List.getElem_inj s.nd).mp (h1.2.trans h2.2.symm))
      exact q.next (tk_updl h) (upd_ne hb)
  · obtain ⟨q1, q2⟩ := s.pr b o e
    have hb : b ≠ a := fun z => q2 (z ▸ List.mem_of_getElem? hn)
    rw [upd_ne hb]
    exact ⟨q1, q2⟩
/-- a list joins the store -/
theorem VS.share {a : Addr} {vs : List V} {ds : List D} (s : VS G P ρ H S) (h : H a = some (.lst vs)) (r : Reps G ρ H ds vs) (hr : a ∉ ρ) (hp : P a = none) : VS G P (ρ ++ [a]) H (S ++ [.lst ds]) := by
  have tk : TK ρ H (ρ ++ [a]) H := ⟨⟨[a], rfl⟩, fun _ _ e => e, fun _ _ _ e => e, fun _ _ e => e⟩
  refine ⟨by simp [s.len], ?_, fun n b o e1 e2 => ?_, fun b o e => ⟨(s.pr b o e).1, ?_⟩⟩
  · rw [List.nodup_append]
    refine ⟨s.nd, by simp, fun x hx y hy => ?_⟩
    have : y = a := by simpa using hy
    subst this
    exact fun z => hr (z ▸ hx)
  · by_cases hn : n < ρ.length
    · rw [List.getElem?_append_left hn] at e1
      rw [List.getElem?_append_left (by rw [← s.len]; exact hn)] at e2
      have q := s.st n b o e1 e2
      exact q.next tk rfl
    · have hn' : n = ρ.length := by
        have := (List.getElem?_eq_some_iff.mp e1).1
        simp at this
        omega
      subst hn'
      rw [List.getElem?_append_right (Nat.le_refl _)] at e1
      rw [s.len, List.getElem?_append_right (Nat.le_refl _)] at e2
      simp at e1 e2
      subst e1 e2
      exact ⟨vs, h, r.mono tk⟩
  · intro m
    rcases List.mem_append.mp m with m | m
    · exact (s.pr b o e).2 m
    · have : b = a := by simpa using m
      subst this
      rw [hp] at e; cases e
end

/-- a value and what stands for it -/
def RR (G : GT) (P : Hp) (ρ : List Addr) (H : Hp) : RV → V → Prop
  | .d x, v => Rep G ρ H x v
  | .l true ds, v => ∃ a vs, v = .ref a ∧ H a = some (.lst vs) ∧ Reps G ρ H ds vs ∧ a ∉ ρ ∧ P a = none
  | .l false ds, v => ∃ a vs, v = .ref a ∧ P a = some (.lst vs) ∧ Reps G ρ H ds vs
inductive RRs (G : GT) (P : Hp) (ρ : List Addr) (H : Hp) : List RV → List V → Prop
  | nil : RRs G P ρ H [] []
  | cons {r : RV} {rs : List RV} {v : V} {vs : List V} (h : RR G P ρ H r v) (t : RRs G P ρ H rs vs) : RRs G P ρ H (r :: rs) (v :: vs)
/-- an exception that leaves -/
def RX (G : GT) (ρ : List Addr) (H : Hp) (c : Nat) (p : List D) (cls : Value) (d : Option Addr) : Prop :=
  ∃ C, c ≤ 6 ∧ G.cls[c]? = some C ∧ cls = .ref C ∧ ((p = [] ∧ d = none) ∨ ∃ x dx v, p = [x] ∧ d = some dx ∧ H dx = some (.xd [("at", v)]) ∧ Rep G ρ H x v)
/-- behind an expression -/
def Aft (G : GT) (E : XK) (P : Hp) (ρ : List Addr) (H : Hp) (r : Res RV) (Q : VK) : Prop :=
  match r with
  | .ok r S' => ∀ v ρ' H', VS G P ρ' H' S' → TK ρ H ρ' H' → RR G P ρ' H' r v → Q v H'
  | .ex c p S' => ∀ cls d ρ' H', VS G P ρ' H' S' → TK ρ H ρ' H' → RX G ρ' H' c p cls d → E cls d H'
  | .bad => False
def AftB (G : GT) (E : XK) (P : Hp) (ρ : List Addr) (H : Hp) (r : Res Bool) (Q : Bool → Hp → Prop) : Prop :=
  match r with
  | .ok b S' => ∀ ρ' H', VS G P ρ' H' S' → TK ρ H ρ' H' → Q b H'
  | .ex c p S' => ∀ cls d ρ' H', VS G P ρ' H' S' → TK ρ H ρ' H' → RX G ρ' H' c p cls d → E cls d H'
  | .bad => False
/-- the slots, for an expression -/
structure ES (G : GT) (P : Hp) (ρ : List Addr) (H : Hp) (σ : St) (es : Env) : Prop where
  len : σ.length = es.length
  val : ∀ (i : Nat) d, es[i]? = some (.v d) → ∃ x, σ[i]? = some (some x) ∧ Rep G ρ H d x
  lst : ∀ (i : Nat) ds, (es[i]? = some (.own ds) ∨ es[i]? = some (.bor ds)) → ∃ a vs, σ[i]? = some (some (.ref a)) ∧ P a = some (.lst vs) ∧ Reps G ρ H ds vs
abbrev ME := Env → Store → Res RV
abbrev MB := Env → Store → Res Bool
def rdE (G : GT) (W : WX) (m : ME) : TE := fun σ H Q => ∃ P ρ es S, VS G P ρ H S ∧ ES G P ρ H σ es ∧ Aft G (fun cls d H' => W cls d σ H') P ρ H (m es S) Q
def rdB (G : GT) (W : WX) (m : MB) : TT := fun σ H Q => ∃ P ρ es S, VS G P ρ H S ∧ ES G P ρ H σ es ∧ AftB G (fun cls d H' => W cls d σ H') P ρ H (m es S) Q
structure SE (G : GT) (W : WX) (X : Cx) (e : Expr) (m : ME) : Prop where
  k : X.K = G.K
  pe : PE X e (rdE G W m)
structure SB (G : GT) (W : WX) (X : Cx) (e : Expr) (m : MB) : Prop where
  k : X.K = G.K
  pt : PT X e (rdB G W m)
structure SBW (G : GT) (W : WX) (X : Cx) (e : Expr) (m : MB) : Prop where
  k : X.K = G.K
  pw : PW X e (rdB G W m)

section
variable {X : Cx} {e : Expr} {t t' : TE} {b b' : TT}
theorem PE.of (h : PE X e t) (k : ∀ σ H Q, t' σ H Q → t σ H Q) : PE X e t' := ⟨fun pins s σ H Q I q => h.run pins s σ H Q I (k σ H Q q)⟩
theorem PT.of (h : PT X e b) (k : ∀ σ H Q, b' σ H Q → b σ H Q) : PT X e b' := ⟨fun pins s σ H Q I q => h.run pins s σ H Q I (k σ H Q q)⟩
theorem PW.of (h : PW X e b) (k : ∀ σ H Q, b' σ H Q → b σ H Q) : PW X e b' := ⟨fun wh pins s σ H Q I q => h.run wh pins s σ H Q I (k σ H Q q)⟩
end

section
variable {G : GT} {P P' : Hp} {ρ ρ' : List Addr} {H H' : Hp} {S S' : Store} {σ : St} {es : Env} {E : XK}
theorem ES.next (q : ES G P ρ H σ es) (k : TK ρ H ρ' H') : ES G P ρ' H' σ es :=
  ⟨q.len, fun i d e => let ⟨x, h1, h2⟩ := q.val i d e; ⟨x, h1, h2.mono k⟩, fun i ds e => let ⟨a, vs, h1, h2, h3⟩ := q.lst i ds e; ⟨a, vs, h1, h2, h3.mono k⟩⟩
theorem ES.more (q : ES G P ρ H σ es) (s : ∀ a o, P a = some o → P' a = some o) : ES G P' ρ H σ es :=
  ⟨q.len, q.val, fun i ds e => let ⟨a, vs, h1, h2, h3⟩ := q.lst i ds e; ⟨a, vs, h1, s _ _ h2, h3⟩⟩
/-- a later start -/
theorem Aft.next {r : Res RV} {Q : VK} (k : TK ρ H ρ' H') (h : Aft G E P ρ H r Q) : Aft G E P ρ' H' r Q := by
  cases r with
  | ok r S' => exact fun v ρ2 H2 s2 k2 rr => h v ρ2 H2 s2 (k.trans k2) rr
  | ex c p S' => exact fun cls d ρ2 H2 s2 k2 rx => h cls d ρ2 H2 s2 (k.trans k2) rx
  | bad => exact h
theorem AftB.next {r : Res Bool} {Q : Bool → Hp → Prop} (k : TK ρ H ρ' H') (h : AftB G E P ρ H r Q) : AftB G E P ρ' H' r Q := by
  cases r with
  | ok r S' => exact fun ρ2 H2 s2 k2 => h ρ2 H2 s2 (k.trans k2)
  | ex c p S' => exact fun cls d ρ2 H2 s2 k2 rx => h cls d ρ2 H2 s2 (k.trans k2) rx
  | bad => exact h
theorem RR.mono {r : RV} {v : V} (k : TK ρ H ρ' H') (h : RR G P ρ H r v) (hf : ∀ ds, r ≠ .l true ds) : RR G P ρ' H' r v := by
  cases r with
  | d x => exact Rep.mono k h
  | l f ds =>
    cases f with
    | true => exact absurd rfl (hf ds)
    | false => obtain ⟨a, vs, e, h1, h2⟩ := h; exact ⟨a, vs, e, h1, h2.mono k⟩
end
end DM

namespace DM
open PySem PySem.Spec L2

/-! ### what an operation gives -/
inductive OV where
  | d (x : D) | l (xs : List D)
def OV.rv : OV → RV
  | .d x => .d x
  | .l xs => .l true xs
def RV.weak : RV → RV
  | .d x => .d x
  | .l _ xs => .l false xs
def OP (G : GT) (ρ : List Addr) (H : Hp) : OV → V → Hp → Prop
  | .d x, v, H' => (∀ a o, H a = some o → H' a = some o) ∧ Rep G ρ H' x v
  | .l ds, v, H' => (∀ a o, H a = some o → H' a = some o) ∧ ∃ a vs, v = .ref a ∧ H a = none ∧ H' a = some (.lst vs) ∧ Reps G ρ H' ds vs
def SO2 (G : GT) (r : R2) (f : Store → RV → RV → Option OV) : Prop := ∀ P ρ H S r1 r2 x y (Q : VK) ov, VS G P ρ H S → RR G P ρ H r1 x → RR G P ρ H r2 y → f S r1 r2 = some ov → (∀ v H', OP G ρ H ov v H' → Q v H') → r x y H Q
def SON (G : GT) (r : List V → Hp → VK → Prop) (f : Store → List RV → Option OV) : Prop := ∀ P ρ H S rs vs (Q : VK) ov, VS G P ρ H S → RRs G P ρ H rs vs → f S rs = some ov → (∀ v H', OP G ρ H ov v H' → Q v H') → r vs H Q

section
variable {G : GT} {P P' : Hp} {ρ ρ' : List Addr} {H H' : Hp} {S S' : Store} {σ : St} {es : Env} {E : XK} {Q : VK}
/-- a list in hand is protected -/
theorem protect {r : RV} {v : V} (s : VS G P ρ H S) (h : RR G P ρ H r v) : ∃ P', (∀ a o, P a = some o → P' a = some o) ∧ VS G P' ρ H S ∧ RR G P' ρ H r.weak v := by
  cases r with
  | d x => exact ⟨P, fun _ _ e => e, s, h⟩
  | l f ds =>
    cases f with
    | false => exact ⟨P, fun _ _ e => e, s, h⟩
    | true =>
      obtain ⟨a, vs, rfl, h1, h2, h3, h4⟩ := h
      refine ⟨upd P a (.lst vs), fun b o e => ?_, ⟨s.len, s.nd, s.st, fun b o e => ?_⟩, a, vs, rfl, upd_same, h2⟩
      · rw [upd_ne (fun z => by rw [z, h4] at e; cases e)]; exact e
      · by_cases hb : b = a
        · subst hb; rw [upd_same] at e; cases e; exact ⟨h1, h3⟩
        · rw [upd_ne hb] at e; exact s.pr b o e
theorem RR.weak_mono {r : RV} {v : V} (k : TK ρ H ρ' H') (h : RR G P ρ H r.weak v) : RR G P ρ' H' r.weak v := by
  refine RR.mono k h fun ds z => ?_
  cases r <;> cases z
theorem RR.more {r : RV} {v : V} (h : RR G P ρ H r.weak v) (s : ∀ a o, P a = some o → P' a = some o) : RR G P' ρ H r.weak v := by
  cases r with
  | d x => exact h
  | l f ds => obtain ⟨a, vs, e, h1, h2⟩ := h; exact ⟨a, vs, e, s _ _ h1, h2⟩
/-- an operation's end, under more protection -/
theorem op_end {ov : OV} (s : VS G P' ρ H S) (hp : ∀ a o, P a = some o → P' a = some o) (h : Aft G E P ρ H (.ok ov.rv S) Q) : ∀ v H', OP G ρ H ov v H' → Q v H' := by
  intro v H' op
  cases ov with
  | d x =>
    obtain ⟨g, r⟩ := op
    exact h v ρ H' ((s.less hp).grow g) (TK.same g) r
  | l ds =>
    obtain ⟨g, a, vs, rfl, n, e, r⟩ := op
    have f := s.free n
    refine h (.ref a) ρ H' ((s.less hp).grow g) (TK.same g) ⟨a, vs, rfl, e, r, f.1, ?_⟩
    cases q : P a with
    | none => rfl
    | some o => rw [hp a o q] at f; exact absurd f.2 (by simp)
end

/-! ### the mirror's words -/
def eC (x : D) : ME := fun _ S => .ok (.d x) S
def eVar (i : Nat) : ME := fun es S => match es[i]? with
  | some (.v x) => .ok (.d x) S
  | some (.own ds) => .ok (.l false ds) S
  | some (.bor ds) => .ok (.l false ds) S
  | _ => .bad
def Res.bind {T U : Type} (r : Res T) (f : T → Store → Res U) : Res U := match r with
  | .ok a S => f a S
  | .ex c p S => .ex c p S
  | .bad => .bad
def ofO (o : Option OV) (S : Store) : Res RV := match o with
  | some ov => .ok ov.rv S
  | none => .bad
def eOp2 (f : Store → RV → RV → Option OV) (a b : ME) : ME := fun es S => (a es S).bind fun x S1 => (b es S1).bind fun y S2 => ofO (f S2 x.weak y.weak) S2
def eOp1 (f : Store → RV → Option OV) (a : ME) : ME := fun es S => (a es S).bind fun x S1 => ofO (f S1 x.weak) S1
def eArgs : List ME → Env → Store → Res (List RV)
  | [], _, S => .ok [] S
  | m :: ms, es, S => (m es S).bind fun r S1 => (eArgs ms es S1).bind fun rs S2 => .ok (r.weak :: rs) S2
def eOpN (f : Store → List RV → Option OV) (ms : List ME) : ME := fun es S => (eArgs ms es S).bind fun rs S1 => ofO (f S1 rs) S1
/-- an item of a display: a list in hand joins the store -/
def item (r : RV) (S : Store) : Res D := match r with
  | .d x => .ok x S
  | .l true ds => .ok (.loc S.length) (S ++ [.lst ds])
  | .l false _ => .bad
def eItems : List ME → Env → Store → Res (List D)
  | [], _, S => .ok [] S
  | m :: ms, es, S => ((m es S).bind item).bind fun d S1 => (eItems ms es S1).bind fun ds S2 => .ok (d :: ds) S2
open Classical in
noncomputable def eTup (ms : List ME) : ME := fun es S => (eItems ms es S).bind fun ds S1 => if ds.length ≤ sizeLine then .ok (.d (.tup ds)) S1 else .bad
open Classical in
noncomputable def eLst (ms : List ME) : ME := fun es S => (eItems ms es S).bind fun ds S1 => if ds.length ≤ sizeLine then .ok (.l true ds) S1 else .bad
def bOf (m : ME) : MB := fun es S => (m es S).bind fun r S1 => match r with
  | .d (.bl b) => .ok b S1
  | _ => .bad
def bAnd (a b : MB) : MB := fun es S => (a es S).bind fun x S1 => if x = true then b es S1 else .ok false S1
def bOr (a b : MB) : MB := fun es S => (a es S).bind fun x S1 => if x = true then .ok true S1 else b es S1
def bNot (a : MB) : MB := fun es S => (a es S).bind fun x S1 => .ok (!x) S1
def eAnd (a b : ME) : ME := fun es S => (a es S).bind fun r S1 => match r with
  | .d (.bl true) => b es S1
  | .d (.bl false) => .ok (.d (.bl false)) S1
  | _ => .bad
def eOr (a b : ME) : ME := fun es S => (a es S).bind fun r S1 => match r with
  | .d (.bl false) => b es S1
  | .d (.bl true) => .ok (.d (.bl true)) S1
  | _ => .bad
def eNot (a : ME) : ME := fun es S => (a es S).bind fun r S1 => match r with
  | .d (.bl b) => .ok (.d (.bl (!b))) S1
  | _ => .bad
def eIf (t : MB) (a b : ME) : ME := fun es S => (t es S).bind fun x S1 => if x = true then a es S1 else b es S1

section
variable {G : GT} {W : WX} {X : Cx} {a b c : Expr} {ma mb mc : ME} {pos : Pos}
theorem se_var {i : Nat} {x : Str} {pos : Pos} (k : X.K = G.K) (hN : X.N[i]? = some x) (hv : Vis X.env.scope x) (hd : (x == ("__debug__" : Str)) = false := by decide) (hcd : (x == ("__classdict__" : Str)) = false := by decide) : SE G W X (.Name x pos) (eVar i) := by
  refine ⟨k, PE.of (pe_var hN hv hd hcd) fun σ H Q h => ?_⟩
  obtain ⟨P, ρ, es, S, s, q, h⟩ := h
  unfold eVar at h
  split at h
  · rename_i x e
    obtain ⟨v, h1, h2⟩ := q.val i x e
    exact ⟨v, h1, h v ρ H s (TK.refl _ _) h2⟩
  · rename_i ds e
    obtain ⟨a, vs, h1, h2, h3⟩ := q.lst i ds (.inl e)
    exact ⟨.ref a, h1, h (.ref a) ρ H s (TK.refl _ _) ⟨a, vs, rfl, h2, h3⟩⟩
  · rename_i ds e
    obtain ⟨a, vs, h1, h2, h3⟩ := q.lst i ds (.inr e)
    exact ⟨.ref a, h1, h (.ref a) ρ H s (TK.refl _ _) ⟨a, vs, rfl, h2, h3⟩⟩
  · exact h.elim
theorem se_of {x : D} {v : V} (k : X.K = G.K) (h : PE X a (tC v)) (r : ∀ ρ H, Rep G ρ H x v) : SE G W X a (eC x) := by
  refine ⟨k, PE.of h fun σ H Q h => ?_⟩
  obtain ⟨P, ρ, es, S, s, q, h⟩ := h
  exact h v ρ H s (TK.refl _ _) (r ρ H)
theorem se_int {i j pos} (k : X.K = G.K) : SE G W X (.Constant (.int i) j pos) (eC (.int i)) := se_of k pe_int fun _ _ => .int i
theorem se_bl {i j pos} (k : X.K = G.K) : SE G W X (.Constant (.bool i) j pos) (eC (.bl i)) := se_of k pe_bl fun _ _ => .bl i
theorem se_str {i j pos} (k : X.K = G.K) : SE G W X (.Constant (.str i) j pos) (eC (.str i)) := se_of k pe_str fun _ _ => .str i
theorem se_ty {x : Str} {n : String} {pos} (k : X.K = G.K) (hg : Gl X x) (hm : X.mg x = none) (hv : bootBuiltins x = some (.type n)) (hn : x ≠ "__name__" := by decide) (hd : (x == ("__debug__" : Str)) = false := by decide) : SE G W X (.Name x pos) (eC (.ty n)) :=
  se_of k (pe_bltn (v := .ty n) hg hm hv rfl hn hd) fun _ _ => .ty n
theorem se_cls {x : Str} {n : Nat} {C : Addr} {pos} (k : X.K = G.K) (hg : Gl X x) (hm : X.mg x = some (.ref C)) (hc : G.cls[n]? = some C) (hd : (x == ("__debug__" : Str)) = false := by decide) : SE G W X (.Name x pos) (eC (.cls n)) :=
  se_of k (pe_glob (v := .ref C) hg hm rfl hd) fun _ _ => .cls hc
/-- one expression, then what comes behind -/
theorem rdE_then {σ : St} {H : Hp} {Q : VK} {P : Hp} {ρ : List Addr} {es : Env} {S : Store} {f : RV → Store → Res RV} {R : VK} (s : VS G P ρ H S) (q : ES G P ρ H σ es) (h : Aft G (fun cls d H' => W cls d σ H') P ρ H ((ma es S).bind f) Q)
    (k : ∀ r S1 v ρ1 H1, ma es S = .ok r S1 → VS G P ρ1 H1 S1 → TK ρ H ρ1 H1 → RR G P ρ1 H1 r v → Aft G (fun cls d H' => W cls d σ H') P ρ1 H1 (f r S1) Q → R v H1) : rdE G W ma σ H R := by
  refine ⟨P, ρ, es, S, s, q, ?_⟩
  cases e : ma es S with
  | ok r S1 =>
    rw [e] at h
    exact fun v ρ1 H1 s1 k1 r1 => k r S1 v ρ1 H1 e s1 k1 r1 (Aft.next k1 h)
  | ex c p S1 =>
    rw [e] at h
    exact h
  | bad =>
    rw [e] at h
    exact h
theorem rdE_thenB {σ : St} {H : Hp} {Q : Bool → Hp → Prop} {P : Hp} {ρ : List Addr} {es : Env} {S : Store} {f : RV → Store → Res Bool} {R : VK} (s : VS G P ρ H S) (q : ES G P ρ H σ es) (h : AftB G (fun cls d H' => W cls d σ H') P ρ H ((ma es S).bind f) Q)
    (k : ∀ r S1 v ρ1 H1, ma es S = .ok r S1 → VS G P ρ1 H1 S1 → TK ρ H ρ1 H1 → RR G P ρ1 H1 r v → AftB G (fun cls d H' => W cls d σ H') P ρ1 H1 (f r S1) Q → R v H1) : rdE G W ma σ H R := by
  refine ⟨P, ρ, es, S, s, q, ?_⟩
  cases e : ma es S with
  | ok r S1 =>
    rw [e] at h
    exact fun v ρ1 H1 s1 k1 r1 => k r S1 v ρ1 H1 e s1 k1 r1 (AftB.next k1 h)
  | ex c p S1 =>
    rw [e] at h
    exact h
  | bad =>
    rw [e] at h
    exact h
theorem rdB_then {σ : St} {H : Hp} {Q : VK} {P : Hp} {ρ : List Addr} {es : Env} {S : Store} {m : MB} {f : Bool → Store → Res RV} {R : Bool → Hp → Prop} (s : VS G P ρ H S) (q : ES G P ρ H σ es) (h : Aft G (fun cls d H' => W cls d σ H') P ρ H ((m es S).bind f) Q)
    (k : ∀ r S1 ρ1 H1, m es S = .ok r S1 → VS G P ρ1 H1 S1 → TK ρ H ρ1 H1 → Aft G (fun cls d H' => W cls d σ H') P ρ1 H1 (f r S1) Q → R r H1) : rdB G W m σ H R := by
  refine ⟨P, ρ, es, S, s, q, ?_⟩
  cases e : m es S with
  | ok r S1 =>
    rw [e] at h
    exact fun ρ1 H1 s1 k1 => k r S1 ρ1 H1 e s1 k1 (Aft.next k1 h)
  | ex c p S1 =>
    rw [e] at h
    exact h
  | bad =>
    rw [e] at h
    exact h
theorem rdB_thenB {σ : St} {H : Hp} {Q : Bool → Hp → Prop} {P : Hp} {ρ : List Addr} {es : Env} {S : Store} {m : MB} {f : Bool → Store → Res Bool} {R : Bool → Hp → Prop} (s : VS G P ρ H S) (q : ES G P ρ H σ es) (h : AftB G (fun cls d H' => W cls d σ H') P ρ H ((m es S).bind f) Q)
    (k : ∀ r S1 ρ1 H1, m es S = .ok r S1 → VS G P ρ1 H1 S1 → TK ρ H ρ1 H1 → AftB G (fun cls d H' => W cls d σ H') P ρ1 H1 (f r S1) Q → R r H1) : rdB G W m σ H R := by
  refine ⟨P, ρ, es, S, s, q, ?_⟩
  cases e : m es S with
  | ok r S1 =>
    rw [e] at h
    exact fun ρ1 H1 s1 k1 => k r S1 ρ1 H1 e s1 k1 (AftB.next k1 h)
  | ex c p S1 =>
    rw [e] at h
    exact h
  | bad =>
    rw [e] at h
    exact h
/-- under more protection -/
theorem Aft.more {P P' : Hp} {ρ : List Addr} {H : Hp} {E : XK} {r : Res RV} {Q : VK} (hp : ∀ a o, P a = some o → P' a = some o) (hr : ∀ rv S', r = .ok rv S' → ∀ ds, rv ≠ .l false ds) (h : Aft G E P ρ H r Q) : Aft G E P' ρ H r Q := by
  have sub0 : ∀ a, P' a = none → P a = none := fun a e => by
    cases q : P a with
    | none => rfl
    | some o => rw [hp a o q] at e; cases e
  cases r with
  | ok rv S' =>
    intro v ρ' H' s k rr
    refine h v ρ' H' (s.less hp) k ?_
    cases rv with
    | d x => exact rr
    | l f ds =>
      cases f with
      | true => obtain ⟨a, vs, e, h1, h2, h3, h4⟩ := rr; exact ⟨a, vs, e, h1, h2, h3, sub0 a h4⟩
      | false => exact absurd rfl (hr _ _ rfl ds)
  | ex c p S' => exact fun cls d ρ' H' s k rx => h cls d ρ' H' (s.less hp) k rx
  | bad => exact h
theorem bind_rv {r : Res RV} {f : RV → Store → Res RV} (h : ∀ a S rv S', f a S = .ok rv S' → ∀ ds, rv ≠ .l false ds) : ∀ rv S', r.bind f = .ok rv S' → ∀ ds, rv ≠ .l false ds := by
  intro rv S' e
  cases r with
  | ok a S => exact h a S rv S' e
  | ex c p S => cases e
  | bad => cases e
theorem ofO_rv {o : Option OV} {S : Store} : ∀ rv S', ofO o S = .ok rv S' → ∀ ds, rv ≠ .l false ds := by
  intro rv S' e ds z
  cases o with
  | none => cases e
  | some ov =>
    subst z
    cases ov <;> (unfold ofO OV.rv at e; simp at e)

theorem op2_core {r : R2} {f : Store → RV → RV → Option OV} (hs : SO2 G r f) {σ : St} {H : Hp} {Q : VK} (h : rdE G W (eOp2 f ma mb) σ H Q) : rdE G W ma σ H fun x H1 => rdE G W mb σ H1 fun y H2 => r x y H2 Q := by
  obtain ⟨P, ρ, es, S, s, q, h⟩ := h
  refine rdE_then s q h fun r1 S1 v ρ1 H1 e1 s1 k1 rr h => ?_
  obtain ⟨P1, hp, s1', rr1⟩ := protect s1 rr
  refine rdE_then s1' ((q.next k1).more hp) (Aft.more hp (bind_rv fun _ _ => ofO_rv) h) fun r2 S2 w ρ2 H2 e2 s2 k2 rr2 h2 => ?_
  obtain ⟨P2, hp2, s2', rr2'⟩ := protect s2 rr2
  cases e : f S2 r1.weak r2.weak with
  | none => rw [e] at h2; exact h2.elim
  | some ov =>
    rw [e] at h2
    exact hs P2 ρ2 H2 S2 r1.weak r2.weak v w Q ov s2' (RR.more (RR.weak_mono k2 rr1) hp2) rr2' e (op_end s2' hp2 h2)
theorem se_op2 {op : Operator} {r : R2} {f : Store → RV → RV → Option OV} (ho : OpR X (binaryOp op) r) (hs : SO2 G r f) (ha : SE G W X a ma) (hb : SE G W X b mb) : SE G W X (.BinOp a op b pos) (eOp2 f ma mb) :=
  ⟨ha.k, PE.of (pe_op ho ha.pe hb.pe) fun _ _ _ h => op2_core hs h⟩
theorem se_cmp {op : CmpOp} {r : R2} {f : Store → RV → RV → Option OV} (ho : OpR X (compareOp op) r) (hs : SO2 G r f) (ha : SE G W X a ma) (hb : SE G W X b mb) (hm : behindInMarks op b = false) : SE G W X (.Compare a [op] [b] pos) (eOp2 f ma mb) :=
  ⟨ha.k, PE.of (pe_cmpR ho ha.pe hb.pe hm) fun _ _ _ h => op2_core hs h⟩
theorem se_ix {r : R2} {f : Store → RV → RV → Option OV} (ho : IxR X r) (hs : SO2 G r f) (ha : SE G W X a ma) (hb : SE G W X b mb) (hp : PlainIx b) : SE G W X (.Subscript a b pos) (eOp2 f ma mb) :=
  ⟨ha.k, PE.of (pe_ix ho ha.pe hb.pe hp) fun _ _ _ h => op2_core hs h⟩

/-! ### arguments -/
structure SA (G : GT) (W : WX) (X : Cx) (as : List Expr) (ms : List ME) : Prop where
  k : X.K = G.K
  pa : PA X as (fun σ H Q => ∃ P ρ es S, VS G P ρ H S ∧ ES G P ρ H σ es ∧ (match eArgs ms es S with
    | .ok rs S' => ∀ vs P' ρ' H', (∀ a o, P a = some o → P' a = some o) → VS G P' ρ' H' S' → TK ρ H ρ' H' → RRs G P' ρ' H' rs vs → Q vs H'
    | .ex c p S' => ∀ cls d ρ' H', VS G P ρ' H' S' → TK ρ H ρ' H' → RX G ρ' H' c p cls d → W cls d σ H'
    | .bad => False))
structure SI (G : GT) (W : WX) (X : Cx) (as : List Expr) (ms : List ME) : Prop where
  k : X.K = G.K
  pa : PA X as (fun σ H Q => ∃ P ρ es S, VS G P ρ H S ∧ ES G P ρ H σ es ∧ (match eItems ms es S with
    | .ok ds S' => ∀ vs ρ' H', VS G P ρ' H' S' → TK ρ H ρ' H' → Reps G ρ' H' ds vs → Q vs H'
    | .ex c p S' => ∀ cls d ρ' H', VS G P ρ' H' S' → TK ρ H ρ' H' → RX G ρ' H' c p cls d → W cls d σ H'
    | .bad => False))
theorem PA.of {as : List Expr} {t t' : TA} (h : PA X as t) (k : ∀ σ H Q, t' σ H Q → t σ H Q) : PA X as t' := ⟨fun pos pins s σ H Q I q => h.run pos pins s σ H Q I (k σ H Q q)⟩
theorem sa_nil (k : X.K = G.K) : SA G W X [] [] := by
  refine ⟨k, PA.of pa_nil fun σ H Q h => ?_⟩
  obtain ⟨P, ρ, es, S, s, q, h⟩ := h
  exact h [] P ρ H (fun _ _ e => e) s (TK.refl _ _) .nil
theorem si_nil (k : X.K = G.K) : SI G W X [] [] := by
  refine ⟨k, PA.of pa_nil fun σ H Q h => ?_⟩
  obtain ⟨P, ρ, es, S, s, q, h⟩ := h
  exact h [] ρ H s (TK.refl _ _) .nil
theorem sa_cons {as : List Expr} {ms : List ME} (ha : SE G W X a ma) (hr : SA G W X as ms) (hs : starEach (a :: as) X.env = (false, eval a X.env) :: starEach as X.env := by rfl) : SA G W X (a :: as) (ma :: ms) := by
  refine ⟨ha.k, PA.of (pa_cons ha.pe hr.pa hs) fun σ H Q h => ?_⟩
  obtain ⟨P, ρ, es, S, s, q, h⟩ := h
  refine ⟨P, ρ, es, S, s, q, ?_⟩
  unfold eArgs at h
  cases e : ma es S with
  | bad => rw [e] at h; exact h
  | ex c p S1 => rw [e] at h; exact h
  | ok r S1 =>
    rw [e] at h
    intro v ρ1 H1 s1 k1 rr
    obtain ⟨P1, hp, s1', rr1⟩ := protect s1 rr
    refine ⟨P1, ρ1, es, S1, s1', (q.next k1).more hp, ?_⟩
    dsimp only [Res.bind] at h
    cases e2 : eArgs ms es S1 with
    | bad => rw [e2] at h; exact h
    | ex c p S2 =>
      rw [e2] at h
      exact fun cls d ρ2 H2 s2 k2 rx => h cls d ρ2 H2 (s2.less hp) (k1.trans k2) rx
    | ok rs S2 =>
      rw [e2] at h
      intro vs P2 ρ2 H2 hp2 s2 k2 rrs
      exact h (v :: vs) P2 ρ2 H2 (fun a o z => hp2 a o (hp a o z)) s2 (k1.trans k2) (.cons (RR.more (RR.weak_mono k2 rr1) hp2) rrs)
theorem item_ok {P : Hp} {ρ : List Addr} {H : Hp} {S S1 : Store} {r : RV} {v : V} {d : D} (s : VS G P ρ H S) (h : RR G P ρ H r v) (e : item r S = .ok d S1) : ∃ ρ1, VS G P ρ1 H S1 ∧ TK ρ H ρ1 H ∧ Rep G ρ1 H d v := by
  cases r with
  | d x =>
    cases e
    exact ⟨ρ, s, TK.refl _ _, h⟩
  | l f ds =>
    cases f with
    | false => cases e
    | true =>
      cases e
      obtain ⟨a, vs, rfl, h1, h2, h3, h4⟩ := h
      have tk : TK ρ H (ρ ++ [a]) H := ⟨⟨[a], rfl⟩, fun _ _ e => e, fun _ _ _ e => e, fun _ _ e => e⟩
      refine ⟨ρ ++ [a], s.share h1 h2 h3 h4, tk, .loc ?_⟩
      rw [← s.len, List.getElem?_append_right (Nat.le_refl _), Nat.sub_self]
      rfl
theorem item_ex {r : RV} {S S' : Store} {c : Nat} {p : List D} : item r S ≠ .ex c p S' := by
  intro e
  cases r with
  | d x => cases e
  | l f ds => cases f <;> cases e
theorem si_cons {as : List Expr} {ms : List ME} (ha : SE G W X a ma) (hr : SI G W X as ms) (hs : starEach (a :: as) X.env = (false, eval a X.env) :: starEach as X.env := by rfl) : SI G W X (a :: as) (ma :: ms) := by
  refine ⟨ha.k, PA.of (pa_cons ha.pe hr.pa hs) fun σ H Q h => ?_⟩
  obtain ⟨P, ρ, es, S, s, q, h⟩ := h
  refine ⟨P, ρ, es, S, s, q, ?_⟩
  unfold eItems at h
  cases e : ma es S with
  | bad => rw [e] at h; exact h
  | ex c p S1 => rw [e] at h; exact h
  | ok r S1 =>
    rw [e] at h
    intro v ρ1 H1 s1 k1 rr
    dsimp only [Res.bind] at h
    cases e1 : item r S1 with
    | bad => rw [e1] at h; exact h.elim
    | ex c p S2 => exact (item_ex e1).elim
    | ok d S2 =>
      rw [e1] at h
      obtain ⟨ρ2, s2, k2, rd⟩ := item_ok s1 rr e1
      refine ⟨P, ρ2, es, S2, s2, q.next (k1.trans k2), ?_⟩
      dsimp only at h
      cases e2 : eItems ms es S2 with
      | bad => rw [e2] at h; exact h
      | ex c p S3 =>
        rw [e2] at h
        exact fun cls d ρ3 H3 s3 k3 rx => h cls d ρ3 H3 s3 ((k1.trans k2).trans k3) rx
      | ok ds S3 =>
        rw [e2] at h
        intro vs ρ3 H3 s3 k3 rs
        exact h (v :: vs) ρ3 H3 s3 ((k1.trans k2).trans k3) (.cons (rd.mono k3) rs)
/-- a call of a built-in, by its values -/
theorem opN_core {r : List V → Hp → VK → Prop} {f : Store → List RV → Option OV} {as : List Expr} {ms : List ME} (hs : SON G r f) (ha : SA G W X as ms) {e : Expr} (hc : ∀ t, PA X as t → PE X e (tCB r t)) : SE G W X e (eOpN f ms) := by
  refine ⟨ha.k, PE.of (hc _ ha.pa) fun σ H Q h => ?_⟩
  obtain ⟨P, ρ, es, S, s, q, h⟩ := h
  refine ⟨P, ρ, es, S, s, q, ?_⟩
  unfold eOpN at h
  cases e : eArgs ms es S with
  | bad => rw [e] at h; exact h
  | ex c p S1 => rw [e] at h; exact h
  | ok rs S1 =>
    rw [e] at h
    intro vs P' ρ' H' hp s' k' rrs
    dsimp only [Res.bind] at h
    cases e1 : f S1 rs with
    | none => rw [e1] at h; exact h.elim
    | some ov =>
      rw [e1] at h
      exact hs P' ρ' H' S1 rs vs Q ov s' rrs e1 (op_end s' hp (Aft.next k' h))
theorem se_callB {x : Str} {p pos : Pos} {id : String} {r : List V → Hp → VK → Prop} {f : Store → List RV → Option OV} {as : List Expr} {ms : List ME} (hc : CallR X (.builtin id) r) (hs : SON G r f) (hg : Gl X x) (hm : X.mg x = none) (hv : bootBuiltins x = some (.builtin id)) (ha : SA G W X (a :: as) ms)
    (hn : x ≠ "__name__" := by decide) (hdb : (x == ("__debug__" : Str)) = false := by decide) (he : starEach (a :: as) X.env = (false, eval a X.env) :: starEach as X.env := by rfl) (hpl : (backTo pos (starEach as X.env)).any (·.1) = false := by rfl) : SE G W X (.Call (.Name x p) (a :: as) [] pos) (eOpN f ms) :=
  opN_core hs ha fun _ h => pe_callB hc hg hm hv h hn hdb he hpl
theorem se_callTy {x : Str} {p pos : Pos} {T : String} {r : List V → Hp → VK → Prop} {f : Store → List RV → Option OV} {as : List Expr} {ms : List ME} (hc : CallR X (.type T) r) (hs : SON G r f) (hg : Gl X x) (hm : X.mg x = none) (hv : bootBuiltins x = some (.type T)) (ha : SA G W X (a :: as) ms)
    (hn : x ≠ "__name__" := by decide) (hdb : (x == ("__debug__" : Str)) = false := by decide) (he : starEach (a :: as) X.env = (false, eval a X.env) :: starEach as X.env := by rfl) (hpl : (backTo pos (starEach as X.env)).any (·.1) = false := by rfl) : SE G W X (.Call (.Name x p) (a :: as) [] pos) (eOpN f ms) :=
  opN_core hs ha fun _ h => pe_callTy hc hg hm hv h hn hdb he hpl

/-! ### displays -/
theorem se_lst {as : List Expr} {ms : List ME} (ha : SI G W X as ms) : SE G W X (.List as pos) (eLst ms) := by
  refine ⟨ha.k, PE.of (pe_lst ha.pa) fun σ H Q h => ?_⟩
  obtain ⟨P, ρ, es, S, s, q, h⟩ := h
  refine ⟨P, ρ, es, S, s, q, ?_⟩
  unfold eLst at h
  cases e : eItems ms es S with
  | bad => rw [e] at h; exact h
  | ex c p S1 => rw [e] at h; exact h
  | ok ds S1 =>
    rw [e] at h
    intro vs ρ' H' s' k' rs
    dsimp only [Res.bind] at h
    by_cases hz : ds.length ≤ sizeLine
    · rw [if_pos hz] at h
      refine ⟨by rw [← rs.len]; exact hz, fun p hp => ?_⟩
      have g : ∀ a o, H' a = some o → upd H' p (.lst vs) a = some o := fun a o z => by rw [upd_ne (ne_of_none z hp)]; exact z
      exact h (.ref p) ρ' _ (s'.grow g) (k'.trans (TK.same g)) ⟨p, vs, rfl, upd_same, rs.mono (TK.same g), s'.free hp⟩
    · rw [if_neg hz] at h; exact h.elim

/-! ### tests -/
theorem rd_bOf {m : ME} {σ : St} {H : Hp} {Q : Bool → Hp → Prop} {R : VK} (h : rdB G W (bOf m) σ H Q) (k : ∀ b H1, Q b H1 → R (.bl b) H1) : rdE G W m σ H R := by
  obtain ⟨P, ρ, es, S, s, q, h⟩ := h
  refine rdE_thenB s q h fun r S1 v ρ1 H1 e1 s1 k1 rr h => ?_
  cases r with
  | l f ds => exact h.elim
  | d x =>
    cases x with
    | bl b =>
      cases rr
      exact k b H1 (h ρ1 H1 s1 (TK.refl _ _))
    | _ => exact h.elim
/-- an expression that is True or False, as a test (Compare, Call, Name ..) -/
theorem sb_val (ha : SE G W X a ma) (he : ∀ whole, isTrue a X.env whole = (do let v ← whole; standAt a.pos; holding [v] (truthy v)) := by intro _; rfl) : SB G W X a (bOf ma) :=
  ⟨ha.k, PT.of (pt_val ha.pe he) fun _ _ _ h => rd_bOf h fun b H1 q => ⟨b, rfl, q⟩⟩
theorem sb_not {m : MB} (ha : SB G W X a m) : SB G W X (.UnaryOp .Not a pos) (bNot m) := by
  refine ⟨ha.k, PT.of (pt_not ha.pt) fun σ H Q h => ?_⟩
  obtain ⟨P, ρ, es, S, s, q, h⟩ := h
  exact rdB_thenB s q h fun r S1 ρ1 H1 e1 s1 k1 h => h ρ1 H1 s1 (TK.refl _ _)
theorem sbw_or1 {m : MB} (ha : SB G W X a m) : SBW G W X (.BoolOp .Or [a] pos) m := ⟨ha.k, pw_or1 ha.pt⟩
theorem sbw_or {m n : MB} {rest : List Expr} (ha : SB G W X a m) (hb : SBW G W X (.BoolOp .Or (b :: rest) pos) n) : SBW G W X (.BoolOp .Or (a :: b :: rest) pos) (bOr m n) := by
  refine ⟨ha.k, PW.of (pw_or ha.pt hb.pw) fun σ H Q h => ?_⟩
  obtain ⟨P, ρ, es, S, s, q, h⟩ := h
  refine rdB_thenB s q h fun r S1 ρ1 H1 e1 s1 k1 h => ?_
  cases r with
  | false => exact ⟨P, ρ1, es, S1, s1, q.next k1, h⟩
  | true => exact h ρ1 H1 s1 (TK.refl _ _)
theorem sb_w {m : MB} (h : SBW G W X a m) : SB G W X a m := ⟨h.k, h.pw.pt⟩
theorem se_if {t : MB} (ht : SB G W X c t) (ha : SE G W X a ma) (hb : SE G W X b mb) : SE G W X (.IfExp c a b pos) (eIf t ma mb) := by
  refine ⟨ha.k, PE.of (pe_ifExp ht.pt ha.pe hb.pe) fun σ H Q h => ?_⟩
  obtain ⟨P, ρ, es, S, s, q, h⟩ := h
  refine rdB_then s q h fun r S1 ρ1 H1 e1 s1 k1 h => ?_
  cases r with
  | true => exact ⟨P, ρ1, es, S1, s1, q.next k1, h⟩
  | false => exact ⟨P, ρ1, es, S1, s1, q.next k1, h⟩
end
end DM

namespace DM
open PySem PySem.Spec L2

/-! ### statements -/
inductive SR where
  | nx (es : Env) (S : Store) | rt (r : RV) (S : Store) | bk (es : Env) (S : Store) | ct (es : Env) (S : Store) | ex (c : Nat) (p : List D) (es : Env) (S : Store) | bad
abbrev MS := Env → Store → SR
structure SS (G : GT) (P : Hp) (ρ : List Addr) (H : Hp) (σ : St) (es : Env) : Prop where
  len : σ.length = es.length
  val : ∀ (i : Nat) d, es[i]? = some (.v d) → ∃ x, σ[i]? = some (some x) ∧ Rep G ρ H d x
  bor : ∀ (i : Nat) ds, es[i]? = some (.bor ds) → ∃ a vs, σ[i]? = some (some (.ref a)) ∧ P a = some (.lst vs) ∧ Reps G ρ H ds vs
  own : ∀ (i : Nat) ds, es[i]? = some (.own ds) → ∃ a vs, σ[i]? = some (some (.ref a)) ∧ H a = some (.lst vs) ∧ Reps G ρ H ds vs ∧ a ∉ ρ ∧ P a = none
  dis : ∀ (i j : Nat) ds es' a, es[i]? = some (.own ds) → es[j]? = some (.own es') → σ[i]? = some (some (.ref a)) → σ[j]? = some (some (.ref a)) → i = j
structure TKS (ρ : List Addr) (H : Hp) (σ : St) (es : Env) (ρ' : List Addr) (H' : Hp) (σ' : St) (es' : Env) : Prop where
  tk : TK ρ H ρ' H'
  bor : ∀ (j : Nat) ds, es'[j]? = some (.bor ds) → es[j]? = some (.bor ds) ∧ σ'[j]? = σ[j]?
theorem TKS.refl (ρ : List Addr) (H : Hp) (σ : St) (es : Env) : TKS ρ H σ es ρ H σ es := ⟨TK.refl _ _, fun _ _ e => ⟨e, rfl⟩⟩
theorem TKS.trans {ρ ρ1 ρ2 : List Addr} {H H1 H2 : Hp} {σ σ1 σ2 : St} {es es1 es2 : Env} (a : TKS ρ H σ es ρ1 H1 σ1 es1) (b : TKS ρ1 H1 σ1 es1 ρ2 H2 σ2 es2) : TKS ρ H σ es ρ2 H2 σ2 es2 :=
  ⟨a.tk.trans b.tk, fun j ds e => let ⟨h1, h2⟩ := b.bor j ds e; let ⟨h3, h4⟩ := a.bor j ds h1; ⟨h3, h2.trans h4⟩⟩
theorem TKS.of {ρ ρ1 : List Addr} {H H1 : Hp} {σ : St} {es : Env} (a : TK ρ H ρ1 H1) : TKS ρ H σ es ρ1 H1 σ es := ⟨a, fun _ _ e => ⟨e, rfl⟩⟩
def AftS (G : GT) (W : WX) (P : Hp) (ρ : List Addr) (H : Hp) (σ : St) (es : Env) (r : SR) (D : Ends) : Prop :=
  match r with
  | .nx es' S' => ∀ σ' ρ' H', VS G P ρ' H' S' → SS G P ρ' H' σ' es' → TKS ρ H σ es ρ' H' σ' es' → D.nx σ' H'
  | .rt r S' => (∀ ds, r ≠ .l false ds) ∧ ∀ v ρ' H', VS G P ρ' H' S' → TK ρ H ρ' H' → RR G P ρ' H' r v → D.rt v H'
  | .bk es' S' => ∀ σ' ρ' H', VS G P ρ' H' S' → SS G P ρ' H' σ' es' → TKS ρ H σ es ρ' H' σ' es' → D.bk σ' H'
  | .ct es' S' => ∀ σ' ρ' H', VS G P ρ' H' S' → SS G P ρ' H' σ' es' → TKS ρ H σ es ρ' H' σ' es' → D.ct σ' H'
  | .ex c p es' S' => ∀ cls d σ' ρ' H', VS G P ρ' H' S' → SS G P ρ' H' σ' es' → TKS ρ H σ es ρ' H' σ' es' → RX G ρ' H' c p cls d → W cls d σ' H'
  | .bad => False
def rdS (G : GT) (W : WX) (m : MS) : TS := fun D σ H => ∃ P ρ es S, VS G P ρ H S ∧ SS G P ρ H σ es ∧ AftS G W P ρ H σ es (m es S) D
structure SP1 (G : GT) (W : WX) (X : Cx) (st : Stmt) (m : MS) : Prop where
  k : X.K = G.K
  ps : PS X st (rdS G W m)
structure SPs (G : GT) (W : WX) (X : Cx) (sts : List Stmt) (m : MS) : Prop where
  k : X.K = G.K
  pss : PSs X sts (rdS G W m)
theorem PS.of {X : Cx} {st : Stmt} {t t' : TS} (h : PS X st t) (k : ∀ D σ H, t' D σ H → t D σ H) : PS X st t' := ⟨fun pins s σ H D I q => h.run pins s σ H D I (k D σ H q)⟩
theorem PSs.of {X : Cx} {st : List Stmt} {t t' : TS} (h : PSs X st t) (k : ∀ D σ H, t' D σ H → t D σ H) : PSs X st t' := ⟨fun pins s σ H D I q => h.run pins s σ H D I (k D σ H q)⟩

section
variable {G : GT} {W : WX} {P P' : Hp} {ρ ρ' ρ1 : List Addr} {H H' H1 : Hp} {S S' : Store} {σ σ' σ1 : St} {es es' es1 : Env} {D : Ends}
/-- a later start -/
theorem AftS.next {r : SR} (k : TKS ρ H σ es ρ1 H1 σ1 es1) (h : AftS G W P ρ H σ es r D) : AftS G W P ρ1 H1 σ1 es1 r D := by
  cases r with
  | nx es' S' => exact fun σ' ρ' H' s q t => h σ' ρ' H' s q (k.trans t)
  | bk es' S' => exact fun σ' ρ' H' s q t => h σ' ρ' H' s q (k.trans t)
  | ct es' S' => exact fun σ' ρ' H' s q t => h σ' ρ' H' s q (k.trans t)
  | ex c p es' S' => exact fun cls d σ' ρ' H' s q t rx => h cls d σ' ρ' H' s q (k.trans t) rx
  | rt r S' => exact ⟨h.1, fun v ρ' H' s t rr => h.2 v ρ' H' s (k.tk.trans t) rr⟩
  | bad => exact h
theorem none_sub (hp : ∀ a o, P a = some o → P' a = some o) {a : Addr} (e : P' a = none) : P a = none := by
  cases q : P a with
  | none => rfl
  | some o => rw [hp a o q] at e; cases e
theorem SS.less (q : SS G P ρ H σ es) (hp : ∀ a o, P a = some o → P' a = some o) (k : TKS ρ H σ es ρ' H' σ' es') (q' : SS G P' ρ' H' σ' es') : SS G P ρ' H' σ' es' := by
  refine ⟨q'.len, q'.val, fun i ds e => ?_, fun i ds e => ?_, q'.dis⟩
  · obtain ⟨h1, h2⟩ := k.bor i ds e
    obtain ⟨a, vs, e1, e2, e3⟩ := q.bor i ds h1
    exact ⟨a, vs, h2.trans e1, e2, e3.mono k.tk⟩
  · obtain ⟨a, vs, e1, e2, e3, e4, e5⟩ := q'.own i ds e
    exact ⟨a, vs, e1, e2, e3, e4, none_sub hp e5⟩
theorem RR.less {r : RV} {v : V} (hp : ∀ a o, P a = some o → P' a = some o) (hr : ∀ ds, r ≠ .l false ds) (h : RR G P' ρ H r v) : RR G P ρ H r v := by
  cases r with
  | d x => exact h
  | l f ds =>
    cases f with
    | true => obtain ⟨a, vs, e, h1, h2, h3, h4⟩ := h; exact ⟨a, vs, e, h1, h2, h3, none_sub hp h4⟩
    | false => exact absurd rfl (hr ds)
/-- under more protection -/
theorem AftS.more {r : SR} (q : SS G P ρ H σ es) (hp : ∀ a o, P a = some o → P' a = some o) (h : AftS G W P ρ H σ es r D) : AftS G W P' ρ H σ es r D := by
  cases r with
  | nx es' S' => exact fun σ' ρ' H' s q' t => h σ' ρ' H' (s.less hp) (q.less hp t q') t
  | bk es' S' => exact fun σ' ρ' H' s q' t => h σ' ρ' H' (s.less hp) (q.less hp t q') t
  | ct es' S' => exact fun σ' ρ' H' s q' t => h σ' ρ' H' (s.less hp) (q.less hp t q') t
  | ex c p es' S' => exact fun cls d σ' ρ' H' s q' t rx => h cls d σ' ρ' H' (s.less hp) (q.less hp t q') t rx
  | rt r S' => exact ⟨h.1, fun v ρ' H' s t rr => h.2 v ρ' H' (s.less hp) t (RR.less hp h.1 rr)⟩
  | bad => exact h

/-! ### from a statement to its expressions and back -/
def IsOwn (σ : St) (es : Env) (a : Addr) : Prop := ∃ (i : Nat) (ds : List DM.D), es[i]? = some (Slot.own ds) ∧ σ[i]? = some (some (V.ref a))
open Classical in
noncomputable def plus (P H : Hp) (σ : St) (es : Env) : Hp := fun a => if IsOwn σ es a then H a else P a
theorem plus_own {a : Addr} (h : IsOwn σ es a) : plus P H σ es a = H a := if_pos h
theorem plus_not {a : Addr} (h : ¬ IsOwn σ es a) : plus P H σ es a = P a := if_neg h
theorem SS.sub (q : SS G P ρ H σ es) : ∀ a o, P a = some o → plus P H σ es a = some o := fun a o e => by
  rw [plus_not]
  · exact e
  · rintro ⟨i, ds, h1, h2⟩
    obtain ⟨b, vs, e1, e2, e3, e4, e5⟩ := q.own i ds h1
    rw [h2] at e1
    cases e1
    rw [e] at e5; cases e5
theorem SS.vs (q : SS G P ρ H σ es) (s : VS G P ρ H S) : VS G (plus P H σ es) ρ H S := by
  refine ⟨s.len, s.nd, s.st, fun a o e => ?_⟩
  by_cases h : IsOwn σ es a
  · rw [plus_own h] at e
    obtain ⟨i, ds, h1, h2⟩ := h
    obtain ⟨b, vs, e1, e2, e3, e4, e5⟩ := q.own i ds h1
    rw [h2] at e1
    cases e1
    exact ⟨e, e4⟩
  · rw [plus_not h] at e
    exact s.pr a o e
theorem SS.toES (q : SS G P ρ H σ es) : ES G (plus P H σ es) ρ H σ es := by
  refine ⟨q.len, q.val, fun i ds e => ?_⟩
  rcases e with e | e
  · obtain ⟨a, vs, e1, e2, e3, e4, e5⟩ := q.own i ds e
    exact ⟨a, vs, e1, by rw [plus_own ⟨i, ds, e, e1⟩]; exact e2, e3⟩
  · obtain ⟨a, vs, e1, e2, e3⟩ := q.bor i ds e
    exact ⟨a, vs, e1, q.sub _ _ e2, e3⟩
theorem SS.next (q : SS G P ρ H σ es) (s : VS G (plus P H σ es) ρ' H' S') (k : TK ρ H ρ' H') : SS G P ρ' H' σ es := by
  refine ⟨q.len, fun i d e => ?_, fun i ds e => ?_, fun i ds e => ?_, q.dis⟩
  · obtain ⟨x, h1, h2⟩ := q.val i d e
    exact ⟨x, h1, h2.mono k⟩
  · obtain ⟨a, vs, e1, e2, e3⟩ := q.bor i ds e
    exact ⟨a, vs, e1, e2, e3.mono k⟩
  · obtain ⟨a, vs, e1, e2, e3, e4, e5⟩ := q.own i ds e
    have p : plus P H σ es a = some (.lst vs) := by rw [plus_own ⟨i, ds, e, e1⟩]; exact e2
    exact ⟨a, vs, e1, (s.pr _ _ p).1, e3.mono k, (s.pr _ _ p).2, e5⟩
/-- an expression within a statement -/
def bindS {T : Type} (r : Res T) (es : Env) (f : T → Store → SR) : SR := match r with
  | .ok a S => f a S
  | .ex c p S => .ex c p es S
  | .bad => .bad
theorem st_thenS {ma : ME} {f : RV → Store → SR} {R : VK} (s : VS G P ρ H S) (q : SS G P ρ H σ es) (h : AftS G W P ρ H σ es (bindS (ma es S) es f) D)
    (k : ∀ r S1 v ρ1 H1, VS G (plus P H σ es) ρ1 H1 S1 → SS G P ρ1 H1 σ es → TK ρ H ρ1 H1 → RR G (plus P H σ es) ρ1 H1 r v → AftS G W P ρ1 H1 σ es (f r S1) D → R v H1) : rdE G W ma σ H R := by
  refine ⟨_, ρ, es, S, q.vs s, q.toES, ?_⟩
  cases e : ma es S with
  | ok r S1 =>
    rw [e] at h
    exact fun v ρ1 H1 s1 k1 rr => k r S1 v ρ1 H1 s1 (q.next s1 k1) k1 rr (AftS.next (TKS.of k1) h)
  | ex c p S1 =>
    rw [e] at h
    exact fun cls d ρ1 H1 s1 k1 rx => h cls d σ ρ1 H1 (s1.less q.sub) (q.next s1 k1) (TKS.of k1) rx
  | bad => rw [e] at h; exact h.elim
theorem st_thenB {mb : MB} {f : Bool → Store → SR} {R : Bool → Hp → Prop} (s : VS G P ρ H S) (q : SS G P ρ H σ es) (h : AftS G W P ρ H σ es (bindS (mb es S) es f) D)
    (k : ∀ r S1 ρ1 H1, VS G (plus P H σ es) ρ1 H1 S1 → SS G P ρ1 H1 σ es → TK ρ H ρ1 H1 → AftS G W P ρ1 H1 σ es (f r S1) D → R r H1) : rdB G W mb σ H R := by
  refine ⟨_, ρ, es, S, q.vs s, q.toES, ?_⟩
  cases e : mb es S with
  | ok r S1 =>
    rw [e] at h
    exact fun ρ1 H1 s1 k1 => k r S1 ρ1 H1 s1 (q.next s1 k1) k1 (AftS.next (TKS.of k1) h)
  | ex c p S1 =>
    rw [e] at h
    exact fun cls d ρ1 H1 s1 k1 rx => h cls d σ ρ1 H1 (s1.less q.sub) (q.next s1 k1) (TKS.of k1) rx
  | bad => rw [e] at h; exact h.elim

/-! ### slots are stored -/
theorem get_set {T : Type} {l : List T} {i j : Nat} {a b : T} (h : (l.set i a)[j]? = some b) : (i = j ∧ i < l.length ∧ a = b) ∨ (i ≠ j ∧ l[j]? = some b) := by
  rw [List.getElem?_set] at h
  by_cases hij : i = j
  · rw [if_pos hij] at h
    by_cases hl : i < l.length
    · rw [if_pos hl] at h; exact .inl ⟨hij, hl, Option.some.inj h⟩
    · rw [if_neg hl] at h; cases h
  · rw [if_neg hij] at h; exact .inr ⟨hij, h⟩
theorem SS.setV (q : SS G P ρ H σ es) {i : Nat} {d : DM.D} {x : V} (r : Rep G ρ H d x) : SS G P ρ H (σ.set i (some x)) (es.set i (.v d)) := by
  have sg : ∀ (j : Nat), i ≠ j → (σ.set i (some x))[j]? = σ[j]? := fun j h => by rw [List.getElem?_set_ne h]
  refine ⟨by simp [q.len], fun j e h => ?_, fun j ds h => ?_, fun j ds h => ?_, fun j k ds es' a h1 h2 h3 h4 => ?_⟩
  · rcases get_set h with ⟨rfl, hl, e1⟩ | ⟨hn, h⟩
    · cases e1
      exact ⟨x, by rw [List.getElem?_set_self (by rw [q.len]; exact hl)], r⟩
    · rw [sg j hn]; exact q.val j e h
  · rcases get_set h with ⟨rfl, hl, e1⟩ | ⟨hn, h⟩
    · cases e1
    · rw [sg j hn]; exact q.bor j ds h
  · rcases get_set h with ⟨rfl, hl, e1⟩ | ⟨hn, h⟩
    · cases e1
    · rw [sg j hn]; exact q.own j ds h
  · rcases get_set h1 with ⟨rfl, hl, e1⟩ | ⟨hn, h1⟩
    · cases e1
    · rcases get_set h2 with ⟨rfl, hl, e1⟩ | ⟨hn2, h2⟩
      · cases e1
      · rw [sg j hn] at h3
        rw [sg k hn2] at h4
        exact q.dis j k ds es' a h1 h2 h3 h4
theorem SS.setN (q : SS G P ρ H σ es) {i : Nat} {x : Option V} : SS G P ρ H (σ.set i x) (es.set i .no) := by
  have sg : ∀ (j : Nat), i ≠ j → (σ.set i x)[j]? = σ[j]? := fun j h => by rw [List.getElem?_set_ne h]
  refine ⟨by simp [q.len], fun j e h => ?_, fun j ds h => ?_, fun j ds h => ?_, fun j k ds es' a h1 h2 h3 h4 => ?_⟩
  · rcases get_set h with ⟨rfl, hl, e1⟩ | ⟨hn, h⟩
    · cases e1
    · rw [sg j hn]; exact q.val j e h
  · rcases get_set h with ⟨rfl, hl, e1⟩ | ⟨hn, h⟩
    · cases e1
    · rw [sg j hn]; exact q.bor j ds h
  · rcases get_set h with ⟨rfl, hl, e1⟩ | ⟨hn, h⟩
    · cases e1
    · rw [sg j hn]; exact q.own j ds h
  · rcases get_set h1 with ⟨rfl, hl, e1⟩ | ⟨hn, h1⟩
    · cases e1
    · rcases get_set h2 with ⟨rfl, hl, e1⟩ | ⟨hn2, h2⟩
      · cases e1
      · rw [sg j hn] at h3
        rw [sg k hn2] at h4
        exact q.dis j k ds es' a h1 h2 h3 h4
theorem SS.setO (q : SS G P ρ H σ es) {i : Nat} {ds : List DM.D} {a : Addr} {vs : List V} (h1 : H a = some (.lst vs)) (r : Reps G ρ H ds vs) (h2 : a ∉ ρ) (h3 : P a = none) (h4 : ∀ (j : Nat) es', j ≠ i → es[j]? = some (.own es') → σ[j]? ≠ some (some (.ref a))) :
    SS G P ρ H (σ.set i (some (.ref a))) (es.set i (.own ds)) := by
  have sg : ∀ (j : Nat), i ≠ j → (σ.set i (some (.ref a)))[j]? = σ[j]? := fun j h => by rw [List.getElem?_set_ne h]
  refine ⟨by simp [q.len], fun j e h => ?_, fun j ds h => ?_, fun j ds h => ?_, fun j k ds es' b e1 e2 e3 e4 => ?_⟩
  · rcases get_set h with ⟨rfl, hl, e1⟩ | ⟨hn, h⟩
    · cases e1
    · rw [sg j hn]; exact q.val j e h
  · rcases get_set h with ⟨rfl, hl, e1⟩ | ⟨hn, h⟩
    · cases e1
    · rw [sg j hn]; exact q.bor j ds h
  · rcases get_set h with ⟨rfl, hl, e1⟩ | ⟨hn, h⟩
    · cases e1
      exact ⟨a, vs, by rw [List.getElem?_set_self (by rw [q.len]; exact hl)], h1, r, h2, h3⟩
    · rw [sg j hn]; exact q.own j ds h
  · rcases get_set e1 with ⟨rfl, hl, z1⟩ | ⟨hn, e1⟩
    · rcases get_set e2 with ⟨rfl, hl2, z2⟩ | ⟨hn2, e2⟩
      · rfl
      · rw [List.getElem?_set_self (by rw [q.len]; exact hl)] at e3
        cases e3
        rw [sg k hn2] at e4
        exact absurd e4 (h4 k es' (Ne.symm hn2) e2)
    · rcases get_set e2 with ⟨rfl, hl2, z2⟩ | ⟨hn2, e2⟩
      · rw [List.getElem?_set_self (by rw [q.len]; exact hl2)] at e4
        cases e4
        rw [sg j hn] at e3
        exact absurd e3 (h4 j ds (Ne.symm hn) e1)
      · rw [sg j hn] at e3
        rw [sg k hn2] at e4
        exact q.dis j k ds es' b e1 e2 e3 e4
theorem tks_set {i : Nat} {x : Option V} {d : Slot} (hd : ∀ ds, d ≠ .bor ds) : TKS ρ H σ es ρ H (σ.set i x) (es.set i d) := by
  refine ⟨TK.refl _ _, fun j ds h => ?_⟩
  rcases get_set h with ⟨rfl, hl, e1⟩ | ⟨hn, h⟩
  · exact absurd e1 (hd ds)
  · exact ⟨h, by rw [List.getElem?_set_ne hn]⟩
/-- the own list at slot i is written -/
theorem SS.updO (q : SS G P ρ H σ es) {i : Nat} {ds es' : List DM.D} {a : Addr} {vs ws : List V} (hi : es[i]? = some (.own ds)) (ha : σ[i]? = some (some (.ref a))) (hH : H a = some (.lst vs)) (r : Reps G ρ H es' ws) : SS G P ρ (upd H a (.lst ws)) σ (es.set i (.own es')) := by
  have tk : TK ρ H ρ (upd H a (.lst ws)) := tk_updl hH
  obtain ⟨b, vs', e1, e2, e3, e4, e5⟩ := q.own i ds hi
  rw [ha] at e1
  cases e1
  refine ⟨by simp [q.len], fun j e h => ?_, fun j ds h => ?_, fun j ds h => ?_, fun j k ds1 ds2 c h1 h2 h3 h4 => ?_⟩
  · rcases get_set h with ⟨rfl, hl, z⟩ | ⟨hn, h⟩
    · cases z
    · obtain ⟨x, y1, y2⟩ := q.val j e h
      exact ⟨x, y1, y2.mono tk⟩
  · rcases get_set h with ⟨rfl, hl, z⟩ | ⟨hn, h⟩
    · cases z
    · obtain ⟨c, us, y1, y2, y3⟩ := q.bor j ds h
      exact ⟨c, us, y1, y2, y3.mono tk⟩
  · rcases get_set h with ⟨rfl, hl, z⟩ | ⟨hn, h⟩
    · cases z
      exact ⟨a, ws, ha, upd_same, r.mono tk, e4, e5⟩
    · obtain ⟨c, us, y1, y2, y3, y4, y5⟩ := q.own j ds h
      have hc : c ≠ a := fun z => hn (q.dis i j _ _ a hi h ha (z ▸ y1))
      exact ⟨c, us, y1, by rw [upd_ne hc]; exact y2, y3.mono tk, y4, y5⟩
  · have f : ∀ (j : Nat) (x : List DM.D), (es.set i (.own es'))[j]? = some (.own x) → ∃ y, es[j]? = some (.own y) := fun j x h => by
      rcases get_set h with ⟨rfl, hl, z⟩ | ⟨hn, h⟩
      · exact ⟨ds, hi⟩
      · exact ⟨x, h⟩
    obtain ⟨y1, z1⟩ := f j _ h1
    obtain ⟨y2, z2⟩ := f k _ h2
    exact q.dis j k y1 y2 c z1 z2 h3 h4
/-- a list of the store is written -/
theorem SS.updS (q : SS G P ρ H σ es) {a : Addr} {vs ws : List V} (hr : a ∈ ρ) (hH : H a = some (.lst vs)) : SS G P ρ (upd H a (.lst ws)) σ es := by
  have tk : TK ρ H ρ (upd H a (.lst ws)) := tk_updl hH
  refine ⟨q.len, fun j e h => ?_, fun j ds h => ?_, fun j ds h => ?_, q.dis⟩
  · obtain ⟨x, y1, y2⟩ := q.val j e h
    exact ⟨x, y1, y2.mono tk⟩
  · obtain ⟨c, us, y1, y2, y3⟩ := q.bor j ds h
    exact ⟨c, us, y1, y2, y3.mono tk⟩
  · obtain ⟨c, us, y1, y2, y3, y4, y5⟩ := q.own j ds h
    have hc : c ≠ a := fun z => y4 (z ▸ hr)
    exact ⟨c, us, y1, by rw [upd_ne hc]; exact y2, y3.mono tk, y4, y5⟩
theorem SS.mono (q : SS G P ρ H σ es) (k : TK ρ H ρ' H) (hr : ∀ a, IsOwn σ es a → a ∉ ρ') : SS G P ρ' H σ es := by
  refine ⟨q.len, fun i d e => ?_, fun i ds e => ?_, fun i ds e => ?_, q.dis⟩
  · obtain ⟨x, h1, h2⟩ := q.val i d e
    exact ⟨x, h1, h2.mono k⟩
  · obtain ⟨a, vs, e1, e2, e3⟩ := q.bor i ds e
    exact ⟨a, vs, e1, e2, e3.mono k⟩
  · obtain ⟨a, vs, e1, e2, e3, e4, e5⟩ := q.own i ds e
    exact ⟨a, vs, e1, e2, e3.mono k, hr a ⟨i, ds, e, e1⟩, e5⟩
end

/-! ### the mirror's statements -/
def sSeq (a b : MS) : MS := fun es S => match a es S with
  | .nx es' S' => b es' S'
  | r => r
def sNop : MS := fun es S => .nx es S
def sIf (t : MB) (a b : MS) : MS := fun es S => bindS (t es S) es fun x S1 => if x = true then a es S1 else b es S1
def sRet (m : ME) : MS := fun es S => bindS (m es S) es fun r S1 => match r with
  | .l false _ => .bad
  | r => .rt r S1
def sRetN : MS := fun _ S => .rt (.d .non) S
def sRetV (i : Nat) : MS := fun es S => match es[i]? with
  | some (.v x) => .rt (.d x) S
  | some (.own ds) => .rt (.l true ds) S
  | _ => .bad
def sBrk : MS := fun es S => .bk es S
def sCnt : MS := fun es S => .ct es S
def sDrop (m : ME) : MS := fun es S => bindS (m es S) es fun _ S1 => .nx es S1
def sSet (i : Nat) (m : ME) : MS := fun es S => bindS (m es S) es fun r S1 => match r with
  | .d x => .nx (es.set i (.v x)) S1
  | .l true ds => .nx (es.set i (.own ds)) S1
  | .l false _ => .bad
def sSetS (i : Nat) (m : ME) : MS := fun es S => bindS ((m es S).bind item) es fun x S1 => .nx (es.set i (.v x)) S1
/-- the list of slot j goes over to slot i -/
def sMove (i j : Nat) : MS := fun es S => match es[j]? with
  | some (.own ds) => .nx ((es.set j .no).set i (.own ds)) S
  | _ => .bad
section
variable {G : GT} {W : WX} {X : Cx} {a b c e : Expr} {ma mb : ME} {pos : Pos} {st : Stmt} {rest : List Stmt} {m n : MS}
theorem sp_nil (k : X.K = G.K) : SPs G W X [] sNop := by
  refine ⟨k, PSs.of pss_nil fun D σ H h => ?_⟩
  obtain ⟨P, ρ, es, S, s, q, h⟩ := h
  exact h σ ρ H s q (TKS.refl _ _ _ _)
theorem sp_one (h : SP1 G W X st m) : SPs G W X [st] m := ⟨h.k, pss_one h.ps⟩
theorem seq_core {D : Ends} {σ : St} {H : Hp} (h : rdS G W (sSeq m n) D σ H) : rdS G W m { D with nx := rdS G W n D } σ H := by
  obtain ⟨P, ρ, es, S, s, q, h⟩ := h
  refine ⟨P, ρ, es, S, s, q, ?_⟩
  unfold sSeq at h
  cases z : m es S with
  | nx es' S' =>
    rw [z] at h
    exact fun σ' ρ' H' s' q' t => ⟨P, ρ', es', S', s', q', AftS.next t h⟩
  | rt r S' => rw [z] at h; exact h
  | bk es' S' => rw [z] at h; exact h
  | ct es' S' => rw [z] at h; exact h
  | ex c p es' S' => rw [z] at h; exact h
  | bad => rw [z] at h; exact h
theorem sp_cons (h1 : SP1 G W X st m) (h2 : SPs G W X rest n) : SPs G W X (st :: rest) (sSeq m n) := ⟨h1.k, PSs.of (pss_cons h1.ps h2.pss) fun D σ H h => seq_core h⟩
theorem sp_if {t : MB} {as bs : List Stmt} (ht : SB G W X c t) (ha : SPs G W X as m) (hb : SPs G W X bs n) : SP1 G W X (.If c as bs pos) (sIf t m n) := by
  refine ⟨ht.k, PS.of (ps_if ht.pt ha.pss hb.pss) fun D σ H h => ?_⟩
  obtain ⟨P, ρ, es, S, s, q, h⟩ := h
  refine st_thenB s q h fun r S1 ρ1 H1 s1 q1 k1 h => ?_
  cases r with
  | true => exact ⟨P, ρ1, es, S1, s1.less q.sub, q1, h⟩
  | false => exact ⟨P, ρ1, es, S1, s1.less q.sub, q1, h⟩
theorem sp_ret (ha : SE G W X a ma) : SP1 G W X (.Return (some a) pos) (sRet ma) := by
  refine ⟨ha.k, PS.of (ps_ret ha.pe) fun D σ H h => ?_⟩
  obtain ⟨P, ρ, es, S, s, q, h⟩ := h
  refine st_thenS s q h fun r S1 v ρ1 H1 s1 q1 k1 rr h => ?_
  cases r with
  | d x => exact h.2 v ρ1 H1 (s1.less q.sub) (TK.refl _ _) rr
  | l f ds =>
    cases f with
    | true => exact h.2 v ρ1 H1 (s1.less q.sub) (TK.refl _ _) (RR.less q.sub (fun _ z => by cases z) rr)
    | false => exact h.elim
theorem sp_retV {i : Nat} {x : Str} {p2 : Pos} (k : X.K = G.K) (hN : X.N[i]? = some x) (hv : Vis X.env.scope x) (hd : (x == ("__debug__" : Str)) = false := by decide) (hcd : (x == ("__classdict__" : Str)) = false := by decide) : SP1 G W X (.Return (some (.Name x p2)) pos) (sRetV i) := by
  refine ⟨k, PS.of (ps_ret (pe_var hN hv hd hcd)) fun D σ H h => ?_⟩
  obtain ⟨P, ρ, es, S, s, q, h⟩ := h
  unfold sRetV at h
  split at h
  · rename_i x e
    obtain ⟨v, h1, h2⟩ := q.val i x e
    exact ⟨v, h1, h.2 v ρ H s (TK.refl _ _) h2⟩
  · rename_i ds e
    obtain ⟨a, vs, h1, h2, h3, h4, h5⟩ := q.own i ds e
    exact ⟨.ref a, h1, h.2 (.ref a) ρ H s (TK.refl _ _) ⟨a, vs, rfl, h2, h3, h4, h5⟩⟩
  · exact h.elim
theorem own_ne {P : Hp} {ρ : List Addr} {H : Hp} {σ : St} {es : Env} {a : Addr} (q : SS G P ρ H σ es) (h : plus P H σ es a = none) : ¬ IsOwn σ es a := fun z => by
  rw [plus_own z] at h
  obtain ⟨i, ds, h1, h2⟩ := z
  obtain ⟨b, vs, e1, e2, _⟩ := q.own i ds h1
  rw [h2] at e1
  cases e1
  rw [h] at e2; cases e2
theorem set_core {i : Nat} {D : Ends} {σ : St} {H : Hp} (h : rdS G W (sSet i ma) D σ H) : tAsg (rdE G W ma) (gName i) D σ H := by
  obtain ⟨P, ρ, es, S, s, q, h⟩ := h
  refine st_thenS s q h fun r S1 v ρ1 H1 s1 q1 k1 rr h => ?_
  cases r with
  | d x => exact h (σ.set i (some v)) ρ1 H1 (s1.less q.sub) (q1.setV rr) (tks_set fun _ z => by cases z)
  | l f ds =>
    cases f with
    | false => exact h.elim
    | true =>
      obtain ⟨a, vs, rfl, h1, h2, h3, h4⟩ := rr
      have no := own_ne q h4
      exact h (σ.set i (some (.ref a))) ρ1 H1 (s1.less q.sub) (q1.setO h1 h2 h3 (none_sub q.sub h4) fun j es' _ hj z => no ⟨j, es', hj, z⟩) (tks_set fun _ z => by cases z)
theorem sp_set {i : Nat} {x : Str} {pos' : Pos} (ha : SE G W X a ma) (hN : X.N.Nodup) (hi : X.N[i]? = some x) (hx : Loc X.env.scope x) (hs : swapsWith a (some (.Name x pos')) pos.line X.env = pure false := by rfl) (hf : X.fn x = true ∨ X.env.scope.names.lookup x = some .local := by first | exact .inl rfl | exact .inr rfl | assumption) :
    SP1 G W X (.Assign [.Name x pos'] a pos) (sSet i ma) := ⟨ha.k, PS.of (ps_set hN hi hx ha.pe hs hf) fun D σ H h => set_core h⟩
theorem setS_core {i : Nat} {D : Ends} {σ : St} {H : Hp} (h : rdS G W (sSetS i ma) D σ H) : tAsg (rdE G W ma) (gName i) D σ H := by
  obtain ⟨P, ρ, es, S, s, q, h⟩ := h
  have h' : AftS G W P ρ H σ es (bindS (ma es S) es fun r S1 => bindS (item r S1) es fun x S2 => .nx (es.set i (.v x)) S2) D := by
    unfold sSetS at h
    cases e : ma es S with
    | ok r S1 => rw [e] at h; exact h
    | ex c p S1 => rw [e] at h; exact h
    | bad => rw [e] at h; exact h
  refine st_thenS s q h' fun r S1 v ρ1 H1 s1 q1 k1 rr h => ?_
  cases e : item r S1 with
  | bad => rw [e] at h; exact h.elim
  | ex c p S2 => exact (item_ex e).elim
  | ok d S2 =>
    rw [e] at h
    obtain ⟨ρ2, s2, k2, rd⟩ := item_ok s1 rr e
    have q2 : SS G P ρ2 H1 σ es := q.next s2 (k1.trans k2)
    exact h (σ.set i (some v)) ρ2 H1 (s2.less q.sub) (q2.setV rd) ((TKS.of k2).trans (tks_set fun _ z => by cases z))
theorem sp_setS {i : Nat} {x : Str} {pos' : Pos} (ha : SE G W X a ma) (hN : X.N.Nodup) (hi : X.N[i]? = some x) (hx : Loc X.env.scope x) (hs : swapsWith a (some (.Name x pos')) pos.line X.env = pure false := by rfl) (hf : X.fn x = true ∨ X.env.scope.names.lookup x = some .local := by first | exact .inl rfl | exact .inr rfl | assumption) :
    SP1 G W X (.Assign [.Name x pos'] a pos) (sSetS i ma) := ⟨ha.k, PS.of (ps_set hN hi hx ha.pe hs hf) fun D σ H h => setS_core h⟩
end
end DM

namespace DM
open PySem PySem.Spec L2

/-! ### targets -/
abbrev MG := D → Env → Option Env
abbrev MGs := List D → Env → Option Env
def tgName (i : Nat) : MG := fun x es => some (es.set i (.v x))
def tgNil : MGs := fun ds es => match ds with
  | [] => some es
  | _ => none
def tgCons (g : MG) (gs : MGs) : MGs := fun ds es => match ds with
  | d :: ds => (g d es).bind fun es1 => gs ds es1
  | [] => none
def tgTup (n : Nat) (gs : MGs) : MG := fun x es => match x with
  | .tup ds => if ds.length = n then gs ds es else none
  | _ => none
/-- what a stored target gives on -/
structure Stored (G : GT) (ix : List Nat) (ρ : List Addr) (H : Hp) (σ : St) (es : Env) (σ' : St) (es' : Env) : Prop where
  ss : ∀ P, SS G P ρ H σ es → SS G P ρ H σ' es'
  ee : ∀ P, ES G P ρ H σ es → ES G P ρ H σ' es'
  tk : TKS ρ H σ es ρ H σ' es'
  wp : ∀ vs : List Nat, (∀ i ∈ ix, i ∈ vs) → wipe σ' vs = wipe σ vs
def SG (G : GT) (X : Cx) (tg : Expr) (ix : List Nat) (mg : MG) : Prop := ∃ t : TG, PG X tg t ∧ ∀ ρ H σ es es' x v (Q : St → Hp → Prop), Rep G ρ H x v → mg x es = some es' → (∀ σ', Stored G ix ρ H σ es σ' es' → Q σ' H) → t v σ H Q
theorem wipe_get {σ : St} : ∀ (vs : List Nat) (j : Nat), (wipe σ vs)[j]? = if j ∈ vs then (if j < σ.length then some none else none) else σ[j]?
  | [], j => by simp [wipe]
  | v :: vs, j => by
    show ((wipe σ vs).set v none)[j]? = _
    rw [List.getElem?_set, wipe_length]
    by_cases h : v = j
    · subst h
      simp
    · rw [if_neg h, wipe_get vs j]
      simp [Ne.symm h]
theorem wipe_set {σ : St} {i : Nat} {x : Option V} {vs : List Nat} (h : i ∈ vs) : wipe (σ.set i x) vs = wipe σ vs := by
  apply List.ext_getElem?
  intro j
  rw [wipe_get, wipe_get, List.length_set, List.getElem?_set]
  by_cases hj : j ∈ vs
  · simp [hj]
  · have : i ≠ j := fun z => hj (z ▸ h)
    simp [hj, this]
theorem ES.setV {G : GT} {P : Hp} {ρ : List Addr} {H : Hp} {σ : St} {es : Env} (q : ES G P ρ H σ es) {i : Nat} {d : D} {x : V} (r : Rep G ρ H d x) : ES G P ρ H (σ.set i (some x)) (es.set i (.v d)) := by
  have sg : ∀ (j : Nat), i ≠ j → (σ.set i (some x))[j]? = σ[j]? := fun j h => by rw [List.getElem?_set_ne h]
  refine ⟨by simp [q.len], fun j e h => ?_, fun j ds h => ?_⟩
  · rcases get_set h with ⟨rfl, hl, e1⟩ | ⟨hn, h⟩
    · cases e1
      exact ⟨x, by rw [List.getElem?_set_self (by rw [q.len]; exact hl)], r⟩
    · rw [sg j hn]; exact q.val j e h
  · rcases h with h | h
    · rcases get_set h with ⟨rfl, hl, e1⟩ | ⟨hn, h⟩
      · cases e1
      · rw [sg j hn]; exact q.lst j ds (.inl h)
    · rcases get_set h with ⟨rfl, hl, e1⟩ | ⟨hn, h⟩
      · cases e1
      · rw [sg j hn]; exact q.lst j ds (.inr h)
section
variable {G : GT} {X : Cx} {e : Expr} {rest : List Expr} {ix ixs : List Nat} {mg : MG} {mgs : MGs} {pos : Pos}
/-- a target's reading serves its mirror -/
def OG (G : GT) (ix : List Nat) (g : TG) (mg : MG) : Prop := ∀ ρ H σ es es' x v (Q : St → Hp → Prop), Rep G ρ H x v → mg x es = some es' → (∀ σ', Stored G ix ρ H σ es σ' es' → Q σ' H) → g v σ H Q
theorem og_name {i : Nat} : OG G [i] (gName i) (tgName i) := fun ρ H σ es es' x v Q r e h => by
  cases e
  exact h _ ⟨fun P q => q.setV r, fun P q => q.setV r, tks_set (fun _ z => by cases z), fun vs hv => wipe_set (hv i (by simp))⟩
theorem sg_of {g : TG} (pg : PG X e g) (og : OG G ix g mg) : SG G X e ix mg := ⟨g, pg, og⟩
end

/-! ### what is walked -/
inductive SK where
  | p | t | s (n : Nat)
def SeqAt (G : GT) (P : Hp) (ρ : List Addr) (H : Hp) (S : Store) : SK → List D → Addr → Prop
  | .p, ds, a => ∃ vs, P a = some (.lst vs) ∧ Reps G ρ H ds vs
  | .t, ds, a => ∃ vs, H a = some (.tup vs) ∧ Reps G ρ H ds vs
  | .s n, ds, a => ρ[n]? = some a ∧ S[n]? = some (.lst ds)
def chk : SK → List D → Store → Prop
  | .s n, ds, S => S[n]? = some (.lst ds)
  | _, _, _ => True
def isT : SK → Bool
  | .t => true
  | _ => false
section
variable {G : GT} {P P' : Hp} {ρ ρ' : List Addr} {H H' : Hp} {S S' : Store} {k : SK} {ds : List D} {a : Addr}
theorem SeqAt.next (h : SeqAt G P ρ H S k ds a) (hp : ∀ a o, P a = some o → P' a = some o) (tk : TK ρ H ρ' H') (c : chk k ds S') : SeqAt G P' ρ' H' S' k ds a := by
  cases k with
  | p => obtain ⟨vs, e, r⟩ := h; exact ⟨vs, hp _ _ e, r.mono tk⟩
  | t => obtain ⟨vs, e, r⟩ := h; exact ⟨vs, tk.tup _ _ e, r.mono tk⟩
  | s n => exact ⟨tk.at_ h.1, c⟩
theorem SeqAt.list (h : SeqAt G P ρ H S k ds a) (s : VS G P ρ H S) (ht : isT k = false) : ∃ vs, H a = some (.lst vs) ∧ Reps G ρ H ds vs := by
  cases k with
  | p => obtain ⟨vs, e, r⟩ := h; exact ⟨vs, (s.pr _ _ e).1, r⟩
  | t => cases ht
  | s n => exact s.st n a _ h.1 h.2
theorem SeqAt.tuple (h : SeqAt G P ρ H S k ds a) (ht : isT k = true) : ∃ vs, SqT G.K H a vs ∧ Reps G ρ H ds vs := by
  cases k with
  | p => cases ht
  | t => obtain ⟨vs, e, r⟩ := h; exact ⟨vs, SqT.of e, r⟩
  | s n => cases ht
end
/-- what the turns of J yield, while the walked thing stands -/
def Drv (G : GT) (P : Hp) (ρ0 : List Addr) (H0 : Hp) (J : L2.It) (xs : List D) (ck : Store → Prop) : Prop := ∀ (i : Nat) ρ H S, VS G P ρ H S → TK ρ0 H0 ρ H → ck S →
  (i = xs.length → J.stop i H) ∧ ∀ d, xs[i]? = some d → J.go i H ∧ ∀ x H', J.yld i H x H' → (∀ a o, H a = some o → H' a = some o) ∧ Rep G ρ H' d x
theorem Rep.same {G : GT} {ρ : List Addr} {H H' : Hp} {d : D} {v : V} (r : Rep G ρ H d v) (h : ∀ a o, H a = some o → H' a = some o) : Rep G ρ H' d v := r.mono (TK.same h)
section
variable {G : GT} {P : Hp} {ρ : List Addr} {H : Hp} {S : Store} {k : SK} {ds : List D} {a : Addr}
theorem drv_rng {lo : Int} {n : Nat} : Drv G P ρ H (Itr lo n) ((List.range n).map fun (i : Nat) => D.int (lo + (i : Int))) (fun _ => True) := by
  intro i ρ1 H1 S1 s1 k1 c1
  refine ⟨fun hi => ?_, fun d hd => ?_⟩
  · rw [List.length_map, List.length_range] at hi
    show n ≤ i
    omega
  · rw [List.getElem?_map] at hd
    have hl : i < n := by
      by_cases h : i < n
      · exact h
      · rw [List.getElem?_eq_none (by simpa using h)] at hd; cases hd
    rw [List.getElem?_range hl] at hd
    cases hd
    refine ⟨hl, fun x H' hy => ?_⟩
    obtain ⟨rfl, rfl⟩ := hy
    exact ⟨fun _ _ e => e, .int _⟩
def zipD (xs ys : List D) : List D := List.zipWith (fun x y => D.tup [x, y]) xs ys
def enumD (xs : List D) : List D := xs.zipIdx.map fun p => D.tup [.int (p.2 : Nat), p.1]
end

/-! ### sources -/
abbrev MI := Env → Store → Res (List D × (Store → Prop))
abbrev MQ := Env → Store → Res (List D × SK)
abbrev RL := Hp → List Addr → Hp → St → Env → Prop
def ofSeq (x : D) (S : Store) : Res (List D × SK) := match x with
  | .tup ds => .ok (ds, .t) S
  | .loc n => match S[n]? with
    | some (.lst ds) => .ok (ds, .s n) S
    | _ => .bad
  | _ => .bad
def qVar (i : Nat) : MQ := fun es S => match es[i]? with
  | some (.bor ds) => .ok (ds, .p) S
  | some (.v x) => ofSeq x S
  | _ => .bad
/-- a statement's source: no own list by name -/
def qE (m : ME) : MQ := fun es S => (m es S).bind fun r S1 => match r with
  | .l true ds => .ok (ds, .p) S1
  | .d x => ofSeq x S1
  | _ => .bad
/-- a comprehension's source -/
def qC (m : ME) : MQ := fun es S => (m es S).bind fun r S1 => match r with
  | .l _ ds => .ok (ds, .p) S1
  | .d x => ofSeq x S1
def AftQ {T : Type} (G : GT) (W : WX) (Rl : RL) (P : Hp) (ρ : List Addr) (H : Hp) (σ : St) (es : Env) (r : Res T) (R : T → Store → Hp → List Addr → Hp → Prop) : Prop := match r with
  | .ok x S' => ∀ P' ρ' H', (∀ a o, P a = some o → P' a = some o) → VS G P' ρ' H' S' → Rl P' ρ' H' σ es → TK ρ H ρ' H' → R x S' P' ρ' H'
  | .ex c p S' => ∀ cls d ρ' H', VS G P ρ' H' S' → Rl P ρ' H' σ es → TK ρ H ρ' H' → RX G ρ' H' c p cls d → W cls d σ H'
  | .bad => False
def IAok (G : GT) (W : WX) (Rl : RL) (te : TE) (mq : MQ) : Prop := ∀ P ρ H S σ es (R : VK), VS G P ρ H S → Rl P ρ H σ es → AftQ G W Rl P ρ H σ es (mq es S) (fun x S' P' ρ' H' => ∀ a, SeqAt G P' ρ' H' S' x.2 x.1 a → R (.ref a) H') → te σ H R
structure SQ (G : GT) (W : WX) (Rl : RL) (X : Cx) (e : Expr) (mq : MQ) : Prop where
  k : X.K = G.K
  pe : ∃ te, PE X e te ∧ IAok G W Rl te mq
structure SIt (G : GT) (W : WX) (Rl : RL) (X : Cx) (tg iter : Expr) (mi : MI) : Prop where
  k : X.K = G.K
  pi : ∃ wi, PI X tg iter wi ∧ ∀ P ρ H S σ es (R : L2.It → Hp → Prop), VS G P ρ H S → Rl P ρ H σ es → AftQ G W Rl P ρ H σ es (mi es S) (fun x S' P' ρ' H' => ∀ J, Drv G P' ρ' H' J x.1 x.2 → R J H') → wi σ H R
section
variable {G : GT} {W : WX} {X : Cx} {Rl : RL} {e : Expr}
/-! list or tuple -/
def miSeq (mq : MQ) : MI := fun es S => (mq es S).bind fun x S1 => .ok (x.1, chk x.2 x.1) S1
theorem AftQ.imp {T : Type} {P : Hp} {ρ : List Addr} {H : Hp} {σ : St} {es : Env} {r : Res T} {R R' : T → Store → Hp → List Addr → Hp → Prop} (h : AftQ G W Rl P ρ H σ es r R)
    (k : ∀ x S' P' ρ' H', r = .ok x S' → (∀ a o, P a = some o → P' a = some o) → VS G P' ρ' H' S' → Rl P' ρ' H' σ es → TK ρ H ρ' H' → R x S' P' ρ' H' → R' x S' P' ρ' H') : AftQ G W Rl P ρ H σ es r R' := by
  cases r with
  | ok x S' => exact fun P' ρ' H' hp s q t => k x S' P' ρ' H' rfl hp s q t (h P' ρ' H' hp s q t)
  | ex c p S' => exact h
  | bad => exact h
/-- slots under more protection serve under less -/
def Low (Rl : RL) : Prop := ∀ P P' ρ H ρ' H' σ es, Rl P ρ H σ es → (∀ a o, P a = some o → P' a = some o) → TK ρ H ρ' H' → Rl P' ρ' H' σ es → Rl P ρ' H' σ es
theorem lowSS : Low (SS G) := fun _ _ _ _ _ _ _ _ q hp k q' => q.less hp (TKS.of k) q'
theorem lowES : Low (ES G) := fun _ _ _ _ _ _ _ _ q _ k _ => q.next k
theorem AftQ.bindOk {T U : Type} {P : Hp} {ρ : List Addr} {H : Hp} {σ : St} {es : Env} {r : Res T} {f : T → Store → Res U} {R : U → Store → Hp → List Addr → Hp → Prop} (lw : Low Rl) (q0 : Rl P ρ H σ es) (h : AftQ G W Rl P ρ H σ es (r.bind f) R) :
    AftQ G W Rl P ρ H σ es r (fun x S' P' ρ' H' => AftQ G W Rl P' ρ' H' σ es (f x S') R) := by
  cases r with
  | ok x S' =>
    intro P' ρ' H' hp s q t
    have h' : AftQ G W Rl P ρ H σ es (f x S') R := h
    cases e : f x S' with
    | ok y S'' =>
      rw [e] at h'
      exact fun P'' ρ'' H'' hp2 s2 q2 t2 => h' P'' ρ'' H'' (fun a o z => hp2 a o (hp a o z)) s2 q2 (t.trans t2)
    | ex c p S'' =>
      rw [e] at h'
      exact fun cls d ρ'' H'' s2 q2 t2 rx => h' cls d ρ'' H'' (s2.less hp) (lw P P' ρ H ρ'' H'' σ es q0 hp (t.trans t2) q2) (t.trans t2) rx
    | bad => rw [e] at h'; exact h'
  | ex c p S' => exact h
  | bad => exact h
end
end DM

namespace DM
open PySem PySem.Spec L2

/-! ### more sources -/
open Classical in
noncomputable def miRng1 (m : ME) : MI := fun es S => (eArgs [m] es S).bind fun rs S1 => match rs with
  | [.d (.int n)] => if -(2 ^ 62) ≤ n ∧ n < 2 ^ 62 then .ok ((List.range n.toNat).map fun (i : Nat) => D.int (i : Int), fun _ => True) S1 else .bad
  | _ => .bad
open Classical in
noncomputable def miRng2 (m n : ME) : MI := fun es S => (eArgs [m, n] es S).bind fun rs S1 => match rs with
  | [.d (.int a), .d (.int b)] => if -(2 ^ 62) ≤ a ∧ a < 2 ^ 62 ∧ -(2 ^ 62) ≤ b ∧ b < 2 ^ 62 then .ok ((List.range (b - a).toNat).map fun (i : Nat) => D.int (a + (i : Int)), fun _ => True) S1 else .bad
  | _ => .bad
open Classical in
noncomputable def miRng3 (m n k : ME) : MI := fun es S => (eArgs [m, n, k] es S).bind fun rs S1 => match rs with
  | [.d (.int a), .d (.int b), .d (.int c)] => if RgC a b c (Builtin.Range.rangeSize a b c).toNat then .ok ((List.range (Builtin.Range.rangeSize a b c).toNat).map fun (i : Nat) => D.int (a + (i : Int) * c), fun _ => True) S1 else .bad
  | _ => .bad
open Classical in
noncomputable def miZip (m n : MQ) : MI := fun es S => (m es S).bind fun x S1 => (n es S1).bind fun y S2 =>
  if isT x.2 = isT y.2 ∧ chk x.2 x.1 S2 then .ok (zipD x.1 y.1, fun S => chk x.2 x.1 S ∧ chk y.2 y.1 S) S2 else .bad
open Classical in
noncomputable def miEnum (m : MQ) : MI := fun es S => (m es S).bind fun x S1 => if isT x.2 = false then .ok (enumD x.1, chk x.2 x.1) S1 else .bad

/-- a reading of arguments that both kinds of slots serve -/
theorem args_any {G : GT} {W : WX} {X : Cx} {as : List Expr} {ms : List ME} (ha : SA G W X as ms) : ∃ ta, PA X as ta ∧
    (∀ P ρ H S σ es (Q : List V → Hp → Prop), VS G P ρ H S → SS G P ρ H σ es → AftQ G W (SS G) P ρ H σ es (eArgs ms es S) (fun rs S' P' ρ' H' => ∀ vs P2, RRs G P2 ρ' H' rs vs → Q vs H') → ta σ H Q) ∧
    (∀ P ρ H S σ es (Q : List V → Hp → Prop), VS G P ρ H S → ES G P ρ H σ es → AftQ G W (ES G) P ρ H σ es (eArgs ms es S) (fun rs S' P' ρ' H' => ∀ vs P2, RRs G P2 ρ' H' rs vs → Q vs H') → ta σ H Q) := by
  refine ⟨_, ha.pa, fun P ρ H S σ es Q s q h => ?_, fun P ρ H S σ es Q s q h => ?_⟩
  · refine ⟨_, ρ, es, S, q.vs s, q.toES, ?_⟩
    cases e : eArgs ms es S with
    | bad => rw [e] at h; exact h
    | ex c p S1 =>
      rw [e] at h
      exact fun cls d ρ1 H1 s1 k1 rx => h cls d ρ1 H1 (s1.less q.sub) (q.next s1 k1) k1 rx
    | ok rs S1 =>
      rw [e] at h
      intro vs P' ρ' H' hp s' t rrs
      have s2 : VS G (plus P H σ es) ρ' H' S1 := s'.less hp
      exact h P ρ' H' (fun _ _ e => e) (s2.less q.sub) (q.next s2 t) t vs P' rrs
  · refine ⟨P, ρ, es, S, s, q, ?_⟩
    cases e : eArgs ms es S with
    | bad => rw [e] at h; exact h
    | ex c p S1 =>
      rw [e] at h
      exact fun cls d ρ1 H1 s1 k1 rx => h cls d ρ1 H1 s1 (q.next k1) k1 rx
    | ok rs S1 =>
      rw [e] at h
      intro vs P' ρ' H' hp s' t rrs
      exact h P ρ' H' (fun _ _ e => e) (s'.less hp) (q.next t) t vs P' rrs
theorem rrs_i1 {G : GT} {P : Hp} {ρ : List Addr} {H : Hp} {n : Int} {vs : List V} (h : RRs G P ρ H [.d (.int n)] vs) : vs = [.int n] := by
  cases h with
  | cons h t =>
    cases t
    cases h
    rfl
section
variable {G : GT} {W : WX} {X : Cx} {tg a b c : Expr} {ma mb mc : ME} {p pos : Pos}
theorem rng1_core {Rl : RL} {ta : TA} (lw : Low Rl) (hta : ∀ P ρ H S σ es (Q : List V → Hp → Prop), VS G P ρ H S → Rl P ρ H σ es → AftQ G W Rl P ρ H σ es (eArgs [ma] es S) (fun rs S' P' ρ' H' => ∀ vs P2, RRs G P2 ρ' H' rs vs → Q vs H') → ta σ H Q) :
    ∀ P ρ H S σ es (R : L2.It → Hp → Prop), VS G P ρ H S → Rl P ρ H σ es → AftQ G W Rl P ρ H σ es (miRng1 ma es S) (fun x S' P' ρ' H' => ∀ J, Drv G P' ρ' H' J x.1 x.2 → R J H') → iRng1 ta σ H R := by
  intro P ρ H S σ es R s q h
  refine hta P ρ H S σ es _ s q (AftQ.imp (AftQ.bindOk lw q h) fun rs S' P' ρ' H' e hp s' q' t h vs P2 rrs => ?_)
  split at h
  · rename_i n
    split at h
    · rename_i hb
      have hv := rrs_i1 rrs
      refine ⟨n, hv, hb.1, hb.2, ?_⟩
      have := h P' ρ' H' (fun _ _ e => e) s' q' (TK.refl _ _) (Itr 0 n.toNat)
      refine this ?_
      have d := drv_rng (G := G) (P := P') (ρ := ρ') (H := H') (lo := 0) (n := n.toNat)
      simp only [Int.zero_add] at d
      exact d
    · exact h.elim
  · exact h.elim
theorem si_rng1 (ha : SA G W X [a] [ma]) (hg : Gl X "range") (hm : X.mg "range" = none) (hs : starEach [a] X.env = [(false, eval a X.env)] := by rfl) : SIt G W (SS G) X tg (.Call (.Name "range" p) [a] [] pos) (miRng1 ma) := by
  obtain ⟨ta, pa, h1, h2⟩ := args_any ha
  exact ⟨ha.k, _, pi_range1 hg hm pa hs, rng1_core lowSS h1⟩
theorem sc_rng1 (ha : SA G W X [a] [ma]) (hg : Gl X "range") (hm : X.mg "range" = none) (hs : starEach [a] X.env = [(false, eval a X.env)] := by rfl) : SIt G W (ES G) X tg (.Call (.Name "range" p) [a] [] pos) (miRng1 ma) := by
  obtain ⟨ta, pa, h1, h2⟩ := args_any ha
  exact ⟨ha.k, _, pi_range1 hg hm pa hs, rng1_core lowES h2⟩
end

/-! ### for, while -/
open Classical in
noncomputable def forL (ck : Store → Prop) (g : MG) (b : MS) : List D → MS
  | [] => fun es S => if ck S then .nx es S else .bad
  | x :: xs => fun es S => if ck S then (match g x es with
    | some es1 => (match b es1 S with
      | .nx es2 S2 => forL ck g b xs es2 S2
      | .ct es2 S2 => forL ck g b xs es2 S2
      | .bk es2 S2 => .nx es2 S2
      | r => r)
    | none => .bad) else .bad
noncomputable def sFor (mi : MI) (g : MG) (b : MS) : MS := fun es S => bindS (mi es S) es fun x S1 => forL x.2 g b x.1 es S1
section
variable {G : GT} {W : WX} {X : Cx} {tg iter c : Expr} {body : List Stmt} {mi : MI} {mg : MG} {mb : MS} {ix : List Nat} {pos : Pos}
theorem sp_for (hp : PassesOwn (model X.prog X.w) X.A X.env X.xe) (hc : X.calm = true) (hi : SIt G W (SS G) X tg iter mi) (hg : SG G X tg ix mg) (hb : SPs G W X body mb)
    (hs : ∀ x, foldedSetIterable iter X.env x = pure x := by intro _; rfl) : SP1 G W X (.For tg iter body [] pos) (sFor mi mg mb) := by
  obtain ⟨k, wi, pi, ok⟩ := hi
  obtain ⟨t, pg, okg⟩ := hg
  refine ⟨k, PS.of (ps_for hp hc pi pg hb.pss hs) fun D σ H h => ?_⟩
  obtain ⟨P, ρ, es, S, s, q, h⟩ := h
  refine ok P ρ H S σ es _ s q ?_
  unfold sFor at h
  cases z : mi es S with
  | bad => rw [z] at h; exact h
  | ex c p S1 => rw [z] at h; exact fun cls d ρ1 H1 s1 q1 k1 rx => h cls d σ ρ1 H1 s1 q1 (TKS.of k1) rx
  | ok x S1 =>
    rw [z] at h
    obtain ⟨xs, ck⟩ := x
    intro P' ρ1 H1 hp' s1 q1 t1 J dv
    have h : AftS G W P ρ H σ es (forL ck mg mb xs es S1) D := h
    have h0 : AftS G W P' ρ1 H1 σ es (forL ck mg mb xs es S1) D := by
      have := AftS.more q hp' h
      exact AftS.next (TKS.of t1) this
    refine ⟨fun i m σ2 H2 => ∃ ρ2 es2 S2, VS G P' ρ2 H2 S2 ∧ SS G P' ρ2 H2 σ2 es2 ∧ TKS ρ1 H1 σ es ρ2 H2 σ2 es2 ∧ i + m = xs.length ∧ AftS G W P' ρ2 H2 σ2 es2 (forL ck mg mb (xs.drop i) es2 S2) D,
      ⟨xs.length, ρ1, es, S1, s1, q1, TKS.refl _ _ _ _, by omega, by simpa using h0⟩, fun i m σ2 H2 hW => ?_⟩
    obtain ⟨ρ2, es2, S2, s2, q2, t2, hm, h2⟩ := hW
    cases hx : xs.drop i with
    | nil =>
      rw [hx] at h2
      have hi : i = xs.length := by
        have := List.drop_eq_nil_iff.mp hx
        omega
      unfold forL at h2
      split at h2
      · rename_i hck
        exact .inl ⟨(dv i ρ2 H2 S2 s2 t2.tk hck).1 hi, h2 σ2 ρ2 H2 s2 q2 (TKS.refl _ _ _ _)⟩
      · exact h2.elim
    | cons d r =>
      rw [hx] at h2
      have hd : xs[i]? = some d := by
        have : (xs.drop i)[0]? = some d := by rw [hx]; rfl
        rw [List.getElem?_drop, Nat.add_zero] at this
        exact this
      have hr : xs.drop (i + 1) = r := by
        have : (xs.drop i).drop 1 = r := by rw [hx]; rfl
        rw [List.drop_drop] at this
        exact this
      have hil : i < xs.length := (List.getElem?_eq_some_iff.mp hd).1
      unfold forL at h2
      split at h2
      · rename_i hck
        obtain ⟨_, dv2⟩ := dv i ρ2 H2 S2 s2 t2.tk hck
        obtain ⟨go, yl⟩ := dv2 d hd
        refine .inr ⟨go, fun σ3 H3 => ∃ ρ3 es3 S3, VS G P' ρ3 H3 S3 ∧ SS G P' ρ3 H3 σ3 es3 ∧ TKS ρ1 H1 σ es ρ3 H3 σ3 es3 ∧ AftS G W P' ρ3 H3 σ3 es3 (forL ck mg mb r es3 S3) D, fun σ3 H3 hN => ?_, fun v H3 hy => ?_⟩
        · obtain ⟨ρ3, es3, S3, s3, q3, t3, h3⟩ := hN
          exact ⟨m - 1, by omega, ρ3, es3, S3, s3, q3, t3, by omega, by rw [hr]; exact h3⟩
        · obtain ⟨gr, rv⟩ := yl v H3 hy
          have tk3 : TK ρ2 H2 ρ2 H3 := TK.same gr
          have s3 : VS G P' ρ2 H3 S2 := s2.grow gr
          have q3 : SS G P' ρ2 H3 σ2 es2 := by
            refine ⟨q2.len, fun i d e => ?_, fun i ds e => ?_, fun i ds e => ?_, q2.dis⟩
            · obtain ⟨x, h1, h2⟩ := q2.val i d e
              exact ⟨x, h1, h2.mono tk3⟩
            · obtain ⟨a, vs, e1, e2, e3⟩ := q2.bor i ds e
              exact ⟨a, vs, e1, e2, e3.mono tk3⟩
            · obtain ⟨a, vs, e1, e2, e3, e4, e5⟩ := q2.own i ds e
              exact ⟨a, vs, e1, gr _ _ e2, e3.mono tk3, e4, e5⟩
          cases zg : mg d es2 with
          | none => rw [zg] at h2; exact h2.elim
          | some es3 =>
            rw [zg] at h2
            refine okg ρ2 H3 σ2 es2 es3 d v _ rv zg fun σ3 st => ?_
            refine ⟨P', ρ2, es3, S2, s3, st.ss P' q3, ?_⟩
            have tt : TKS ρ2 H2 σ2 es2 ρ2 H3 σ3 es3 := (TKS.of tk3).trans st.tk
            have h3 := AftS.next tt h2
            dsimp only at h3
            cases zb : mb es3 S2 with
            | nx es4 S4 =>
              rw [zb] at h3
              exact fun σ4 ρ4 H4 s4 q4 t4 => ⟨ρ4, es4, S4, s4, q4, (t2.trans tt).trans t4, AftS.next t4 h3⟩
            | ct es4 S4 =>
              rw [zb] at h3
              exact fun σ4 ρ4 H4 s4 q4 t4 => ⟨ρ4, es4, S4, s4, q4, (t2.trans tt).trans t4, AftS.next t4 h3⟩
            | bk es4 S4 => rw [zb] at h3; exact h3
            | rt rr S4 => rw [zb] at h3; exact h3
            | ex c p es4 S4 => rw [zb] at h3; exact h3
            | bad => rw [zb] at h3; exact h3
      · exact h2.elim
/-- own lists lent for a while -/
def frzS (i : Nat) (es : Env) : Env := match es[i]? with
  | some (.own ds) => es.set i (.bor ds)
  | _ => es
def unfS (i : Nat) (es0 es : Env) : Env := match es0[i]?, es[i]? with
  | some (.own ds), some (.bor _) => es.set i (.own ds)
  | _, _ => es
def sFrz (i : Nat) (m : MS) : MS := fun es S => match m (frzS i es) S with
  | .nx es' S' => .nx (unfS i es es') S'
  | .bk es' S' => .bk (unfS i es es') S'
  | .ct es' S' => .ct (unfS i es es') S'
  | .ex c p es' S' => .ex c p (unfS i es es') S'
  | r => r
end
end DM

namespace DM
open PySem PySem.Spec L2

/-! ### comprehensions -/
abbrev W0 : WX := fun _ _ _ _ => False
def wipeE (es : Env) : List Nat → Env
  | [] => es
  | v :: vs => (wipeE es vs).set v .no
open Classical in
noncomputable def compL (ck : Store → Prop) (g : MG) (t : MB) (m : ME) (es : Env) : List D → Store → Res (List D)
  | [], S => if ck S then .ok [] S else .bad
  | x :: xs, S => if ck S then (match g x es with
    | some es1 => (t es1 S).bind fun b S1 => if b = true then ((m es1 S1).bind item).bind fun d S2 => (compL ck g t m es xs S2).bind fun ds S3 => .ok (d :: ds) S3 else compL ck g t m es xs S1
    | none => .bad) else .bad
def noEx {T : Type} (r : Res T) : Res T := match r with
  | .ex _ _ _ => .bad
  | r => r
def bYes : MB := fun _ S => .ok true S
open Classical in
noncomputable def eComp (mi : MI) (g : MG) (t : MB) (m : ME) (vs : List Nat) : ME := fun es S => (mi es S).bind fun x S1 =>
  if x.1.length ≤ sizeLine then (noEx (compL x.2 g t m (wipeE es vs) x.1 S1)).bind fun ds S2 => .ok (.l true ds) S2 else .bad
section
variable {G : GT} {P : Hp} {ρ : List Addr} {H : Hp} {σ : St} {es : Env}
theorem ES.setN (q : ES G P ρ H σ es) {i : Nat} {x : Option V} : ES G P ρ H (σ.set i x) (es.set i .no) := by
  have sg : ∀ (j : Nat), i ≠ j → (σ.set i x)[j]? = σ[j]? := fun j h => by rw [List.getElem?_set_ne h]
  refine ⟨by simp [q.len], fun j e h => ?_, fun j ds h => ?_⟩
  · rcases get_set h with ⟨rfl, hl, e1⟩ | ⟨hn, h⟩
    · cases e1
    · rw [sg j hn]; exact q.val j e h
  · rcases h with h | h
    · rcases get_set h with ⟨rfl, hl, e1⟩ | ⟨hn, h⟩
      · cases e1
      · rw [sg j hn]; exact q.lst j ds (.inl h)
    · rcases get_set h with ⟨rfl, hl, e1⟩ | ⟨hn, h⟩
      · cases e1
      · rw [sg j hn]; exact q.lst j ds (.inr h)
theorem ES.wipe (q : ES G P ρ H σ es) : ∀ vs : List Nat, ES G P ρ H (wipe σ vs) (wipeE es vs)
  | [] => q
  | v :: vs => (ES.wipe q vs).setN
end
structure STs (G : GT) (W : WX) (X : Cx) (ifs : List Expr) (m : MB) : Prop where
  k : X.K = G.K
  pts : PTs X ifs (rdB G W m)
theorem sts_nil {G : GT} {W : WX} {X : Cx} (k : X.K = G.K) : STs G W X [] bYes := by
  refine ⟨k, ⟨fun pins s σ H Q I h => pts_nil.run pins s σ H Q I ?_⟩⟩
  obtain ⟨P, ρ, es, S, s, q, h⟩ := h
  exact h ρ H s (TK.refl _ _)
section
variable {G : GT} {W : WX} {X : Cx}
theorem comp_core {wi : TI} {g : TG} {ix : List Nat} {mi : MI} {mg : MG} {mt : MB} {me : ME} {vs : List Nat} {σ : St} {H : Hp} {Q : VK}
    (ok : ∀ P ρ H S σ es (R : L2.It → Hp → Prop), VS G P ρ H S → ES G P ρ H σ es → AftQ G W (ES G) P ρ H σ es (mi es S) (fun x S' P' ρ' H' => ∀ J, Drv G P' ρ' H' J x.1 x.2 → R J H') → wi σ H R)
    (okg : ∀ ρ H σ es es' x v (Q : St → Hp → Prop), Rep G ρ H x v → mg x es = some es' → (∀ σ', Stored G ix ρ H σ es σ' es' → Q σ' H) → g v σ H Q) (hix : ∀ i ∈ ix, i ∈ vs)
    (h : rdE G W (eComp mi mg mt me vs) σ H Q) : tLc wi g (rdB G W0 mt) (rdE G W0 me) vs σ H Q := by
  obtain ⟨P, ρ, es, S, s, q, h⟩ := h
  refine ok P ρ H S σ es _ s q ?_
  unfold eComp at h
  cases z : mi es S with
  | bad => rw [z] at h; exact h
  | ex c p S1 => rw [z] at h; exact fun cls d ρ1 H1 s1 q1 k1 rx => h cls d ρ1 H1 s1 k1 rx
  | ok x S1 =>
    rw [z] at h
    obtain ⟨xs, ck⟩ := x
    intro P' ρ1 H1 hp' s1 q1 t1 J dv
    dsimp only [Res.bind] at h
    split at h
    case isFalse => exact h.elim
    rename_i hz
    have h : Aft G (fun cls d H' => W cls d σ H') P ρ H ((noEx (compL ck mg mt me (wipeE es vs) xs S1)).bind fun ds S2 => .ok (.l true ds) S2) Q := h
    intro Dl hD
    -- the invariant: acc is made, the rest is to be made
    have fr := s1.free hD
    let Inv (i : Nat) (H2 : Hp) : Prop := ∃ ρ2 S2 acc av, VS G P' ρ2 H2 S2 ∧ TK ρ1 H1 ρ2 H2 ∧ H2 Dl = some (.lst av) ∧ Dl ∉ ρ2 ∧ Reps G ρ2 H2 acc av ∧ acc.length ≤ i ∧
      Aft G (fun cls d H' => W cls d σ H') P ρ2 H2 ((noEx (compL ck mg mt me (wipeE es vs) (xs.drop i) S2)).bind fun ds S3 => .ok (.l true (acc ++ ds)) S3) Q
    have g0 : ∀ a o, H1 a = some o → upd H1 Dl (.lst []) a = some o := fun a o e => by rw [upd_ne (ne_of_none e hD)]; exact e
    refine ⟨fun i m H2 => i + m = xs.length ∧ Inv i H2, ⟨xs.length, by omega, ρ1, S1, [], [], s1.grow g0, TK.same g0, upd_same, fr.1, .nil, Nat.le_refl _, ?_⟩, fun i m H2 hW => ?_⟩
    · have := Aft.next (t1.trans (TK.same g0)) h
      simpa using this
    obtain ⟨hm, ρ2, S2, acc, av, s2, t2, hDl, hnr, ra, hacc, h2⟩ := hW
    have pD : P' Dl = none := fr.2
    -- protection of the new list
    have hp2 : ∀ b o, P' b = some o → upd P' Dl (.lst av) b = some o := fun b o e => by rw [upd_ne (fun z => by rw [z, pD] at e; cases e)]; exact e
    have sP : VS G (upd P' Dl (.lst av)) ρ2 H2 S2 := ⟨s2.len, s2.nd, s2.st, fun b o e => by
      by_cases hb : b = Dl
      · subst hb; rw [upd_same] at e; cases e; exact ⟨hDl, hnr⟩
      · rw [upd_ne hb] at e; exact s2.pr b o e⟩
    cases hx : xs.drop i with
    | nil =>
      rw [hx] at h2
      have hi : i = xs.length := by
        have := List.drop_eq_nil_iff.mp hx
        omega
      unfold compL at h2
      split at h2
      · rename_i hck
        refine .inl ⟨(dv i ρ2 H2 S2 s2 t2 hck).1 hi, ?_⟩
        have h3 : Aft G (fun cls d H' => W cls d σ H') P ρ2 H2 (.ok (.l true (acc ++ [])) S2) Q := h2
        refine h3 (.ref Dl) ρ2 H2 (s2.less hp') (TK.refl _ _) ⟨Dl, av, rfl, hDl, by rw [List.append_nil]; exact ra, hnr, none_sub hp' pD⟩
      · exact h2.elim
    | cons d r =>
      rw [hx] at h2
      have hd : xs[i]? = some d := by
        have : (xs.drop i)[0]? = some d := by rw [hx]; rfl
        rw [List.getElem?_drop, Nat.add_zero] at this
        exact this
      have hr : xs.drop (i + 1) = r := by
        have : (xs.drop i).drop 1 = r := by rw [hx]; rfl
        rw [List.drop_drop] at this
        exact this
      have hil : i < xs.length := (List.getElem?_eq_some_iff.mp hd).1
      unfold compL at h2
      split at h2
      case isFalse => exact h2.elim
      rename_i hck
      obtain ⟨_, dv2⟩ := dv i ρ2 H2 S2 s2 t2 hck
      obtain ⟨go, yl⟩ := dv2 d hd
      refine .inr ⟨go, fun H3 => Inv (i + 1) H3, fun H3 hN => ⟨m - 1, by omega, by omega, hN⟩, fun v H3 hy => ?_⟩
      obtain ⟨gr, rv⟩ := yl v H3 hy
      have tk3 : TK ρ2 H2 ρ2 H3 := TK.same gr
      have s3 : VS G (upd P' Dl (.lst av)) ρ2 H3 S2 := sP.grow gr
      have q3 : ES G (upd P' Dl (.lst av)) ρ2 H3 (wipe σ vs) (wipeE es vs) := ((q1.next (t2.trans tk3)).more hp2).wipe vs
      cases zg : mg d (wipeE es vs) with
      | none => rw [zg] at h2; exact h2.elim
      | some es3 =>
        rw [zg] at h2
        refine okg ρ2 H3 (wipe σ vs) (wipeE es vs) es3 d v _ rv zg fun σ3 st => ⟨(st.wp vs hix).trans (by
          apply List.ext_getElem?
          intro j
          rw [wipe_get, wipe_get, wipe_length]
          by_cases hj : j ∈ vs <;> simp [hj]), ?_⟩
        have q4 := st.ee _ q3
        have h3 := Aft.next tk3 h2
        dsimp only at h3
        refine ⟨upd P' Dl (.lst av), ρ2, es3, S2, s3, q4, ?_⟩
        cases zt : mt es3 S2 with
        | bad => rw [zt] at h3; exact h3.elim
        | ex c p S3 => rw [zt] at h3; exact h3.elim
        | ok b S3 =>
          rw [zt] at h3
          intro ρ4 H4 s4 t4
          have h4 := Aft.next t4 h3
          cases b with
          | false =>
            show Inv (i + 1) H4
            refine ⟨ρ4, S3, acc, av, s4.less hp2, (t2.trans tk3).trans t4, (s4.pr Dl _ upd_same).1, (s4.pr Dl _ upd_same).2, ra.mono (tk3.trans t4), by omega, ?_⟩
            rw [hr]
            exact h4
          | true =>
            show rdE G W0 me σ3 H4 _
            refine ⟨upd P' Dl (.lst av), ρ4, es3, S3, s4, q4.next t4, ?_⟩
            have h4 : Aft G (fun cls d H' => W cls d σ H') P ρ4 H4 ((noEx (((me es3 S3).bind item).bind fun d S2 => (compL ck mg mt me (wipeE es vs) r S2).bind fun ds S3 => .ok (d :: ds) S3)).bind fun ds S3 => .ok (.l true (acc ++ ds)) S3) Q := h4
            cases zm : me es3 S3 with
            | bad => rw [zm] at h4; exact h4.elim
            | ex c p S4 => rw [zm] at h4; exact h4.elim
            | ok rv2 S4 =>
              rw [zm] at h4
              intro y ρ5 H5 s5 t5 rr5
              cases zi : item rv2 S4 with
              | bad => dsimp only [Res.bind] at h4; rw [zi] at h4; exact h4.elim
              | ex c p S5 => exact (item_ex zi).elim
              | ok d5 S5 =>
                dsimp only [Res.bind] at h4
                rw [zi] at h4
                dsimp only at h4
                obtain ⟨ρ6, s6, t6, r6⟩ := item_ok s5 rr5 zi
                have hD6 := s6.pr Dl _ upd_same
                refine ⟨av, hD6.1, by rw [← ra.len]; omega, ?_⟩
                have s6' := s6.less hp2
                have tkD : TK ρ6 H5 ρ6 (upd H5 Dl (.lst (av ++ [y]))) := tk_updl hD6.1
                have tkA : TK ρ4 H4 ρ6 H5 := t5.trans t6
                refine ⟨ρ6, S5, acc ++ [d5], av ++ [y], s6'.updO hD6.1 hD6.2 pD, (((t2.trans tk3).trans t4).trans tkA).trans tkD, upd_same, hD6.2, (ra.mono (((tk3.trans t4).trans tkA).trans tkD)).append (.one (r6.mono tkD)), by rw [List.length_append]; simp; omega, ?_⟩
                rw [hr]
                have h5 := Aft.next (tkA.trans tkD) h4
                cases zr : compL ck mg mt me (wipeE es vs) r S5 with
                | bad => rw [zr] at h5; exact h5.elim
                | ex c p S6 => rw [zr] at h5; exact h5.elim
                | ok ds S6 =>
                  rw [zr] at h5
                  simpa [noEx, Res.bind] using h5
theorem se_lc {elt tg iter : Expr} {ifs : List Expr} {scope : Scope} {own : List (Str × Nat)} {ix : List Nat} {pos : Pos} {mi : MI} {mg : MG} {mt : MB} {me : ME} (hc : X.calm = true) (hN : X.N.Nodup) (hi : SIt G W (ES G) X tg iter mi) (ok : BlkOk X.N X.env.scope scope own) {g : TG} (hix : ∀ i ∈ ix, i ∈ own.map (·.2))
    (hg : ∀ (s : Shared) (H : Hp) (C : Addr) (cl : List (Str × Addr)) (fp : List Addr), PG (X.blk s H scope (compEnvC scope cl C X.env) fp) tg g) (okg : ∀ ρ H σ es es' x v (Q : St → Hp → Prop), Rep G ρ H x v → mg x es = some es' → (∀ σ', Stored G ix ρ H σ es σ' es' → Q σ' H) → g v σ H Q)
    (ht : ∀ (s : Shared) (H : Hp) (C : Addr) (cl : List (Str × Addr)) (fp : List Addr), STs G W0 (X.blk s H scope (compEnvC scope cl C X.env) fp) ifs mt)
    (he : ∀ (s : Shared) (H : Hp) (C : Addr) (cl : List (Str × Addr)) (fp : List Addr), SE G W0 (X.blk s H scope (compEnvC scope cl C X.env) fp) elt me) (hs : ∀ x, foldedSetIterable iter X.env x = pure x := by intro _; rfl) :
    SE G W X (.ListComp elt [⟨tg, iter, ifs, 0⟩] scope pos) (eComp mi mg mt me (own.map (·.2))) := by
  obtain ⟨k, wi, pi, oki⟩ := hi
  exact ⟨k, PE.of (pe_lc hc hN pi ok hg (fun s H C cl fp => (ht s H C cl fp).pts) (fun s H C cl fp => (he s H C cl fp).pe) hs) fun σ H Q h => comp_core oki okg hix h⟩
end
end DM

namespace DM
open PySem PySem.Spec L2

/-! ### stores of other forms -/
def sAsg (g : MG) (m : ME) : MS := fun es S => bindS ((m es S).bind item) es fun x S1 => match g x es with
  | some es' => .nx es' S1
  | none => .bad
def sPar (i j : Nat) (ms : List ME) : MS := fun es S => bindS (eItems ms es S) es fun ds S1 => match ds with
  | [x, y] => .nx ((es.set i (.v x)).set j (.v y)) S1
  | _ => .bad
/-- xs[i] = e, xs the name in slot k -/
def sSetIx (k : Nat) (mi me : ME) : MS := fun es S => bindS ((me es S).bind item) es fun x S1 => match es[k]? with
  | some (.own ds) => bindS (mi es S1) es fun r S2 => (match r with
    | .d (.int n) => (match ixN ds.length n with
      | some j => .nx (es.set k (.own (ds.set j x))) S2
      | none => .bad)
    | _ => .bad)
  | some (.v (.loc l)) => bindS (mi es S1) es fun r S2 => (match r with
    | .d (.int n) => (match S2[l]? with
      | some (.lst ds) => (match ixN ds.length n with
        | some j => .nx es (S2.set l (.lst (ds.set j x)))
        | none => .bad)
      | _ => .bad)
    | _ => .bad)
  | _ => .bad
open Classical in
/-- xs.append(e) -/
noncomputable def sApp (k : Nat) (me : ME) : MS := fun es S => match es[k]? with
  | some (.own ds) => bindS ((me es S).bind item) es fun x S1 => if ds.length < sizeLine then .nx (es.set k (.own (ds ++ [x]))) S1 else .bad
  | some (.v (.loc l)) => (match S[l]? with
    | some (.lst _) => bindS ((me es S).bind item) es fun x S1 => (match S1[l]? with
      | some (.lst ds) => if ds.length < sizeLine then .nx es (S1.set l (.lst (ds ++ [x]))) else .bad
      | _ => .bad)
    | _ => .bad)
  | _ => .bad
def lstOf (S : Store) : RV → Option (List D)
  | .l _ ds => some ds
  | .d (.loc n) => (match S[n]? with
    | some (.lst ds) => some ds
    | _ => none)
  | _ => none
open Classical in
/-- xs.extend(e) -/
noncomputable def sExt (k : Nat) (me : ME) : MS := fun es S => match es[k]? with
  | some (.own ds) => bindS (me es S) es fun r S1 => (match lstOf S1 r.weak with
    | some ys => if ds.length + ys.length ≤ sizeLine then .nx (es.set k (.own (ds ++ ys))) S1 else .bad
    | none => .bad)
  | some (.v (.loc l)) => (match S[l]? with
    | some (.lst _) => bindS (me es S) es fun r S1 => (match lstOf S1 r.weak, S1[l]? with
      | some ys, some (.lst ds) => if ds.length + ys.length ≤ sizeLine then .nx es (S1.set l (.lst (ds ++ ys))) else .bad
      | _, _ => .bad)
    | _ => .bad)
  | _ => .bad
theorem lst_at {G : GT} {P : Hp} {ρ : List Addr} {H : Hp} {S : Store} {r : RV} {v : V} {ds : List D} (s : VS G P ρ H S) (rr : RR G P ρ H r.weak v) (h : lstOf S r.weak = some ds) : ∃ a vs, v = .ref a ∧ H a = some (.lst vs) ∧ Reps G ρ H ds vs := by
  cases r with
  | l f xs =>
    obtain ⟨a, vs, rfl, e, rs⟩ := rr
    cases h
    exact ⟨a, vs, rfl, (s.pr _ _ e).1, rs⟩
  | d x =>
    cases x with
    | loc n =>
      have h' : (match S[n]? with
        | some (.lst ds) => some ds
        | _ => none) = some ds := h
      split at h'
      · rename_i e
        cases h'
        cases rr with
        | loc hn =>
          obtain ⟨vs, e1, rs⟩ := s.st _ _ _ hn e
          exact ⟨_, vs, rfl, e1, rs⟩
      · cases h'
    | _ => cases h

section
variable {G : GT} {W : WX} {X : Cx} {a b c e tg : Expr} {ma mb mi me : ME} {pos : Pos}
/-- an item within a statement -/
theorem st_item {P : Hp} {ρ : List Addr} {H : Hp} {S : Store} {σ : St} {es : Env} {D : Ends} {f : DM.D → Store → SR} {R : VK} (s : VS G P ρ H S) (q : SS G P ρ H σ es) (h : AftS G W P ρ H σ es (bindS ((ma es S).bind item) es f) D)
    (k : ∀ x S1 v ρ1 H1, VS G (plus P H σ es) ρ1 H1 S1 → SS G P ρ1 H1 σ es → TK ρ H ρ1 H1 → Rep G ρ1 H1 x v → AftS G W P ρ1 H1 σ es (f x S1) D → R v H1) : rdE G W ma σ H R := by
  have h' : AftS G W P ρ H σ es (bindS (ma es S) es fun r S1 => bindS (item r S1) es f) D := by
    cases e : ma es S with
    | ok r S1 => rw [e] at h; exact h
    | ex c p S1 => rw [e] at h; exact h
    | bad => rw [e] at h; exact h
  refine st_thenS s q h' fun r S1 v ρ1 H1 s1 q1 k1 rr h => ?_
  cases e : item r S1 with
  | bad => rw [e] at h; exact h.elim
  | ex c p S2 => exact (item_ex e).elim
  | ok d S2 =>
    rw [e] at h
    obtain ⟨ρ2, s2, k2, rd⟩ := item_ok s1 rr e
    exact k d S2 v ρ2 H1 s2 (q.next s2 (k1.trans k2)) (k1.trans k2) rd (AftS.next (TKS.of k2) h)
/-- the same from a later state under the same protection (plus of the statement's entry) -/
theorem st_then2 {P Pp : Hp} {ρ : List Addr} {H : Hp} {S : Store} {σ : St} {es : Env} {D : Ends} {f : RV → Store → SR} {R : VK} (s : VS G Pp ρ H S) (eS : ES G Pp ρ H σ es) (nx : ∀ ρ' H' S', VS G Pp ρ' H' S' → TK ρ H ρ' H' → SS G P ρ' H' σ es) (sub : ∀ a o, P a = some o → Pp a = some o) (h : AftS G W P ρ H σ es (bindS (ma es S) es f) D)
    (k : ∀ r S1 v ρ1 H1, VS G Pp ρ1 H1 S1 → SS G P ρ1 H1 σ es → TK ρ H ρ1 H1 → RR G Pp ρ1 H1 r v → AftS G W P ρ1 H1 σ es (f r S1) D → R v H1) : rdE G W ma σ H R := by
  refine ⟨Pp, ρ, es, S, s, eS, ?_⟩
  cases e : ma es S with
  | ok r S1 =>
    rw [e] at h
    exact fun v ρ1 H1 s1 k1 rr => k r S1 v ρ1 H1 s1 (nx ρ1 H1 S1 s1 k1) k1 rr (AftS.next (TKS.of k1) h)
  | ex c p S1 =>
    rw [e] at h
    exact fun cls d ρ1 H1 s1 k1 rx => h cls d σ ρ1 H1 (s1.less sub) (nx ρ1 H1 S1 s1 k1) (TKS.of k1) rx
  | bad => rw [e] at h; exact h.elim
theorem tks_own {ρ : List Addr} {H H' : Hp} {σ : St} {es : Env} {k : Nat} {ds : List D} (tk : TK ρ H ρ H') : TKS ρ H σ es ρ H' σ (es.set k (.own ds)) :=
  ⟨tk, fun j es2 h => by
    rcases get_set h with ⟨rfl, hl, z⟩ | ⟨hn, h⟩
    · cases z
    · exact ⟨h, rfl⟩⟩
theorem setix_core {k : Nat} {D : Ends} {σ : St} {H : Hp} (h : rdS G W (sSetIx k mi me) D σ H) : tAsg (rdE G W me) (gSub (tVar k) (rdE G W mi) rSetL) D σ H := by
  obtain ⟨P, ρ, es, S, s, q, h⟩ := h
  refine st_item s q h fun x S1 v ρ1 H1 s1 q1 k1 rv h => ?_
  have nx : ∀ ρ' H' S', VS G (plus P H σ es) ρ' H' S' → TK ρ1 H1 ρ' H' → SS G P ρ' H' σ es := fun ρ' H' S' s' k' => q.next s' (k1.trans k')
  split at h
  · rename_i ds ek
    obtain ⟨a, vs, e1, e2, e3, e4, e5⟩ := q.own k ds ek
    refine ⟨.ref a, e1, ?_⟩
    refine st_then2 s1 (q.toES.next k1) nx q.sub h fun r S2 w ρ3 H3 s3 q3 k3 rr h => ?_
    cases r with
    | l f xs => exact h.elim
    | d y =>
      cases y with
      | int n =>
        cases rr
        obtain ⟨b, us, y1, y2, y3, y4, y5⟩ := q3.own k ds ek
        rw [e1] at y1
        cases y1
        have h' : AftS G W P ρ3 H3 σ es (match ixN ds.length n with
          | some j => .nx (es.set k (.own (ds.set j x))) S2
          | none => .bad) D := h
        cases ei : ixN ds.length n with
        | none => rw [ei] at h'; exact h'.elim
        | some j =>
          rw [ei] at h'
          have tk : TK ρ3 H3 ρ3 (upd H3 a (.lst (us.set j v))) := tk_updl y2
          exact ⟨a, us, n, j, rfl, rfl, y2, by rw [← y3.len]; exact ei, h' σ ρ3 _ ((s3.less q.sub).updO y2 y4 y5) (q3.updO ek e1 y2 (y3.set (rv.mono k3) j)) (tks_own tk)⟩
      | _ => exact h.elim
  · rename_i l ek
    obtain ⟨w0, e1, e2⟩ := q.val k _ ek
    cases e2 with
    | loc hn =>
      rename_i a
      refine ⟨.ref a, e1, ?_⟩
      refine st_then2 s1 (q.toES.next k1) nx q.sub h fun r S2 w ρ3 H3 s3 q3 k3 rr h => ?_
      cases r with
      | l f xs => exact h.elim
      | d y =>
        cases y with
        | int n =>
          cases rr
          have hn3 : ρ3[l]? = some a := k3.at_ (k1.at_ hn)
          have h' : AftS G W P ρ3 H3 σ es (match S2[l]? with
            | some (.lst ds) => (match ixN ds.length n with
              | some j => .nx es (S2.set l (.lst (ds.set j x)))
              | none => .bad)
            | _ => .bad) D := h
          split at h'
          · rename_i ds es2
            obtain ⟨us, y2, y3⟩ := s3.st l a _ hn3 es2
            cases ei : ixN ds.length n with
            | none => rw [ei] at h'; exact h'.elim
            | some j =>
              rw [ei] at h'
              have tk : TK ρ3 H3 ρ3 (upd H3 a (.lst (us.set j v))) := tk_updl y2
              exact ⟨a, us, n, j, rfl, rfl, y2, by rw [← y3.len]; exact ei, h' σ ρ3 _ ((s3.less q.sub).updS hn3 y2 ((y3.set (rv.mono k3) j).mono tk)) (q3.updS (List.mem_of_getElem? hn3) y2) (TKS.of tk)⟩
          · exact h'.elim
        | _ => exact h.elim
  · exact h.elim
theorem sp_setix {k : Nat} {x : Str} {p2 p3 : Pos} (hk : X.K = G.K) (hN : X.N[k]? = some x) (hv : Vis X.env.scope x) (hi : SE G W X b mi) (he : SE G W X e me) (hd : (x == ("__debug__" : Str)) = false := by decide) (hcd : (x == ("__classdict__" : Str)) = false := by decide)
    (hs : swapsWithSole [.Subscript (.Name x p2) b p3] e pos.line X.env = pure false := by rfl) (hw : swappedStores [.Subscript (.Name x p2) b p3] e X.env = pure none := by rfl)
    (h1 : (assignEach [.Subscript (.Name x p2) b p3] X.env).map (·.2) = [assign (.Subscript (.Name x p2) b p3) X.env] := by rfl)
    (ha : ∀ v, assign (.Subscript (.Name x p2) b p3) X.env v = (do
      let ov ← holding [v] (eval (.Name x p2) X.env)
      let iv ← holding [v, ov] (eval b X.env)
      standAt p3
      holding [v, ov, iv] (setItem ov iv v)
      release [v, ov, iv] []) := by intro _; rfl) : SP1 G W X (.Assign [.Subscript (.Name x p2) b p3] e pos) (sSetIx k mi me) :=
  ⟨hk, PS.of (ps_asg he.pe (pg_sub (pe_var hN hv hd hcd) hi.pe set_list ha) hs hw h1) fun D σ H h => setix_core h⟩

end

/-! ### defs -/
abbrev MF := List RV → Store → Res RV
def slotOf : RV → Slot
  | .d x => .v x
  | .l true _ => .no
  | .l false ds => .bor ds
def startE (n : Nat) (rs : List RV) : Env := rs.map slotOf ++ List.replicate (n - rs.length) .no
def ofSR (r : SR) : Res RV := match r with
  | .nx _ S => .ok (.d .non) S
  | .rt (.l false _) _ => .bad
  | .rt r S => .ok r S
  | .ex c p _ S => .ex c p S
  | _ => .bad
def mFun (n m : Nat) (b : MS) : MF := fun rs S => if rs.length = n then ofSR (b (startE m rs) S) else .bad
/-- what a def promises: its mirror's answer -/
def spM (G : GT) (n : Nat) (m : MF) : Sp := fun vs H Q E => vs.length = n ∧ ∃ P ρ rs S, VS G P ρ H S ∧ RRs G P ρ H rs vs ∧ Aft G E P ρ H (m rs S) Q
theorem RRs.len {G : GT} {P : Hp} {ρ : List Addr} {H : Hp} {rs : List RV} {vs : List V} (h : RRs G P ρ H rs vs) : rs.length = vs.length := by
  induction rs generalizing vs with
  | nil => cases h; rfl
  | cons r rs ih => cases h with | cons h t => simp [ih t]
theorem RRs.get {G : GT} {P : Hp} {ρ : List Addr} {H : Hp} {rs : List RV} {vs : List V} (h : RRs G P ρ H rs vs) : ∀ (i : Nat) r, rs[i]? = some r → ∃ v, vs[i]? = some v ∧ RR G P ρ H r v := by
  induction rs generalizing vs with
  | nil => intro i r e; simp at e
  | cons r0 rs ih =>
    cases h with
    | cons h t =>
      intro i r e
      cases i with
      | zero => simp at e; subst e; exact ⟨_, rfl, h⟩
      | succ i => simpa using ih t i r (by simpa using e)
theorem start_ok {G : GT} {P : Hp} {ρ : List Addr} {H : Hp} {rs : List RV} {vs : List V} {N : List Str} (h : RRs G P ρ H rs vs) : SS G P ρ H (L2.start N vs) (startE N.length rs) := by
  have hl := h.len
  have gt : ∀ (i : Nat) sl, (startE N.length rs)[i]? = some sl → sl ≠ .no → ∃ r, rs[i]? = some r ∧ slotOf r = sl := fun i sl e hn => by
    unfold startE at e
    rw [List.getElem?_append] at e
    split at e
    · rw [List.getElem?_map] at e
      cases z : rs[i]? with
      | none => rw [z] at e; cases e
      | some r => rw [z] at e; exact ⟨r, rfl, Option.some.inj e⟩
    · rw [List.getElem?_replicate] at e
      split at e
      · exact absurd (Option.some.inj e).symm hn
      · cases e
  have sg : ∀ (i : Nat) v, vs[i]? = some v → (L2.start N vs)[i]? = some (some v) := fun i v e => by
    unfold L2.start
    rw [List.getElem?_append_left (by rw [List.length_map]; exact (List.getElem?_eq_some_iff.mp e).1), List.getElem?_map, e]
    rfl
  refine ⟨?_, fun i d e => ?_, fun i ds e => ?_, fun i ds e => ?_, fun i j ds es' a e1 => ?_⟩
  · unfold L2.start startE
    simp [hl]
  · obtain ⟨r, h1, h2⟩ := gt i _ e (fun z => by cases z)
    obtain ⟨v, h3, h4⟩ := h.get i r h1
    cases r with
    | d x => cases h2; exact ⟨v, sg i v h3, h4⟩
    | l f ds => cases f <;> cases h2
  · obtain ⟨r, h1, h2⟩ := gt i _ e (fun z => by cases z)
    obtain ⟨v, h3, h4⟩ := h.get i r h1
    cases r with
    | d x => cases h2
    | l f ds =>
      cases f with
      | true => cases h2
      | false =>
        cases h2
        obtain ⟨a, us, rfl, y1, y2⟩ := h4
        exact ⟨a, us, sg i _ h3, y1, y2⟩
  · obtain ⟨r, h1, h2⟩ := gt i _ e (fun z => by cases z)
    cases r with
    | d x => cases h2
    | l f ds => cases f <;> cases h2
  · obtain ⟨r, h1, h2⟩ := gt i _ e1 (fun z => by cases z)
    cases r with
    | d x => cases h2
    | l f ds => cases f <;> cases h2
section
variable {P : Program} {w : World} {K : PySem.W.Frag} {mg : Str → Option Value} {base : Heap} {G : GT}
theorem fn_ok {x qual : Str} {st : Stmt} {f : Addr} {fd : FuncData} {N ps : List Str} {k : Nat} {mb : MS} (F : Fun K x qual st f fd) (S : FnScope N ps (defScope st))
    (hb : ∀ (cdv : Value) (A : Around) (outer : List PySem.Env) (s : Shared) (H : Hp) (E : XK), Room k (A.deeper (PyProof.Rows.envOfC qual (defScope st) s.heap.objs.size f cdv)) →
      Takes (cxOf (L2.CX P w) P w K mg base N qual (defScope st) f cdv A outer s H E) (fun cls d _ H => E cls d H) →
      PassesOwn (model P w) (cxOf (L2.CX P w) P w K mg base N qual (defScope st) f cdv A outer s H E).A (cxOf (L2.CX P w) P w K mg base N qual (defScope st) f cdv A outer s H E).env (cxOf (L2.CX P w) P w K mg base N qual (defScope st) f cdv A outer s H E).xe →
      SPs G (fun cls d _ H => E cls d H) (cxOf (L2.CX P w) P w K mg base N qual (defScope st) f cdv A outer s H E) (defBody st) mb) : FnOk P w K mg base (L2.CX P w) (k + 1) f fd ps (spM G ps.length (mFun ps.length N.length mb)) := by
  refine F.okX S (fun vs H Q E h => h.1) fun cdv A outer s H vs Q E hr h => ?_
  have B := hb cdv A outer s H E hr (takes_of rfl rfl rfl rfl) (passes_of rfl)
  refine ⟨_, B.pss, ?_⟩
  obtain ⟨hl, Pp, ρ, rs, S0, vs0, rrs, a⟩ := h
  refine ⟨Pp, ρ, _, S0, vs0, start_ok rrs, ?_⟩
  unfold mFun at a
  rw [if_pos (by rw [rrs.len]; exact hl)] at a
  cases z : mb (startE N.length rs) S0 with
  | nx es' S' => rw [z] at a; exact fun σ' ρ' H' s' q' t => a .non ρ' H' s' t.tk .non
  | rt r S' =>
    rw [z] at a
    cases r with
    | d x => exact ⟨(fun _ z => by cases z), fun v ρ' H' s' t rr => a v ρ' H' s' t rr⟩
    | l f ds =>
      cases f with
      | false => exact a.elim
      | true => exact ⟨(fun _ z => by cases z), fun v ρ' H' s' t rr => a v ρ' H' s' t rr⟩
  | ex c p es' S' => rw [z] at a; exact fun cls d σ' ρ' H' s' q' t rx => a cls d ρ' H' s' t.tk rx
  | bk es' S' => rw [z] at a; exact a.elim
  | ct es' S' => rw [z] at a; exact a.elim
  | bad => rw [z] at a; exact a.elim
end

/-! ### calls of defs -/
/-- a def's answer: no lent list -/
def okR (r : Res RV) : Res RV := match r with
  | .ok (.l false _) _ => .bad
  | r => r
def eCall (m : MF) (ms : List ME) : ME := fun es S => (eArgs ms es S).bind fun rs S1 => okR (m rs S1)
theorem okR_rv {r : Res RV} : ∀ rv S', okR r = .ok rv S' → ∀ ds, rv ≠ .l false ds := by
  intro rv S' e ds z
  subst z
  unfold okR at e
  split at e
  · cases e
  · rename_i h; exact h _ _ e
section
variable {G : GT} {W : WX} {X : Cx} {e : Expr} {as : List Expr} {ms : List ME} {m : MF} {p pos : Pos} {k n : Nat} {f : Addr} {fd : FuncData} {ps : List Str} {x : Str}
theorem call_core {σ : St} {H : Hp} {Q : VK} (h : rdE G W (eCall m ms) σ H Q) (hn : ms.length = n) : (fun σ H Q => ∃ P ρ es S, VS G P ρ H S ∧ ES G P ρ H σ es ∧ (match eArgs ms es S with
    | .ok rs S' => ∀ vs P' ρ' H', (∀ a o, P a = some o → P' a = some o) → VS G P' ρ' H' S' → TK ρ H ρ' H' → RRs G P' ρ' H' rs vs → Q vs H'
    | .ex c p S' => ∀ cls d ρ' H', VS G P ρ' H' S' → TK ρ H ρ' H' → RX G ρ' H' c p cls d → W cls d σ H'
    | .bad => False) : TA) σ H (fun vs H1 => spM G n m vs H1 Q (WE W σ)) := by
  obtain ⟨P, ρ, es, S, s, q, h⟩ := h
  refine ⟨P, ρ, es, S, s, q, ?_⟩
  unfold eCall at h
  have al : ∀ (ms : List ME) (S : Store) (rs : List RV) (S1 : Store), eArgs ms es S = .ok rs S1 → rs.length = ms.length := by
    intro ms
    induction ms with
    | nil => intro S rs S1 e; cases e; rfl
    | cons m ms ih =>
      intro S rs S1 e
      unfold eArgs at e
      cases z : m es S with
      | bad => rw [z] at e; cases e
      | ex c p S2 => rw [z] at e; cases e
      | ok r S2 =>
        rw [z] at e
        dsimp only [Res.bind] at e
        cases z2 : eArgs ms es S2 with
        | bad => rw [z2] at e; cases e
        | ex c p S2 => rw [z2] at e; cases e
        | ok rs2 S3 =>
          rw [z2] at e
          cases e
          simp [ih S2 rs2 _ z2]
  cases z : eArgs ms es S with
  | bad => rw [z] at h; exact h
  | ex c p S1 => rw [z] at h; exact h
  | ok rs S1 =>
    rw [z] at h
    intro vs P' ρ' H' hp s' t rrs
    refine ⟨by rw [← rrs.len, al ms S rs S1 z]; exact hn, P', ρ', rs, S1, s', rrs, ?_⟩
    have h1 : Aft G (fun cls d H' => W cls d σ H') P ρ' H' (okR (m rs S1)) Q := Aft.next t h
    have h2 := Aft.more hp okR_rv h1
    cases y : m rs S1 with
    | bad => rw [y] at h2; exact h2
    | ex c p S2 => rw [y] at h2; exact h2
    | ok r S2 =>
      rw [y] at h2
      cases r with
      | d x => exact h2
      | l f ds =>
        cases f with
        | true => exact h2
        | false => exact h2.elim
theorem se_call (tk : Takes X W) (F : FnOk X.prog X.w X.K X.mg X.base (L2.CX X.prog X.w) k f fd ps (spM G n m)) (hr : Room k X.A) (hg : Gl X x) (hm : X.mg x = some (.ref f)) (hk : PySem.W.keepIn X.K (.ref f) = true) (hb : Binds X.K fd ps [])
    (ha : SA G W X (e :: as) ms) (hn : ms.length = n := by rfl) (hdb : (x == ("__debug__" : Str)) = false := by decide) (he : starEach (e :: as) X.env = (false, eval e X.env) :: starEach as X.env := by rfl) (hpl : (backTo pos (starEach as X.env)).any (·.1) = false := by rfl) :
    SE G W X (.Call (.Name x p) (e :: as) [] pos) (eCall m ms) :=
  ⟨ha.k, PE.of (pe_callS F hr hg hm hk hb (fun σ => passAt tk σ) ha.pa hdb he hpl) fun σ H Q h => call_core h hn⟩
end
end DM

namespace DM
open PySem PySem.Spec L2

/-! ### operations -/
abbrev F2 := Store → RV → RV → Option OV
abbrev F1 := Store → RV → Option OV
abbrev FN := Store → List RV → Option OV
section
variable {G : GT} {P : Hp} {ρ : List Addr} {H : Hp} {S : Store} {Q : VK}
/-- an answer that lays nothing -/
theorem op_d {x : D} {v : V} (h : ∀ v H', OP G ρ H (.d x) v H' → Q v H') (r : Rep G ρ H x v) : Q v H := h v H ⟨fun _ _ e => e, r⟩
theorem op_tup {xs : List D} {vs : List V} (h : ∀ v H', OP G ρ H (.d (.tup xs)) v H' → Q v H') (r : Reps G ρ H xs vs) : ∀ p, H p = none → Q (.ref p) (upd H p (.tup vs)) := fun p hp => by
  have g : ∀ a o, H a = some o → upd H p (.tup vs) a = some o := fun a o z => by rw [upd_ne (ne_of_none z hp)]; exact z
  exact h _ _ ⟨g, .tup upd_same (r.mono (TK.same g))⟩
theorem op_lst {xs : List D} {vs : List V} (h : ∀ v H', OP G ρ H (.l xs) v H' → Q v H') (r : Reps G ρ H xs vs) : ∀ p, H p = none → Q (.ref p) (upd H p (.lst vs)) := fun p hp => by
  have g : ∀ a o, H a = some o → upd H p (.lst vs) a = some o := fun a o z => by rw [upd_ne (ne_of_none z hp)]; exact z
  exact h _ _ ⟨g, p, vs, rfl, hp, upd_same, r.mono (TK.same g)⟩
theorem lst_of {r : RV} {v : V} {ds : List D} (s : VS G P ρ H S) (rr : RR G P ρ H r v) (h : lstOf S r = some ds) : ∃ a vs, v = .ref a ∧ H a = some (.lst vs) ∧ Reps G ρ H ds vs := by
  cases r with
  | l f xs =>
    cases f with
    | true => obtain ⟨a, vs, rfl, e, rs, _⟩ := rr; cases h; exact ⟨a, vs, rfl, e, rs⟩
    | false => exact lst_at (r := .l false xs) s rr h
  | d x => exact lst_at (r := .d x) s rr h
end
/-! two ints -/
def iiF (f : Int → Int → D) : F2 := fun _ a b => match a, b with
  | .d (.int i), .d (.int j) => some (.d (f i j))
  | _, _ => none
open Classical in
noncomputable def iicF (C : Int → Int → Prop) (f : Int → Int → D) : F2 := fun _ a b => match a, b with
  | .d (.int i), .d (.int j) => if C i j then some (.d (f i j)) else none
  | _, _ => none
theorem so_ii {G : GT} {f : Int → Int → D} {g : Int → Int → V} (h : ∀ ρ H i j, Rep G ρ H (f i j) (g i j)) : SO2 G (rI0 g) (iiF f) := by
  intro P ρ H S r1 r2 x y Q ov s h1 h2 e k
  unfold iiF at e
  split at e
  · cases e
    cases h1
    cases h2
    exact ⟨_, _, rfl, rfl, op_d k (h _ _ _ _)⟩
  · cases e
theorem so_iic {G : GT} {C : Int → Int → Prop} {f : Int → Int → D} {g : Int → Int → V} (h : ∀ ρ H i j, Rep G ρ H (f i j) (g i j)) : SO2 G (rI C g) (iicF C f) := by
  intro P ρ H S r1 r2 x y Q ov s h1 h2 e k
  unfold iicF at e
  split at e
  · split at e
    · rename_i hc
      cases e
      cases h1
      cases h2
      exact ⟨_, _, rfl, rfl, hc, op_d k (h _ _ _ _)⟩
    · cases e
  · cases e
def subF : F2 := iiF fun i j => .int (i - j)
noncomputable def fdivF : F2 := iicF CDivW fun i j => .int (i / j)
noncomputable def modF : F2 := iicF (fun _ j => 0 < j) fun i j => .int (i % j)
noncomputable def powF : F2 := iicF CPow fun i j => .int (i ^ j.toNat)
noncomputable def shlF : F2 := iicF CPow fun i j => .int (i * 2 ^ j.toNat)
noncomputable def shrF : F2 := iicF (fun _ j => 0 ≤ j) fun i j => .int (i / 2 ^ j.toNat)
def andF : F2 := iiF fun i j => .int (Builtin.bitAnd i j)
def orF : F2 := iiF fun i j => .int (Builtin.bitOr i j)
def xorF : F2 := iiF fun i j => .int (Builtin.bitXor i j)
def ltF : F2 := iiF fun i j => .bl (decide (i < j))
def leF : F2 := iiF fun i j => .bl (decide (i ≤ j))
def gtF : F2 := iiF fun i j => .bl (decide (j < i))
def geF : F2 := iiF fun i j => .bl (decide (j ≤ i))
def negF : F1 := fun _ a => match a with
  | .d (.int i) => some (.d (.int (-i)))
  | _ => none
/-! + -/
open Classical in
noncomputable def addF : F2 := fun S a b => match a, b with
  | .d (.int i), .d (.int j) => some (.d (.int (i + j)))
  | .d (.str i), .d (.str j) => if i.length + j.length ≤ sizeLine then some (.d (.str (i ++ j))) else none
  | .d (.tup xs), .d (.tup ys) => if xs.length + ys.length ≤ sizeLine then some (.d (.tup (xs ++ ys))) else none
  | a, b => match lstOf S a, lstOf S b with
    | some xs, some ys => if xs.length + ys.length ≤ sizeLine then some (.l (xs ++ ys)) else none
    | _, _ => none
def rAddA (K : PySem.W.Frag) : R2 := fun x y H Q => ((rI0 fun i j => .int (i + j)) x y H Q ∨ (fun x y H Q => ∃ i j, x = .str i ∧ y = .str j ∧ i.length + j.length ≤ sizeLine ∧ Q (.str (i ++ j)) H : R2) x y H Q) ∨ (rCatA K x y H Q ∨ rCat x y H Q)
theorem op_addA {X : Cx} : OpR X (binaryOp .Add) (rAddA X.K) := OpR.or (OpR.or op_add op_add_str) (OpR.or op_catA op_cat)
theorem rep_tup {G : GT} {ρ : List Addr} {H : Hp} {xs : List D} {v : V} (h : Rep G ρ H (.tup xs) v) : ∃ a vs, v = .ref a ∧ H a = some (.tup vs) ∧ Reps G ρ H xs vs := by
  cases h with
  | tup e r => exact ⟨_, _, rfl, e, r⟩
theorem reps_nil {G : GT} {ρ : List Addr} {H : Hp} {xs : List D} {vs : List V} (r : Reps G ρ H xs vs) : vs = [] ↔ xs = [] := by
  have := r.len
  cases xs <;> cases vs <;> simp_all
theorem so_add {G : GT} : SO2 G (rAddA G.K) addF := by
  intro P ρ H S r1 r2 x y Q ov s h1 h2 e k
  unfold addF at e
  split at e
  · cases e
    cases h1
    cases h2
    exact .inl (.inl ⟨_, _, rfl, rfl, op_d k (.int _)⟩)
  · split at e
    · rename_i hz
      cases e
      cases h1
      cases h2
      exact .inl (.inr ⟨_, _, rfl, rfl, hz, op_d k (.str _)⟩)
    · cases e
  · rename_i xs ys
    split at e
    · rename_i hz
      cases e
      obtain ⟨a, vs, rfl, e1, q1⟩ := rep_tup h1
      obtain ⟨b, ws, rfl, e2, q2⟩ := rep_tup h2
      refine .inr (.inl ⟨a, b, vs, ws, rfl, rfl, SqT.of e1, SqT.of e2, by rw [← q1.len, ← q2.len]; exact hz, fun z => ?_, fun z1 z2 => ?_, fun z1 z2 => op_tup k (q1.append q2)⟩)
      · have z' := (reps_nil q1).mp z
        subst z'
        exact op_d k (.tup e2 q2)
      · have z' := (reps_nil q2).mp z2
        subst z'
        exact op_d k (by rw [List.append_nil]; exact .tup e1 q1)
    · cases e
  · split at e
    · rename_i xs ys l1 l2
      split at e
      · rename_i hz
        cases e
        obtain ⟨a, vs, rfl, e1, q1⟩ := lst_of s h1 l1
        obtain ⟨b, ws, rfl, e2, q2⟩ := lst_of s h2 l2
        exact .inr (.inr ⟨a, b, vs, ws, rfl, rfl, e1, e2, by rw [← q1.len, ← q2.len]; exact hz, op_lst k (q1.append q2)⟩)
      · cases e
    · cases e
/-! * -/
def repL {T : Type} (k : Nat) (xs : List T) : List T := (List.replicate k xs).flatten
open Classical in
noncomputable def mulF : F2 := fun S a b => match a, b with
  | .d (.int i), .d (.int j) => if CMul i j ∨ CMulW i j then some (.d (.int (i * j))) else none
  | .d (.tup xs), .d (.int j) => if xs ≠ [] ∧ 2 ≤ j ∧ j ≤ 1000 ∧ xs.length ≤ 1000 then some (.d (.tup (repL j.toNat xs))) else none
  | a, .d (.int j) => match lstOf S a with
    | some xs => if -(2 ^ 63) ≤ j ∧ j < 2 ^ 63 ∧ xs.length * j.toNat ≤ sizeLine then some (.l (repL j.toNat xs)) else none
    | none => none
  | _, _ => none
def rMulA (K : PySem.W.Frag) : R2 := fun x y H Q => ((rI CMul fun i j => .int (i * j)) x y H Q ∨ (rI CMulW fun i j => .int (i * j)) x y H Q) ∨ (rRepT K x y H Q ∨ rRep x y H Q)
theorem op_mulA {X : Cx} : OpR X (binaryOp .Mult) (rMulA X.K) := OpR.or (OpR.or op_mul op_mulW) (OpR.or op_repT op_rep)
theorem reps_rep {G : GT} {ρ : List Addr} {H : Hp} {xs : List D} {vs : List V} (r : Reps G ρ H xs vs) : ∀ k : Nat, Reps G ρ H (repL k xs) (List.replicate k vs).flatten
  | 0 => .nil
  | k + 1 => by
    unfold repL
    rw [List.replicate_succ, List.flatten_cons, List.replicate_succ, List.flatten_cons]
    exact r.append (reps_rep r k)
theorem so_mul {G : GT} : SO2 G (rMulA G.K) mulF := by
  intro P ρ H S r1 r2 x y Q ov s h1 h2 e k
  unfold mulF at e
  split at e
  · split at e
    · rename_i hc
      cases e
      cases h1
      cases h2
      rcases hc with hc | hc
      · exact .inl (.inl ⟨_, _, rfl, rfl, hc, op_d k (.int _)⟩)
      · exact .inl (.inr ⟨_, _, rfl, rfl, hc, op_d k (.int _)⟩)
    · cases e
  · split at e
    · rename_i hc
      cases e
      obtain ⟨a, vs, rfl, e1, q1⟩ := rep_tup h1
      cases h2
      exact .inr (.inl ⟨a, _, vs, rfl, rfl, SqT.of e1, fun z => hc.1 ((reps_nil q1).mp z), hc.2.1, hc.2.2.1, by rw [← q1.len]; exact hc.2.2.2, op_tup k (reps_rep q1 _)⟩)
    · cases e
  · split at e
    · rename_i xs l1
      split at e
      · rename_i hc
        cases e
        obtain ⟨a, vs, rfl, e1, q1⟩ := lst_of s h1 l1
        cases h2
        exact .inr (.inr ⟨a, _, vs, rfl, rfl, e1, hc.1, hc.2.1, by rw [← q1.len]; exact hc.2.2, op_lst k (reps_rep q1 _)⟩)
      · cases e
    · cases e
  · cases e
/-! == -/
def pyD : Nat → Store → D → Option PyData
  | 0, _, _ => none
  | n + 1, S, d => match d with
    | .non => some .none
    | .bl b => some (.bool b)
    | .int i => some (.int i)
    | .str x => some (.str x)
    | .tup ds => (ds.mapM (pyD n S)).map .tuple
    | .loc l => (match S[l]? with
      | some (.lst ds) => (ds.mapM (pyD n S)).map .list
      | _ => none)
    | _ => none
def pyR (S : Store) : RV → Option PyData
  | .d x => pyD 64 S x
  | .l _ ds => (ds.mapM (pyD 64 S)).map .list
theorem dps_of {G : GT} {P : Hp} {ρ : List Addr} {H : Hp} {S : Store} (f : D → Option PyData) (hf : ∀ d v p, Rep G ρ H d v → f d = some p → Dp G.K H v p) : ∀ {ds : List D} {vs : List V} {ps : List PyData}, Reps G ρ H ds vs → ds.mapM f = some ps → DpAll G.K H vs ps := by
  intro ds
  induction ds with
  | nil =>
    intro vs ps r e
    cases r
    simp at e
    subst e
    exact .nil
  | cons d ds ih =>
    intro vs ps r e
    cases r with
    | cons h t =>
      rw [List.mapM_cons] at e
      cases z : f d with
      | none => rw [z] at e; cases e
      | some p =>
        rw [z] at e
        cases z2 : ds.mapM f with
        | none => rw [z2] at e; cases e
        | some qs =>
          rw [z2] at e
          have : p :: qs = ps := by simpa using e
          subst this
          exact .cons (hf d _ p h z) (ih t z2)
theorem dp_of {G : GT} {P : Hp} {ρ : List Addr} {H : Hp} {S : Store} (s : VS G P ρ H S) : ∀ (n : Nat) (d : D) (v : V) (p : PyData), Rep G ρ H d v → pyD n S d = some p → Dp G.K H v p
  | 0, _, _, _, _, e => by cases e
  | n + 1, d, v, p, r, e => by
    unfold pyD at e
    cases r with
    | non => cases e; exact .non
    | bl b => cases e; exact .bl b
    | int i => cases e; exact .int i
    | str x => cases e; exact .str x
    | tup h rs =>
      rename_i a vs ds
      dsimp only at e
      cases z : ds.mapM (pyD n S) with
      | none => rw [z] at e; cases e
      | some ps =>
        rw [z] at e
        cases e
        exact .tup (SqT.of h) (dps_of (P := P) (S := S) _ (dp_of s n) rs z)
    | loc hn =>
      rename_i l a
      dsimp only at e
      split at e
      · rename_i ds es
        obtain ⟨vs, e1, rs⟩ := s.st _ _ _ hn es
        cases z : ds.mapM (pyD n S) with
        | none => rw [z] at e; cases e
        | some ps =>
          rw [z] at e
          cases e
          exact .lst (SqL.of e1) (dps_of (P := P) (S := S) _ (dp_of s n) rs z)
      · cases e
    | _ => cases e
theorem dpR_of {G : GT} {P : Hp} {ρ : List Addr} {H : Hp} {S : Store} (s : VS G P ρ H S) {r : RV} {v : V} {p : PyData} (rr : RR G P ρ H r v) (e : pyR S r = some p) : Dp G.K H v p := by
  cases r with
  | d x => exact dp_of s 64 x v p rr e
  | l f ds =>
    obtain ⟨a, vs, rfl, e1, q1⟩ := lst_of s rr (show lstOf S (.l f ds) = some ds from rfl)
    unfold pyR at e
    dsimp only at e
    cases z : ds.mapM (pyD 64 S) with
    | none => rw [z] at e; cases e
    | some ps =>
      rw [z] at e
      cases e
      exact .lst (SqL.of e1) (dps_of (P := P) (S := S) _ (dp_of s 64) q1 z)
def eqF : F2 := fun S a b => match pyR S a, pyR S b with
  | some p, some q => if SeqAt.shaped p = true ∧ SeqAt.shaped q = true then some (.d (.bl (PyData.eqv p q))) else none
  | _, _ => none
def neF : F2 := fun S a b => match pyR S a, pyR S b with
  | some p, some q => if SeqAt.shaped p = true ∧ SeqAt.shaped q = true then some (.d (.bl (!PyData.eqv p q))) else none
  | _, _ => none
theorem so_eq {G : GT} : SO2 G (rEqD G.K) eqF := by
  intro P ρ H S r1 r2 x y Q ov s h1 h2 e k
  unfold eqF at e
  split at e
  · rename_i p q e1 e2
    split at e
    · rename_i hc
      cases e
      exact ⟨p, q, dpR_of s h1 e1, dpR_of s h2 e2, hc.1, hc.2, op_d k (.bl _)⟩
    · cases e
  · cases e
theorem so_ne {G : GT} : SO2 G (rNeD G.K) neF := by
  intro P ρ H S r1 r2 x y Q ov s h1 h2 e k
  unfold neF at e
  split at e
  · rename_i p q e1 e2
    split at e
    · rename_i hc
      cases e
      exact ⟨p, q, dpR_of s h1 e1, dpR_of s h2 e2, hc.1, hc.2, op_d k (.bl _)⟩
    · cases e
  · cases e
/-! is None -/
def isNon : RV → Bool
  | .d .non => true
  | _ => false
def isF : F2 := fun _ a b => match b with
  | .d .non => some (.d (.bl (isNon a)))
  | _ => none
def isntF : F2 := fun _ a b => match b with
  | .d .non => some (.d (.bl (!isNon a)))
  | _ => none
/-! a[i] -/
def ixF : F2 := fun S a b => match b with
  | .d (.int n) => (match a with
    | .d (.tup ds) => (atI ds n).map OV.d
    | .d (.str z) => if z.length ≤ sizeLine then (atI z.cps.toList n).map fun c => OV.d (.str ⟨#[c]⟩) else none
    | a => (lstOf S a).bind fun ds => (atI ds n).map OV.d)
  | _ => none
theorem atI_rep {G : GT} {ρ : List Addr} {H : Hp} {ds : List D} {vs : List V} (r : Reps G ρ H ds vs) {n : Int} {d : D} (h : atI ds n = some d) : ∃ v, atI vs n = some v ∧ Rep G ρ H d v := by
  unfold atI at h ⊢
  rw [← r.len]
  cases e : ixN ds.length n with
  | none => rw [e] at h; cases h
  | some j =>
    rw [e] at h
    exact r.get h
theorem so_ix {G : GT} : SO2 G (rIx G.K) ixF := by
  intro P ρ H S r1 r2 x y Q ov s h1 h2 e k
  unfold ixF at e
  split at e
  · cases h2
    split at e
    · rename_i ds
      rename_i n _
      obtain ⟨a, vs, rfl, e1, q1⟩ := rep_tup h1
      cases z : atI ds n with
      | none => rw [z] at e; cases e
      | some d =>
        rw [z] at e
        cases e
        obtain ⟨v, hv, rv⟩ := atI_rep q1 z
        exact .inr (.inl ⟨a, vs, n, v, rfl, rfl, SqT.of e1, hv, op_d k rv⟩)
    · rename_i w
      rename_i n _
      split at e
      · rename_i hz
        cases z : atI w.cps.toList n with
        | none => rw [z] at e; cases e
        | some c =>
          rw [z] at e
          cases e
          cases h1
          exact .inr (.inr ⟨w, n, c, rfl, rfl, hz, z, op_d k (.str _)⟩)
      · cases e
    · rename_i n _ _ _
      cases l1 : lstOf S r1 with
      | none => rw [l1] at e; cases e
      | some ds =>
        rw [l1] at e
        obtain ⟨a, vs, rfl, e1, q1⟩ := lst_of s h1 l1
        dsimp only [Option.bind] at e
        cases z : atI ds n with
        | none => rw [z] at e; cases e
        | some d =>
          rw [z] at e
          cases e
          obtain ⟨v, hv, rv⟩ := atI_rep q1 z
          exact .inl ⟨a, vs, n, v, rfl, rfl, SqL.of e1, hv, op_d k rv⟩
  · cases e
end DM

namespace DM
open PySem PySem.Spec L2

theorem rrs1 {G : GT} {P : Hp} {ρ : List Addr} {H : Hp} {r : RV} {vs : List V} (h : RRs G P ρ H [r] vs) : ∃ v, vs = [v] ∧ RR G P ρ H r v := by
  cases h with
  | cons h t => cases t; exact ⟨_, rfl, h⟩
theorem rrs2 {G : GT} {P : Hp} {ρ : List Addr} {H : Hp} {r r' : RV} {vs : List V} (h : RRs G P ρ H [r, r'] vs) : ∃ v w, vs = [v, w] ∧ RR G P ρ H r v ∧ RR G P ρ H r' w := by
  cases h with
  | cons h t =>
    obtain ⟨w, rfl, h2⟩ := rrs1 t
    exact ⟨_, w, rfl, h, h2⟩
def lenF : FN := fun S rs => match rs with
  | [.d (.str z)] => if z.length ≤ sizeLine then some (.d (.int (z.length : Nat))) else none
  | [.d (.tup ds)] => some (.d (.int (ds.length : Nat)))
  | [r] => (lstOf S r).map fun ds => .d (.int (ds.length : Nat))
  | _ => none
theorem so_len {G : GT} : SON G (fun xs H Q => ∃ x n, xs = [x] ∧ LenV G.K x H n ∧ Q (.int n) H) lenF := by
  intro P ρ H S rs vs Q ov s h e k
  unfold lenF at e
  split at e
  · split at e
    · rename_i z hz
      cases e
      obtain ⟨v, rfl, r⟩ := rrs1 h
      cases r
      exact ⟨_, z.length, rfl, ⟨hz, rfl⟩, op_d k (.int _)⟩
    · cases e
  · cases e
    obtain ⟨v, rfl, r⟩ := rrs1 h
    obtain ⟨a, vs, rfl, e1, q1⟩ := rep_tup r
    rw [q1.len] at k
    exact ⟨_, vs.length, rfl, .inr ⟨vs, SqT.of e1, rfl⟩, op_d k (.int _)⟩
  · rename_i r _ _
    cases l1 : lstOf S r with
    | none => rw [l1] at e; cases e
    | some ds =>
      rw [l1] at e
      cases e
      obtain ⟨v, rfl, r⟩ := rrs1 h
      obtain ⟨a, vs, rfl, e1, q1⟩ := lst_of s r l1
      dsimp only at k
      rw [q1.len] at k
      exact ⟨_, vs.length, rfl, .inl ⟨vs, SqL.of e1, rfl⟩, op_d k (.int _)⟩
  · cases e
def intsOf : List D → Option (List Int)
  | [] => some []
  | .int i :: r => (intsOf r).map (i :: ·)
  | _ => none
def blsOf : List D → Option (List Bool)
  | [] => some []
  | .bl b :: r => (blsOf r).map (b :: ·)
  | _ => none
def liF (f : List Int → Option OV) : FN := fun S rs => match rs with
  | [r] => (lstOf S r).bind fun ds => (intsOf ds).bind f
  | _ => none
def lbF (f : List Bool → Option OV) : FN := fun S rs => match rs with
  | [r] => (lstOf S r).bind fun ds => (blsOf ds).bind f
  | _ => none
def sumF : FN := liF fun ns => some (.d (.int ns.sum))
def allF : FN := lbF fun bs => some (.d (.bl (bs.all id)))
def anyF : FN := lbF fun bs => some (.d (.bl (bs.any id)))
def maxI : List Int → Int
  | [] => 0
  | [x] => x
  | x :: y :: r => if maxI (y :: r) > x then maxI (y :: r) else x
def minI : List Int → Int
  | [] => 0
  | [x] => x
  | x :: y :: r => if minI (y :: r) < x then minI (y :: r) else x
def maxF : FN := fun S rs => match rs with
  | [.d (.int i), .d (.int j)] => some (.d (.int (if j > i then j else i)))
  | rs => liF (fun ns => if ns = [] then none else some (.d (.int (maxI ns)))) S rs
def minF : FN := fun S rs => match rs with
  | [.d (.int i), .d (.int j)] => some (.d (.int (if j < i then j else i)))
  | rs => liF (fun ns => if ns = [] then none else some (.d (.int (minI ns)))) S rs
def tupF : FN := fun S rs => match rs with
  | [.d (.tup ds)] => some (.d (.tup ds))
  | [r] => (lstOf S r).map fun ds => .d (.tup ds)
  | _ => none
def listF : FN := fun S rs => match rs with
  | [.d (.tup ds)] => some (.l ds)
  | [r] => (lstOf S r).map fun ds => .l ds
  | _ => none
theorem so_list {G : GT} : SON G (fun xs H Q => ∃ p ys, xs = [.ref p] ∧ (SqL G.K H p ys ∨ SqT G.K H p ys) ∧ ∀ l, H l = none → Q (.ref l) (upd H l (.lst ys))) listF := fun P ρ H S rs vs Q ov s h e k => by
  unfold listF at e
  split at e
  · cases e
    obtain ⟨v, rfl, r⟩ := rrs1 h
    obtain ⟨a, vs, rfl, e1, q1⟩ := rep_tup r
    exact ⟨a, vs, rfl, .inr (SqT.of e1), op_lst k q1⟩
  · rename_i r _
    cases l1 : lstOf S r with
    | none => rw [l1] at e; cases e
    | some ds =>
      rw [l1] at e
      cases e
      obtain ⟨v, rfl, r⟩ := rrs1 h
      obtain ⟨a, vs, rfl, e1, q1⟩ := lst_of s r l1
      exact ⟨a, vs, rfl, .inl (SqL.of e1), op_lst k q1⟩
  · cases e
def intF : FN := fun _ rs => match rs with
  | [.d (.int i)] => some (.d (.int i))
  | [.d (.bl b)] => some (.d (.int (if b then 1 else 0)))
  | _ => none
def intSF : FN := fun _ rs => match rs with
  | [.d (.str a)] => (match PySem.intText? a with
    | some n => if a.length ≤ 640 then some (.d (.int n)) else none
    | none => none)
  | _ => none
def strF : FN := fun _ rs => match rs with
  | [.d (.int i)] => if i.natAbs.log2 < 1920 then some (.d (.str (toString i))) else none
  | _ => none
theorem so_str {G : GT} : SON G (fun xs H Q => ∃ i, xs = [.int i] ∧ i.natAbs.log2 < 1920 ∧ Q (.str (toString i)) H) strF := fun P ρ H S rs vs Q ov s h e k => by
  unfold strF at e
  split at e
  · split at e
    · rename_i hz
      cases e
      obtain ⟨v, rfl, r⟩ := rrs1 h
      cases r
      exact ⟨_, rfl, hz, op_d k (.str _)⟩
    · cases e
  · cases e
/-! isinstance -/
def kindOf (S : Store) : RV → Option String
  | .l _ _ => some "list"
  | .d .non => some "NoneType"
  | .d (.bl _) => some "bool"
  | .d (.int _) => some "int"
  | .d (.str _) => some "str"
  | .d (.tup _) => some "tuple"
  | .d (.loc n) => (match S[n]? with
    | some (.lst _) => some "list"
    | _ => none)
  | _ => none
def okKind (n : String) : Bool := n == "int" || n == "bool" || n == "str" || n == "tuple" || n == "list"
def isKind (t n : String) : Bool := t == n || (t == "bool" && n == "int")
def tysOf : List D → Option (List String)
  | [] => some []
  | .ty n :: r => if okKind n = true then (tysOf r).map (n :: ·) else none
  | _ => none
def isiF : FN := fun S rs => match rs with
  | [r, .d (.ty n)] => (kindOf S r).bind fun t => if okKind n = true then some (.d (.bl (isKind t n))) else none
  | [r, .d (.tup ds)] => (kindOf S r).bind fun t => (tysOf ds).map fun ns => .d (.bl (ns.any (isKind t)))
  | _ => none
/-! ### slices -/
def ePart : Option ME → Env → Store → Res (Option Int)
  | none, _, S => .ok none S
  | some m, es, S => (m es S).bind fun r S1 => match r with
    | .d (.int i) => .ok (some i) S1
    | _ => .bad
def cutL {T : Type} (xs : List T) (lo hi : Option Int) : List T := (xs.drop (HT.sIx xs.length 0 lo)).take (HT.sIx xs.length xs.length hi - HT.sIx xs.length 0 lo)
def slF (S : Store) (r : RV) (lo hi : Option Int) : Option OV := match r with
  | .d (.tup ds) => some (.d (.tup (cutL ds lo hi)))
  | .d (.str z) => if z.length ≤ sizeLine then some (.d (.str (cutS z lo hi))) else none
  | .d (.scr ns) => some (.l ((cutL ns lo hi).map D.int))
  | r => (lstOf S r).map fun ds => .l (cutL ds lo hi)
def eSl (lo hi : Option ME) (m : ME) : ME := fun es S => (m es S).bind fun r S1 => (ePart lo es S1).bind fun a S2 => (ePart hi es S2).bind fun b S3 => ofO (slF S3 r.weak a b) S3
structure SO (G : GT) (W : WX) (X : Cx) (e : Option Expr) (m : Option ME) : Prop where
  po : PO X e (fun σ H Q => ∃ P ρ es S, VS G P ρ H S ∧ ES G P ρ H σ es ∧ (match ePart m es S with
    | .ok o S' => ∀ ρ' H', VS G P ρ' H' S' → TK ρ H ρ' H' → Q o H'
    | .ex c p S' => ∀ cls d ρ' H', VS G P ρ' H' S' → TK ρ H ρ' H' → RX G ρ' H' c p cls d → W cls d σ H'
    | .bad => False))
section
variable {G : GT} {W : WX} {X : Cx} {e : Expr} {m : ME} {pos p2 : Pos} {lo hi : Option Expr} {ml mh : Option ME}
theorem PO.of {e : Option Expr} {t t' : TO} (h : PO X e t) (k : ∀ σ H Q, t' σ H Q → t σ H Q) : PO X e t' := ⟨fun pins s σ H Q I q => h.run pins s σ H Q I (k σ H Q q)⟩
theorem so_no : SO G W X none none := by
  refine ⟨PO.of po_none fun σ H Q h => ?_⟩
  obtain ⟨P, ρ, es, S, s, q, h⟩ := h
  exact h ρ H s (TK.refl _ _)
theorem so_some (ha : SE G W X e m) : SO G W X (some e) (some m) := by
  refine ⟨PO.of (po_some ha.pe) fun σ H Q h => ?_⟩
  obtain ⟨P, ρ, es, S, s, q, h⟩ := h
  refine ⟨P, ρ, es, S, s, q, ?_⟩
  unfold ePart at h
  dsimp only at h
  cases z : m es S with
  | bad => rw [z] at h; exact h
  | ex c p S1 => rw [z] at h; exact h
  | ok r S1 =>
    rw [z] at h
    intro v ρ1 H1 s1 k1 rr
    cases r with
    | l f ds => exact h.elim
    | d x =>
      cases x with
      | int i => cases rr; exact ⟨i, rfl, h ρ1 H1 s1 k1⟩
      | _ => exact h.elim
def rSlAll (K : PySem.W.Frag) : V → Option Int → Option Int → Hp → VK → Prop := fun x lo hi H Q => rSlL K x lo hi H Q ∨ (rSlA K x lo hi H Q ∨ rSlS x lo hi H Q)
theorem sl_all : SlR X (rSlAll X.K) := SlR.or sl_list (SlR.or sl_tupA sl_str)
theorem cut_reps {ρ : List Addr} {H : Hp} {ds : List D} {vs : List V} (r : Reps G ρ H ds vs) (a b : Option Int) : Reps G ρ H (cutL ds a b) (cutV vs a b) := by
  unfold cutL cutV
  rw [← r.len]
  exact (r.drop _).take _
theorem cut_ints {ρ : List Addr} {H : Hp} : ∀ {ns : List Int}, Reps G ρ H (ns.map D.int) (ns.map V.int)
  | [] => .nil
  | n :: ns => .cons (.int n) cut_ints
theorem sl_core {P : Hp} {ρ : List Addr} {H : Hp} {S : Store} {r : RV} {v : V} {a b : Option Int} {Q : VK} {ov : OV} (s : VS G P ρ H S) (rr : RR G P ρ H r.weak v) (e : slF S r.weak a b = some ov) (k : ∀ v H', OP G ρ H ov v H' → Q v H') : rSlAll G.K v a b H Q := by
  have lst : ∀ ds, lstOf S r.weak = some ds → ov = .l (cutL ds a b) → rSlAll G.K v a b H Q := fun ds l1 eo => by
    subst eo
    obtain ⟨p, vs, rfl, e1, q1⟩ := lst_at s rr l1
    exact .inl ⟨p, vs, rfl, SqL.of e1, op_lst k (cut_reps q1 a b)⟩
  unfold slF at e
  split at e
  · rename_i ds hr
    cases e
    rw [hr] at rr
    obtain ⟨p, vs, rfl, e1, q1⟩ := rep_tup rr
    refine .inr (.inl ⟨p, vs, rfl, SqT.of e1, fun hz => ?_, fun hz => op_tup k (cut_reps q1 a b)⟩)
    have : cutL ds a b = ds := by
      unfold cutL
      rw [q1.len, hz.1, hz.2, ← q1.len]
      simp
    rw [this] at k
    exact op_d k (.tup e1 q1)
  · rename_i z hr
    split at e
    · rename_i hz
      cases e
      rw [hr] at rr
      cases rr
      exact .inr (.inr ⟨z, rfl, hz, op_d k (.str _)⟩)
    · cases e
  · rename_i ns hr
    cases e
    rw [hr] at rr
    cases rr with
    | scr hs =>
      rename_i p
      have sq : SqL G.K H p (ns.map V.int) := by
        rcases hs with ⟨o, e1⟩ | e1
        · exact .inl (.inr ⟨o, e1⟩)
        · exact e1 H
      refine .inl ⟨p, _, rfl, sq, ?_⟩
      have : cutV (ns.map V.int) a b = (cutL ns a b).map V.int := by
        unfold cutV cutL
        rw [List.length_map, List.map_take, List.map_drop]
      rw [this]
      exact op_lst k cut_ints
  · cases l1 : lstOf S r.weak with
    | none => rw [l1] at e; cases e
    | some ds => rw [l1] at e; cases e; exact lst ds l1 rfl
theorem se_sl (ha : SE G W X e m) (hl : SO G W X lo ml) (hh : SO G W X hi mh) : SE G W X (.Subscript e (.Slice lo hi none p2) pos) (eSl ml mh m) := by
  refine ⟨ha.k, PE.of (pe_slice sl_all ha.pe hl.po hh.po) fun σ H Q h => ?_⟩
  obtain ⟨P, ρ, es, S, s, q, h⟩ := h
  refine rdE_then s q h fun r S1 v ρ1 H1 e1 s1 k1 rr h => ?_
  obtain ⟨P1, hp, s1', rr1⟩ := protect s1 rr
  have hnl : ∀ (a b : Option Int) (S3 : Store), ∀ rv S', ofO (slF S3 r.weak a b) S3 = .ok rv S' → ∀ ds, rv ≠ .l false ds := fun a b S3 => ofO_rv
  refine ⟨P1, ρ1, es, S1, s1', (q.next k1).more hp, ?_⟩
  cases z : ePart ml es S1 with
  | bad => rw [z] at h; exact h
  | ex c p S2 => rw [z] at h; exact fun cls d ρ2 H2 s2 k2 rx => h cls d ρ2 H2 (s2.less hp) k2 rx
  | ok a S2 =>
    rw [z] at h
    intro ρ2 H2 s2 k2
    refine ⟨P1, ρ2, es, S2, s2, ((q.next k1).next k2).more hp, ?_⟩
    have h : Aft G (fun cls d H' => W cls d σ H') P ρ1 H1 ((ePart mh es S2).bind fun b S3 => ofO (slF S3 r.weak a b) S3) Q := h
    cases z2 : ePart mh es S2 with
    | bad => rw [z2] at h; exact h
    | ex c p S3 => rw [z2] at h; exact fun cls d ρ3 H3 s3 k3 rx => h cls d ρ3 H3 (s3.less hp) (k2.trans k3) rx
    | ok b S3 =>
      rw [z2] at h
      intro ρ3 H3 s3 k3
      have h : Aft G (fun cls d H' => W cls d σ H') P ρ1 H1 (ofO (slF S3 r.weak a b) S3) Q := h
      cases z3 : slF S3 r.weak a b with
      | none => rw [z3] at h; exact h.elim
      | some ov =>
        rw [z3] at h
        rw [ha.k]
        exact sl_core s3 (RR.weak_mono (k2.trans k3) rr1) z3 (op_end s3 hp (Aft.next (k2.trans k3) h))
end

/-! ### the rules, at a word -/
section
variable {G : GT} {W : WX} {X : Cx} {a b c : Expr} {ma mb : ME} {pos : Pos}
theorem se_add (ha : SE G W X a ma) (hb : SE G W X b mb) : SE G W X (.BinOp a .Add b pos) (eOp2 addF ma mb) := se_op2 op_addA (by rw [ha.k]; exact so_add) ha hb
theorem se_mul (ha : SE G W X a ma) (hb : SE G W X b mb) : SE G W X (.BinOp a .Mult b pos) (eOp2 mulF ma mb) := se_op2 op_mulA (by rw [ha.k]; exact so_mul) ha hb
theorem se_fdiv (ha : SE G W X a ma) (hb : SE G W X b mb) : SE G W X (.BinOp a .FloorDiv b pos) (eOp2 fdivF ma mb) := se_op2 op_fdivW (so_iic fun _ _ _ _ => .int _) ha hb
theorem se_mod (ha : SE G W X a ma) (hb : SE G W X b mb) : SE G W X (.BinOp a .Mod b pos) (eOp2 modF ma mb) := se_op2 op_mod (so_iic fun _ _ _ _ => .int _) ha hb
theorem se_pow (ha : SE G W X a ma) (hb : SE G W X b mb) : SE G W X (.BinOp a .Pow b pos) (eOp2 powF ma mb) := se_op2 op_pow (so_iic fun _ _ _ _ => .int _) ha hb
theorem se_eq (hu : X.A.units + 64 < cLine) (ha : SE G W X a ma) (hb : SE G W X b mb) : SE G W X (.Compare a [.Eq] [b] pos) (eOp2 eqF ma mb) := se_cmp (op_eqD hu) (by rw [ha.k]; exact so_eq) ha hb (nomark _)
theorem se_sub_ (ha : SE G W X a ma) (hb : SE G W X b mb) (hp : PlainIx b := by intro _ _; rfl) : SE G W X (.Subscript a b pos) (eOp2 ixF ma mb) := se_ix ix_seq (by rw [ha.k]; exact so_ix) ha hb hp
end
section
variable {G : GT} {W : WX} {X : Cx} {a : Expr} {as : List Expr} {ms : List ME} {p pos : Pos}
theorem se_len (hg : Gl X "len") (hm : X.mg "len" = none) (ha : SA G W X (a :: as) ms) (he : starEach (a :: as) X.env = (false, eval a X.env) :: starEach as X.env := by rfl) (hpl : (backTo pos (starEach as X.env)).any (·.1) = false := by rfl) : SE G W X (.Call (.Name "len" p) (a :: as) [] pos) (eOpN lenF ms) :=
  se_callB call_len (by rw [ha.k]; exact so_len) hg hm (by decide +kernel) ha (by decide) (by decide) he hpl
theorem se_list (hg : Gl X "list") (hm : X.mg "list" = none) (ha : SA G W X (a :: as) ms) (he : starEach (a :: as) X.env = (false, eval a X.env) :: starEach as X.env := by rfl) (hpl : (backTo pos (starEach as X.env)).any (·.1) = false := by rfl) : SE G W X (.Call (.Name "list" p) (a :: as) [] pos) (eOpN listF ms) :=
  se_callTy call_list_of (by rw [ha.k]; exact so_list) hg hm (by decide +kernel) ha (by decide) (by decide) he hpl
theorem se_strc (hg : Gl X "str") (hm : X.mg "str" = none) (ha : SA G W X (a :: as) ms) (he : starEach (a :: as) X.env = (false, eval a X.env) :: starEach as X.env := by rfl) (hpl : (backTo pos (starEach as X.env)).any (·.1) = false := by rfl) : SE G W X (.Call (.Name "str" p) (a :: as) [] pos) (eOpN strF ms) :=
  se_callTy call_str_int so_str hg hm (by decide +kernel) ha (by decide) (by decide) he hpl
end
end DM

namespace DM
open PySem PySem.Spec L2

/-! ### a def that may be called -/
def Cal (G : GT) (P : Program) (w : World) (K : PySem.W.Frag) (mg : Str → Option Value) (base : Heap) (k : Nat) (x : Str) (n : Nat) (m : MF) : Prop :=
  ∃ (f : Addr) (fd : FuncData) (ps : List Str), FnOk P w K mg base (L2.CX P w) k f fd ps (spM G n m) ∧ mg x = some (.ref f) ∧ PySem.W.keepIn K (.ref f) = true ∧ Binds K fd ps []
section
variable {G : GT} {P : Program} {w : World} {K : PySem.W.Frag} {mg : Str → Option Value} {base : Heap} {k n : Nat} {x qual : Str} {st : Stmt} {f : Addr} {fd : FuncData} {ps N : List Str} {m : MF}
theorem cal_mk (F : Fun K x qual st f fd) (hm : mg x = some (.ref f)) (hb : Binds K fd ps []) (h : FnOk P w K mg base (L2.CX P w) k f fd ps (spM G n m)) : Cal G P w K mg base k x n m := ⟨f, fd, ps, h, hm, F.kp, hb⟩
end
section
variable {G : GT} {W : WX} {X : Cx} {e : Expr} {as : List Expr} {ms : List ME} {m : MF} {p pos : Pos} {k n : Nat} {x : Str}
theorem se_callC (tk : Takes X W) (c : Cal G X.prog X.w X.K X.mg X.base k x n m) (hr : Room k X.A) (hg : Gl X x) (ha : SA G W X (e :: as) ms) (hn : ms.length = n := by rfl) (hdb : (x == ("__debug__" : Str)) = false := by decide)
    (he : starEach (e :: as) X.env = (false, eval e X.env) :: starEach as X.env := by rfl) (hpl : (backTo pos (starEach as X.env)).any (·.1) = false := by rfl) : SE G W X (.Call (.Name x p) (e :: as) [] pos) (eCall m ms) := by
  obtain ⟨f, fd, ps, F, hm, hk, hb⟩ := c
  exact se_call tk F hr hg hm hk hb ha hn hdb he hpl
end

/-! ### a < b < c -/
def eChain (f g : F2) (a b c : ME) : ME := fun es S => (a es S).bind fun x S1 => (b es S1).bind fun y S2 => match f S2 x.weak y.weak with
  | some (.d (.bl true)) => (c es S2).bind fun z S3 => ofO (g S3 y.weak z.weak) S3
  | some (.d (.bl false)) => .ok (.d (.bl false)) S2
  | _ => .bad
section
variable {G : GT} {W : WX} {X : Cx} {a b c : Expr} {ma mb mc : ME} {pos : Pos}
end

/-! ### reversed, tuple(range()) -/
def miRev (m : MQ) : MI := fun es S => (m es S).bind fun x S1 => .ok (x.1.reverse, chk x.2 x.1) S1
/-! ### comparisons as tests -/
section
variable {G : GT} {W : WX} {X : Cx} {a b c : Expr} {ma mb mc : ME} {pos : Pos}
theorem sb_cmp {op : CmpOp} {r : R2} {f : Store → RV → RV → Option OV} (ho : OpR X (compareOp op) r) (hs : SO2 G r f) (ha : SE G W X a ma) (hb : SE G W X b mb) (hm : behindInMarks op b = false) : SB G W X (.Compare a [op] [b] pos) (bOf (eOp2 f ma mb)) :=
  ⟨ha.k, PT.of (pt_cmpR ho ha.pe hb.pe hm) fun _ _ _ h => op2_core hs (rd_bOf h fun b H1 q => ⟨b, rfl, q⟩)⟩
theorem sb_lt (ha : SE G W X a ma) (hb : SE G W X b mb) : SB G W X (.Compare a [.Lt] [b] pos) (bOf (eOp2 ltF ma mb)) := sb_cmp op_lt (so_ii fun _ _ _ _ => .bl _) ha hb (nomark _)
theorem sb_gt (ha : SE G W X a ma) (hb : SE G W X b mb) : SB G W X (.Compare a [.Gt] [b] pos) (bOf (eOp2 gtF ma mb)) := sb_cmp op_gt (so_ii fun _ _ _ _ => .bl _) ha hb (nomark _)
theorem sb_ge (ha : SE G W X a ma) (hb : SE G W X b mb) : SB G W X (.Compare a [.GtE] [b] pos) (bOf (eOp2 geF ma mb)) := sb_cmp op_ge (so_ii fun _ _ _ _ => .bl _) ha hb (nomark _)
theorem sb_ne (hu : X.A.units + 64 < cLine) (ha : SE G W X a ma) (hb : SE G W X b mb) : SB G W X (.Compare a [.NotEq] [b] pos) (bOf (eOp2 neF ma mb)) := sb_cmp (op_neD hu) (by rw [ha.k]; exact so_ne) ha hb (nomark _)
end
end DM

namespace DM
open PySem PySem.Spec L2

/-! ### the law's own head -/
theorem scr_of {K : PySem.W.Frag} {H : Hp} {a : Addr} {ns : List Int} (hO : Only H) (h : SqL K H a (ns.map V.int)) : ScrAt K H a ns := by
  rcases h with h | h
  · rcases h with h | ⟨o, h⟩
    · rcases hO a with z | ⟨o, xs, z⟩
      · rw [z] at h; cases h
      · rw [z] at h; cases h
    · exact .inl ⟨o, h⟩
  · exact .inr fun H' => .inr h
theorem law_sp {G : GT} {m : MF} {H : Hp} {a : Addr} {ns : List Int} (hO : Only H) (h : SqL G.K H a (ns.map V.int)) (hm : ∃ S', m [.d (.scr ns)] [] = .ok (.d (.bl true)) S') : spM G 1 m [.ref a] H (fun v _ => v = .bl true) fun _ _ _ => False := by
  obtain ⟨S', e⟩ := hm
  refine ⟨rfl, fun _ => none, [], [.d (.scr ns)], [], ⟨rfl, List.nodup_nil, fun n a o h => by simp at h, fun a o h => by cases h⟩, .cons (.scr (scr_of hO h)) .nil, ?_⟩
  rw [e]
  intro v ρ' H' s t r
  cases r
  rfl
theorem noCX {P : Program} {w : World} {H : Hp} {s : Shared} {e : Value} {s' : Shared} : L2.CX P w [] H s (fun _ _ _ => False) e s' → False := by
  intro ⟨_, _, _, _, _, _, _, _, _, _, _, _, h⟩
  exact h
/-- the law: F gives the classes, the defs as values, the promise -/
theorem walk_M {l : PySem.W.OpenLaw} {n k : Nat} {q : Program} {loose : List Str} {XP : (Str → Option Value) → Heap → Prop} {YP : World → Heap → Prop} {d : DefRec} {K : Params → PySem.W.Frag} {x : Str} {m : MF}
    (hn : l.most = some n) (hn2 : n ≤ sizeLine) (hdf : d.params.defaults = []) (hr : Room k callerA)
    (hY : ∀ (w : World) (h : Heap), YP w h → (K w.params).In h)
    (F : ∀ (w : World) (mg : Str → Option Value) (fa : Addr) (h : Heap), (K w.params).In h → h.Ns mainGlobals mg → mg d.name = some (.ref fa) →
      ∃ (cl fns : List Addr) (fd : FuncData), (∀ (s : Shared) (u : Value), BindsTo s fd ⟨[u], []⟩ [(x, u)]) ∧
        ∀ base : Heap, (K w.params).In base → base.Ns mainGlobals mg → FnOk l.prog w (K w.params) mg base (L2.CX l.prog w) k fa fd [x] (spM ⟨K w.params, cl, fns, fun _ _ _ _ => False⟩ 1 m))
    (hm : ∀ ns : List Int, ns.length ≤ n → ∃ S', m [.d (.scr ns)] [] = .ok (.d (.bl true)) S') :
    PySem.W.WalkO q loose XP YP l.row.toRowW d [] (fun f vs => PySem.call f vs) := by
  refine Att.attach_call hn hdf fun w s₀ s₁ mg mb fa o pm cd doc a vs ns G Y ho hd hcd hmg hobj hints hlen hg => ?_
  have KX := hY w _ Y
  obtain ⟨cl, fns, fd, hb, hF⟩ := F w mg fa _ KX G.T.g hmg
  exact law_call KX G.T.g G.T.b G.T.builtins G.T.nolimit hg hobj hints (Nat.le_trans hlen hn2) hr hF hb (fun H hO hS => law_sp hO hS (hm ns hlen)) fun H e s' => noCX
end DM

/-! DX2: raise, try with a kept exception, isinstance of it, calls of local names that hold defs, in, count, index -/
namespace DM
open PySem PySem.Spec L2

/-! ### raise -/
/-- a class of one's own that is raised with a text -/
structure RaiseF (K : PySem.W.Frag) (mg : Str → Option Value) (cl : List Addr) (n : Nat) (x : Str) : Prop where
  ex : ∃ C, cl[n]? = some C ∧ mg x = some (.ref C) ∧ PySem.W.keepIn K (.ref C) = true ∧ PySem.W.excIn K C [.type "ValueError", .type "Exception", .type "BaseException", .type "object"] "ValueError.__new__" = true ∧
    PySem.W.subIn K (.ref C) (.type "BaseException") = some true ∧ PySem.W.typeIn K (.ref C) = some (.type "type")
def sRaise (c : Nat) : MS := fun es S => .ex c [] es S
section
variable {G : GT} {W : WX} {X : Cx} {x m : Str} {n j : Nat} {p p2 pos pos2 : Pos}
end
/-! ### try -/
def sTry (n y : Nat) (b : MS) : MS := fun es S => match b es S with
  | .ex c [] es' S' => .nx ((es'.set y (.v (.exn c []))).set n .no) S'
  | .ex c [d] es' S' => .nx ((es'.set y (.v (.exn c [d]))).set n .no) S'
  | .ex _ _ _ _ => .bad
  | r => r
theorem SS.grow {G : GT} {P : Hp} {ρ : List Addr} {H H' : Hp} {σ : St} {es : Env} (q : SS G P ρ H σ es) (g : ∀ a o, H a = some o → H' a = some o) : SS G P ρ H' σ es := by
  have k : TK ρ H ρ H' := TK.same g
  refine ⟨q.len, fun i d e => ?_, fun i ds e => ?_, fun i ds e => ?_, q.dis⟩
  · obtain ⟨x, h1, h2⟩ := q.val i d e
    exact ⟨x, h1, h2.mono k⟩
  · obtain ⟨a, vs, h1, h2, h3⟩ := q.bor i ds e
    exact ⟨a, vs, h1, h2, h3.mono k⟩
  · obtain ⟨a, vs, h1, h2, h3, h4⟩ := q.own i ds e
    exact ⟨a, vs, h1, g _ _ h2, h3.mono k, h4⟩
/-! ### isinstance of a kept exception -/
def subX (c k : Nat) : Bool := k == c || k == 0
/-- what the classes say of each other (1 to 5: those without own __init__) -/
structure KinF (K : PySem.W.Frag) (cl : List Addr) : Prop where
  exc : ∀ (c : Nat) (C : Addr), 1 ≤ c → c ≤ 6 → cl[c]? = some C → ExcC K C
  kin : ∀ (c k : Nat) (C D : Addr), 1 ≤ c → c ≤ 6 → k ≤ 6 → cl[c]? = some C → cl[k]? = some D → PySem.W.kitOne K (.ref C) (.ref D) = some (subX c k)
  val : ∀ (c : Nat) (C : Addr), 1 ≤ c → c ≤ 6 → cl[c]? = some C → PySem.W.kitOne K (.ref C) (.type "ValueError") = some true
def rIsX (K : PySem.W.Frag) : List V → Hp → VK → Prop := fun xs H Q => ∃ (a C : Addr) (oe : Obj) (c : V) (cv : Value) (b : Bool) (d : Option Addr), xs = [.ref a, c] ∧ H a = some (ExK oe a) ∧ Zc (.ref C) d oe ∧ (∀ dx, d = some dx → ∃ fs, H dx = some (.xd fs)) ∧ (∃ vs, oe.data = .fields vs) ∧ ExcC K C ∧ (∀ u, RelV c u → u = cv) ∧ PySem.W.kitOne K (.ref C) cv = some b ∧ Q (.bl b) H
end DM
namespace L2
open PySem PySem.Spec PyProof.Rows
theorem call_isX {X : Cx} : CallR X (.builtin "isinstance") (DM.rIsX X.K) := by
  intro pins s σ H xs us Q I r h
  obtain ⟨a, D, oe, c, cv, b, d, rfl, ha, hz, hdx, hf, C, hcv, e, q⟩ := h
  cases r with
  | cons rx rr =>
    cases rr with
    | cons rt rr =>
      cases rr
      cases rx
      have ec := hcv _ rt
      subst ec
      have hget : s.heap.get? a = some oe := (I.hok a _ ha).1
      obtain ⟨vs, hv⟩ := hf
      have nc : PySem.W.notCls oe = true := by unfold PySem.W.notCls; rw [hv] <;> rfl
      have J : ∃ od, PySem.W.InstAt s.heap a oe D od := by
        cases d with
        | none => exact ⟨none, hget, hz.1, nc, by rw [hz.2]; trivial⟩
        | some dx =>
          obtain ⟨fs, hx⟩ := hdx dx rfl
          have hx : ObjOk X.prog X.w H s.heap dx (.xd fs) := I.hok dx _ hx
          obtain ⟨mA, hns, hr⟩ := hx
          obtain ⟨od, ho, hl⟩ := lookIn_ns hns
          exact ⟨some od, hget, hz.1, nc, by rw [hz.2]; exact ho⟩
      obtain ⟨od, J⟩ := J
      have hcl : (PySem.W.clsIn X.K D).isSome = true := by
        obtain ⟨cd, hc, _⟩ := PySem.W.any_some C.hd
        rw [hc]; rfl
      exact PySem.W.kia_one (PySem.W.kitx_exc hcl C.hg C.hk C.hs C.ha C.hn C.ht C.hm) I.kIn J e (fun z => nomatch z) fun tk => ⟨.bl b, H, I.kept (t' := tk) fun _ _ z => z, rfl, q⟩
end L2
namespace DM
open PySem PySem.Spec L2
def isxF : FN := fun _ rs => match rs with
  | [.d (.exn c []), .d (.cls k)] => if 1 ≤ c ∧ c ≤ 5 ∧ k ≤ 6 then some (.d (.bl (subX c k))) else none
  | [.d (.exn c []), .d (.ty n)] => if 1 ≤ c ∧ c ≤ 5 ∧ n = "ValueError" then some (.d (.bl true)) else none
  | [.d (.exn c [_]), .d (.cls k)] => if c = 6 ∧ k ≤ 6 then some (.d (.bl (subX c k))) else none
  | [.d (.exn c [_]), .d (.ty n)] => if c = 6 ∧ n = "ValueError" then some (.d (.bl true)) else none
  | _ => none
theorem so_isx {G : GT} (F : KinF G.K G.cls) : SON G (rIsX G.K) isxF := fun P ρ H S rs vs Q ov s h e k => by
  unfold isxF at e
  split at e
  · rename_i c j
    obtain ⟨v, w, rfl, r1, r2⟩ := rrs2 h
    split at e
    · rename_i hc
      cases e
      cases r1 with
      | exn hC hH z f =>
        cases r2 with
        | cls hD => exact ⟨_, _, _, _, _, _, _, rfl, hH, z, (fun _ q => nomatch q), f, F.exc _ _ hc.1 (by omega) hC, fun u hu => hu, F.kin _ _ _ _ hc.1 (by omega) hc.2.2 hC hD, op_d k (.bl _)⟩
    · cases e
  · rename_i c n
    obtain ⟨v, w, rfl, r1, r2⟩ := rrs2 h
    split at e
    · rename_i hc
      cases e
      obtain ⟨h1, h2, rfl⟩ := hc
      cases r1 with
      | exn hC hH z f =>
        cases r2
        exact ⟨_, _, _, _, _, _, _, rfl, hH, z, (fun _ q => nomatch q), f, F.exc _ _ h1 (by omega) hC, fun u hu => hu, F.val _ _ h1 (by omega) hC, op_d k (.bl _)⟩
    · cases e
  · rename_i c x j
    obtain ⟨v, w, rfl, r1, r2⟩ := rrs2 h
    split at e
    · rename_i hc
      cases e
      obtain ⟨rfl, hj⟩ := hc
      cases r1 with
      | exo hC hH z f hd rx =>
        cases r2 with
        | cls hD => exact ⟨_, _, _, _, _, _, _, rfl, hH, z, (fun _ q => by cases q; exact ⟨_, hd⟩), f, F.exc _ _ (by omega) (by omega) hC, fun u hu => hu, F.kin _ _ _ _ (by omega) (by omega) hj hC hD, op_d k (.bl _)⟩
    · cases e
  · rename_i c x n
    obtain ⟨v, w, rfl, r1, r2⟩ := rrs2 h
    split at e
    · rename_i hc
      cases e
      obtain ⟨rfl, rfl⟩ := hc
      cases r1 with
      | exo hC hH z f hd rx =>
        cases r2
        exact ⟨_, _, _, _, _, _, _, rfl, hH, z, (fun _ q => by cases q; exact ⟨_, hd⟩), f, F.exc _ _ (by omega) (by omega) hC, fun u hu => hu, F.val _ _ (by omega) (by omega) hC, op_d k (.bl _)⟩
    · cases e
  · cases e
/-! ### a local name that holds a def -/
def eCallL (i : Nat) (tbl : Nat → MF) (ms : List ME) : ME := fun es S => match es[i]? with
  | some (.v (.fn n)) => eCall (tbl n) ms es S
  | _ => .bad
theorem Cal.mono {G : GT} {P : Program} {w : World} {K : PySem.W.Frag} {mg : Str → Option Value} {base : Heap} {j k n : Nat} {x : Str} {m : MF} (h : Cal G P w K mg base j x n m) (hk : j ≤ k) : Cal G P w K mg base k x n m := by
  obtain ⟨f, fd, ps, F, z⟩ := h
  exact ⟨f, fd, ps, F.mono hk, z⟩
section
variable {G : GT} {W : WX} {X : Cx} {e : Expr} {as : List Expr} {ms : List ME} {p pos : Pos} {k i : Nat} {x : Str} {tbl : Nat → MF}
theorem se_isx (F : KinF G.K G.cls) (hg : Gl X "isinstance") (hm : X.mg "isinstance" = none) {a : Expr} (ha : SA G W X (a :: as) ms) (he : starEach (a :: as) X.env = (false, eval a X.env) :: starEach as X.env := by rfl) (hpl : (backTo pos (starEach as X.env)).any (·.1) = false := by rfl) : SE G W X (.Call (.Name "isinstance" p) (a :: as) [] pos) (eOpN isxF ms) :=
  se_callB call_isX (by rw [ha.k]; exact so_isx F) hg hm (by decide +kernel) ha (by decide) (by decide) he hpl
end
section
variable {G : GT} {W : WX} {X : Cx} {x : Str} {n : Nat} {pos : Pos}
theorem se_clsE (k : X.K = G.K) (hg : Gl X x) (h : ∃ C, X.mg x = some (.ref C) ∧ G.cls[n]? = some C) (hd : (x == ("__debug__" : Str)) = false := by decide) : SE G W X (.Name x pos) (eC (.cls n)) := by
  obtain ⟨C, h1, h2⟩ := h
  exact se_cls k hg h1 h2 hd
end
theorem kit_ref {K : PySem.W.Frag} {C D : Addr} {b : Bool} (hd : PySem.W.hasDictIn K D = true) (ht : PySem.W.typeIn K (.ref D) = some (.type "type")) (h4 : PySem.W.subIn K (.ref C) (.ref D) = some b) (hb : b = true ∨ (Value.ref C == Value.ref D) = false) : PySem.W.kitOne K (.ref C) (.ref D) = some b := by
  obtain ⟨cd, hc, _⟩ := PySem.W.any_some hd
  have e2 : ((PySem.W.clsIn K D).isSome && PySem.W.typeIn K (.ref D) == some (.type "type")) = true := by rw [hc, ht] <;> rfl
  unfold PySem.W.kitOne
  split
  · rename_i e
    rcases hb with rfl | hb
    · rfl
    · rw [hb] at e; cases e
  · show (if ((PySem.W.clsIn K D).isSome && PySem.W.typeIn K (.ref D) == some (.type "type")) = true then PySem.W.subIn K (.ref C) (.ref D) else none) = some b
    rw [if_pos e2]
    exact h4
theorem kit_val {K : PySem.W.Frag} {C : Addr} (h4 : PySem.W.subIn K (.ref C) (.type "ValueError") = some true) : PySem.W.kitOne K (.ref C) (.type "ValueError") = some true := by
  have e : (Value.ref C == Value.type "ValueError") = false := rfl
  have e2 : PySem.W.kitMeta "ValueError" = true := by decide +kernel
  unfold PySem.W.kitOne
  rw [e, if_neg (by decide)]
  show (if PySem.W.kitMeta "ValueError" = true then PySem.W.subIn K (.ref C) (.type "ValueError") else none) = _
  rw [if_pos e2]
  exact h4
theorem bt_ValueError : bootBuiltins "ValueError" = some (.type "ValueError") := by decide +kernel
end DM

/-! DX3: in, not in, list.count, list.index; a < b < c as a test -/
namespace L2
open PySem PySem.Spec PyProof.Rows
section
variable {X : Cx}
end
end L2
namespace DM
open PySem PySem.Spec L2
/-! ### in, not in -/
section
variable {G : GT} {W : WX} {X : Cx} {a b c : Expr} {ma mb mc : ME} {pos : Pos} {k : Nat}
end
/-! ### methods of builtin types -/
abbrev FM := Store → RV → List RV → Option OV
def tyF (T : String) (S : Store) (x : RV) : Bool := match x with
  | .d (.str _) => T == "str"
  | .d (.int _) => T == "int"
  | x => T == "list" && (lstOf S x).isSome
open Classical in
noncomputable def eMt (T : String) (f : FM) (o : ME) (ms : List ME) : ME := fun es S => (o es S).bind fun x S1 => if tyF T S1 x.weak = true then (eArgs ms es S1).bind fun xs S2 => ofO (f S2 x.weak xs) S2 else .bad
section
variable {G : GT} {W : WX} {X : Cx} {o e : Expr} {as : List Expr} {mo : ME} {ms : List ME} {name : Str} {apos cpos : Pos} {T id : String} {r : V → List V → Hp → VK → Prop} {f : FM}
end
/-! ### list.count, list.index -/
section
variable {G : GT} {W : WX} {X : Cx} {o e : Expr} {as : List Expr} {mo : ME} {ms : List ME} {apos cpos : Pos} {k : Nat}
end
end DM

/-! DM12: plain laws. A mirror is run by rewriting: WR (an expression), WS (a statement), continuations by name. -/
namespace DM
open PySem PySem.Spec L2

theorem nr {T : Sort _} {a b : T} (h : a = b) : a = b := h
abbrev QX := Nat → List D → Store → Prop
def WR {T : Type} (r : Res T) (Q : T → Store → Prop) (X : QX) : Prop := match r with
  | .ok a S => Q a S
  | .ex c p S => X c p S
  | .bad => False
structure En where
  nx : Env → Store → Prop
  rt : RV → Store → Prop
  bk : Env → Store → Prop
  ct : Env → Store → Prop
  ex : Nat → List D → Env → Store → Prop
def WS (r : SR) (E : En) : Prop := match r with
  | .nx es S => E.nx es S
  | .rt r S => E.rt r S
  | .bk es S => E.bk es S
  | .ct es S => E.ct es S
  | .ex c p es S => E.ex c p es S
  | .bad => False
def QO (o : Option OV) (S : Store) (Q : RV → Store → Prop) : Prop := match o with
  | some ov => Q ov.rv S
  | none => False
def QV (o : Option Slot) (S : Store) (Q : RV → Store → Prop) : Prop := match o with
  | some (.v x) => Q (.d x) S
  | some (.own ds) => Q (.l false ds) S
  | some (.bor ds) => Q (.l false ds) S
  | _ => False
def QI (r : RV) (S : Store) (Q : D → Store → Prop) : Prop := match r with
  | .d x => Q x S
  | .l true ds => Q (.loc S.length) (S ++ [.lst ds])
  | .l false _ => False
def QA (o : Option D) (S : Store) (Q : RV → Store → Prop) : Prop := match o with
  | some d => Q (.d d) S
  | none => False
theorem WR_bind {T U : Type} {r : Res T} {f : T → Store → Res U} {Q : U → Store → Prop} {X : QX} : WR (r.bind f) Q X = WR r (fun a S => WR (f a S) Q X) X := by cases r <;> rfl
theorem WR_mono {T : Type} {r : Res T} {Q Q' : T → Store → Prop} {X X' : QX} (h : WR r Q X) (hq : ∀ a S, Q a S → Q' a S) (hx : ∀ c p S, X c p S → X' c p S) : WR r Q' X' := by
  cases r with
  | ok a S => exact hq _ _ h
  | ex c p S => exact hx _ _ _ h
  | bad => exact h.elim
theorem WR_ofO {o : Option OV} {S : Store} {Q : RV → Store → Prop} {X : QX} : WR (ofO o S) Q X = QO o S Q := by cases o <;> rfl
theorem WR_item {r : RV} {S : Store} {Q : D → Store → Prop} {X : QX} : WR (item r S) Q X = QI r S Q := by
  cases r with
  | d x => rfl
  | l f ds => cases f <;> rfl
theorem WS_bindS {T : Type} {r : Res T} {es : Env} {f : T → Store → SR} {E : En} : WS (bindS r es f) E = WR r (fun a S => WS (f a S) E) (fun c p S => E.ex c p es S) := by cases r <;> rfl
theorem QV_v {x : D} {S : Store} {Q : RV → Store → Prop} : QV (some (.v x)) S Q = Q (.d x) S := nr rfl
theorem QV_own {x : List D} {S : Store} {Q : RV → Store → Prop} : QV (some (.own x)) S Q = Q (.l false x) S := nr rfl
theorem QV_bor {x : List D} {S : Store} {Q : RV → Store → Prop} : QV (some (.bor x)) S Q = Q (.l false x) S := nr rfl
theorem QI_d {x : D} {S : Store} {Q : D → Store → Prop} : QI (.d x) S Q = Q x S := nr rfl
theorem QI_l {ds : List D} {S : Store} {Q : D → Store → Prop} : QI (.l true ds) S Q = Q (.loc S.length) (S ++ [.lst ds]) := nr rfl
theorem QO_d {x : D} {S : Store} {Q : RV → Store → Prop} : QO (some (.d x)) S Q = Q (.d x) S := nr rfl
theorem QO_l {x : List D} {S : Store} {Q : RV → Store → Prop} : QO (some (.l x)) S Q = Q (.l true x) S := nr rfl
theorem QO_ite {c : Prop} [Decidable c] {o : OV} {S : Store} {Q : RV → Store → Prop} : QO (if c then some o else none) S Q = (c ∧ QO (some o) S Q) := by
  by_cases h : c
  · rw [if_pos h]; exact propext ⟨fun q => ⟨h, q⟩, fun q => q.2⟩
  · rw [if_neg h]; exact propext ⟨fun q => q.elim, fun q => (h q.1).elim⟩
theorem QO_A {o : Option D} {S : Store} {Q : RV → Store → Prop} : QO (o.map OV.d) S Q = QA o S Q := by cases o <;> rfl
theorem QA_s {d : D} {S : Store} {Q : RV → Store → Prop} : QA (some d) S Q = Q (.d d) S := nr rfl

/-! expressions -/
section
variable {es : Env} {S : Store} {Q : RV → Store → Prop} {X : QX} {a b c m : ME} {ms : List ME} {f : F2} {g : F1} {h : FN} {t : MB}
theorem w_C {x : D} : WR (eC x es S) Q X = Q (.d x) S := nr rfl
theorem w_var {i : Nat} : WR (eVar i es S) Q X = QV es[i]? S Q := by
  unfold eVar QV
  cases es[i]? with
  | none => rfl
  | some s => cases s <;> rfl
def kA2 (f : F2) (b : ME) (es : Env) (Q : RV → Store → Prop) (X : QX) (x : RV) (S : Store) : Prop := WR (b es S) (fun y S2 => QO (f S2 x.weak y.weak) S2 Q) X
def kB2 (f : F2) (x : RV) (Q : RV → Store → Prop) (y : RV) (S : Store) : Prop := QO (f S x.weak y.weak) S Q
theorem kA2_e {x : RV} : kA2 f b es Q X x S = WR (b es S) (kB2 f x Q) X := nr rfl
theorem kB2_dd {x y : D} : kB2 f (.d x) Q (.d y) S = QO (f S (.d x) (.d y)) S Q := nr rfl
theorem kB2_ld {p : Bool} {x : List D} {y : D} : kB2 f (.l p x) Q (.d y) S = QO (f S (.l false x) (.d y)) S Q := nr rfl
theorem kB2_dl {p : Bool} {y : List D} {x : D} : kB2 f (.d x) Q (.l p y) S = QO (f S (.d x) (.l false y)) S Q := nr rfl
theorem kB2_ll {p q : Bool} {x y : List D} : kB2 f (.l p x) Q (.l q y) S = QO (f S (.l false x) (.l false y)) S Q := nr rfl
theorem w_op2 : WR (eOp2 f a b es S) Q X = WR (a es S) (kA2 f b es Q X) X := by
  unfold eOp2 kA2
  simp only [WR_bind, WR_ofO]
def kA1 (g : F1) (Q : RV → Store → Prop) (x : RV) (S : Store) : Prop := QO (g S x.weak) S Q
theorem kA1_d {x : D} : kA1 g Q (.d x) S = QO (g S (.d x)) S Q := nr rfl
theorem w_op1 : WR (eOp1 g a es S) Q X = WR (a es S) (kA1 g Q) X := by
  unfold eOp1 kA1
  simp only [WR_bind, WR_ofO]
def kArg2 (r : RV) (Q : List RV → Store → Prop) (rs : List RV) (S : Store) : Prop := Q (r.weak :: rs) S
def kArg (ms : List ME) (es : Env) (Q : List RV → Store → Prop) (X : QX) (r : RV) (S : Store) : Prop := WR (eArgs ms es S) (kArg2 r Q) X
theorem kArg_e {Q : List RV → Store → Prop} {r : RV} : kArg ms es Q X r S = WR (eArgs ms es S) (kArg2 r Q) X := nr rfl
theorem kArg2_d {Q : List RV → Store → Prop} {x : D} {rs : List RV} : kArg2 (.d x) Q rs S = Q (.d x :: rs) S := nr rfl
theorem kArg2_l {Q : List RV → Store → Prop} {p : Bool} {x : List D} {rs : List RV} : kArg2 (.l p x) Q rs S = Q (.l false x :: rs) S := nr rfl
theorem w_args0 {Q : List RV → Store → Prop} : WR (eArgs [] es S) Q X = Q [] S := nr rfl
theorem w_args {Q : List RV → Store → Prop} : WR (eArgs (m :: ms) es S) Q X = WR (m es S) (kArg ms es Q X) X := by
  show WR ((m es S).bind _) Q X = _
  simp only [WR_bind]
  rfl
def kOpN (h : FN) (Q : RV → Store → Prop) (rs : List RV) (S : Store) : Prop := QO (h S rs) S Q
theorem kOpN_e {rs : List RV} : kOpN h Q rs S = QO (h S rs) S Q := nr rfl
theorem w_opN : WR (eOpN h ms es S) Q X = WR (eArgs ms es S) (kOpN h Q) X := by
  unfold eOpN kOpN
  simp only [WR_bind, WR_ofO]
def kIt3 (d : D) (Q : List D → Store → Prop) (ds : List D) (S : Store) : Prop := Q (d :: ds) S
def kIt2 (ms : List ME) (es : Env) (Q : List D → Store → Prop) (X : QX) (d : D) (S : Store) : Prop := WR (eItems ms es S) (kIt3 d Q) X
def kIt (ms : List ME) (es : Env) (Q : List D → Store → Prop) (X : QX) (r : RV) (S : Store) : Prop := QI r S (kIt2 ms es Q X)
theorem kIt_e {Q : List D → Store → Prop} {r : RV} : kIt ms es Q X r S = QI r S (kIt2 ms es Q X) := nr rfl
theorem kIt2_e {Q : List D → Store → Prop} {d : D} : kIt2 ms es Q X d S = WR (eItems ms es S) (kIt3 d Q) X := nr rfl
theorem kIt3_e {Q : List D → Store → Prop} {d : D} {ds : List D} : kIt3 d Q ds S = Q (d :: ds) S := nr rfl
theorem w_items0 {Q : List D → Store → Prop} : WR (eItems [] es S) Q X = Q [] S := nr rfl
theorem w_items {Q : List D → Store → Prop} : WR (eItems (m :: ms) es S) Q X = WR (m es S) (kIt ms es Q X) X := by
  show WR (((m es S).bind item).bind _) Q X = _
  simp only [WR_bind, WR_item]
  rfl
def kTup (Q : RV → Store → Prop) (ds : List D) (S : Store) : Prop := ds.length ≤ sizeLine ∧ Q (.d (.tup ds)) S
def kLst (Q : RV → Store → Prop) (ds : List D) (S : Store) : Prop := ds.length ≤ sizeLine ∧ Q (.l true ds) S
theorem kTup_e {ds : List D} : kTup Q ds S = (ds.length ≤ sizeLine ∧ Q (.d (.tup ds)) S) := nr rfl
theorem kLst_e {ds : List D} : kLst Q ds S = (ds.length ≤ sizeLine ∧ Q (.l true ds) S) := nr rfl
theorem WR_ite {T : Type} {c : Prop} {hc : Decidable c} {r : Res T} {Q : T → Store → Prop} : WR (@ite _ c hc r .bad) Q X = (c ∧ WR r Q X) := by
  by_cases h : c
  · rw [if_pos h]; exact propext ⟨fun q => ⟨h, q⟩, fun q => q.2⟩
  · rw [if_neg h]; exact propext ⟨fun q => q.elim, fun q => (h q.1).elim⟩
theorem w_tup : WR (eTup ms es S) Q X = WR (eItems ms es S) (kTup Q) X := by
  unfold eTup kTup
  simp only [WR_bind, WR_ite]
  rfl
theorem w_lst : WR (eLst ms es S) Q X = WR (eItems ms es S) (kLst Q) X := by
  unfold eLst kLst
  simp only [WR_bind, WR_ite]
  rfl
/-! tests -/
def kB (Q : Bool → Store → Prop) (r : RV) (S : Store) : Prop := match r with
  | .d (.bl b) => Q b S
  | _ => False
theorem kB_e {Q : Bool → Store → Prop} {b : Bool} : kB Q (.d (.bl b)) S = Q b S := nr rfl
theorem w_bOf {Q : Bool → Store → Prop} : WR (bOf m es S) Q X = WR (m es S) (kB Q) X := by
  unfold bOf kB
  simp only [WR_bind]
  congr 1
  funext r S1
  cases r with
  | l _ _ => rfl
  | d x => cases x <;> rfl
def kAnd (t : MB) (es : Env) (Q : Bool → Store → Prop) (X : QX) (x : Bool) (S : Store) : Prop := if x = true then WR (t es S) Q X else Q false S
def kOr (t : MB) (es : Env) (Q : Bool → Store → Prop) (X : QX) (x : Bool) (S : Store) : Prop := if x = true then Q true S else WR (t es S) Q X
def kNot (Q : Bool → Store → Prop) (x : Bool) (S : Store) : Prop := Q (!x) S
theorem kAnd_t {Q : Bool → Store → Prop} : kAnd t es Q X true S = WR (t es S) Q X := nr rfl
theorem kAnd_f {Q : Bool → Store → Prop} : kAnd t es Q X false S = Q false S := nr rfl
theorem kOr_t {Q : Bool → Store → Prop} : kOr t es Q X true S = Q true S := nr rfl
theorem kOr_f {Q : Bool → Store → Prop} : kOr t es Q X false S = WR (t es S) Q X := nr rfl
theorem kNot_e {Q : Bool → Store → Prop} {x : Bool} : kNot Q x S = Q (!x) S := nr rfl
theorem w_bAnd {t u : MB} {Q : Bool → Store → Prop} : WR (bAnd t u es S) Q X = WR (t es S) (kAnd u es Q X) X := by
  unfold bAnd kAnd
  simp only [WR_bind]
  congr 1
  funext x S1
  cases x <;> rfl
theorem w_bOr {t u : MB} {Q : Bool → Store → Prop} : WR (bOr t u es S) Q X = WR (t es S) (kOr u es Q X) X := by
  unfold bOr kOr
  simp only [WR_bind]
  congr 1
  funext x S1
  cases x <;> rfl
theorem w_bNot {Q : Bool → Store → Prop} : WR (bNot t es S) Q X = WR (t es S) (kNot Q) X := by
  unfold bNot kNot
  simp only [WR_bind]
  rfl
theorem w_bYes {Q : Bool → Store → Prop} : WR (bYes es S) Q X = Q true S := nr rfl
theorem kOr_br {Q : Bool → Store → Prop} {x : Bool} (h1 : x = true → Q true S) (h2 : x = false → WR (t es S) Q X) : kOr t es Q X x S := by
  cases x with
  | true => exact h1 rfl
  | false => exact h2 rfl
/-! and, or, not as values -/
def kEAnd (b : ME) (es : Env) (Q : RV → Store → Prop) (X : QX) (x : Bool) (S : Store) : Prop := if x = true then WR (b es S) Q X else Q (.d (.bl false)) S
def kEOr (b : ME) (es : Env) (Q : RV → Store → Prop) (X : QX) (x : Bool) (S : Store) : Prop := if x = true then Q (.d (.bl true)) S else WR (b es S) Q X
def kENot (Q : RV → Store → Prop) (x : Bool) (S : Store) : Prop := Q (.d (.bl (!x))) S
theorem kEAnd_t : kEAnd b es Q X true S = WR (b es S) Q X := nr rfl
theorem kEAnd_f : kEAnd b es Q X false S = Q (.d (.bl false)) S := nr rfl
theorem kEOr_t : kEOr b es Q X true S = Q (.d (.bl true)) S := nr rfl
theorem kEOr_f : kEOr b es Q X false S = WR (b es S) Q X := nr rfl
theorem kENot_e {x : Bool} : kENot Q x S = Q (.d (.bl (!x))) S := nr rfl
theorem w_eAnd : WR (eAnd a b es S) Q X = WR (a es S) (kB (kEAnd b es Q X)) X := by
  unfold eAnd kB
  simp only [WR_bind]
  congr 1
  funext r S1
  split
  · rfl
  · rfl
  · rename_i h1 h2
    split
    · rename_i b
      cases b
      · exact absurd rfl h2
      · exact absurd rfl h1
    · rfl
theorem w_eOr : WR (eOr a b es S) Q X = WR (a es S) (kB (kEOr b es Q X)) X := by
  unfold eOr kB
  simp only [WR_bind]
  congr 1
  funext r S1
  split
  · rfl
  · rfl
  · rename_i h1 h2
    split
    · rename_i b
      cases b
      · exact absurd rfl h1
      · exact absurd rfl h2
    · rfl
theorem w_eNot : WR (eNot a es S) Q X = WR (a es S) (kB (kENot Q)) X := by
  unfold eNot kB
  simp only [WR_bind]
  congr 1
  funext r S1
  cases r with
  | l _ _ => rfl
  | d x => cases x <;> rfl
def kEIf (a b : ME) (es : Env) (Q : RV → Store → Prop) (X : QX) (x : Bool) (S : Store) : Prop := if x = true then WR (a es S) Q X else WR (b es S) Q X
theorem kEIf_t : kEIf a b es Q X true S = WR (a es S) Q X := nr rfl
theorem kEIf_f : kEIf a b es Q X false S = WR (b es S) Q X := nr rfl
theorem kEIf_br {x : Bool} (h1 : x = true → WR (a es S) Q X) (h2 : x = false → WR (b es S) Q X) : kEIf a b es Q X x S := by
  cases x with
  | true => exact h1 rfl
  | false => exact h2 rfl
theorem w_eIf : WR (eIf t a b es S) Q X = WR (t es S) (kEIf a b es Q X) X := by
  unfold eIf kEIf
  simp only [WR_bind]
  congr 1
  funext x S1
  cases x <;> rfl
/-! calls -/
def kCall (m : MF) (Q : RV → Store → Prop) (X : QX) (rs : List RV) (S : Store) : Prop := WR (okR (m rs S)) Q X
theorem kCall_e {m : MF} {rs : List RV} : kCall m Q X rs S = WR (okR (m rs S)) Q X := nr rfl
theorem w_call {m : MF} : WR (eCall m ms es S) Q X = WR (eArgs ms es S) (kCall m Q X) X := by
  unfold eCall kCall
  simp only [WR_bind]
theorem okR_d {x : D} : WR (okR (.ok (.d x) S)) Q X = Q (.d x) S := nr rfl
theorem okR_l {x : List D} : WR (okR (.ok (.l true x) S)) Q X = Q (.l true x) S := nr rfl
theorem okR_ex {n : Nat} {p : List D} : WR (okR (.ex n p S)) Q X = X n p S := nr rfl
/-! slices -/
def kPart2 (f : Option Int → Store → Prop) (r : RV) (S : Store) : Prop := match r with
  | .d (.int i) => f (some i) S
  | _ => False
theorem kPart2_e {f : Option Int → Store → Prop} {i : Int} : kPart2 f (.d (.int i)) S = f (some i) S := nr rfl
theorem w_part0 {Q : Option Int → Store → Prop} : WR (ePart none es S) Q X = Q none S := nr rfl
theorem w_part {Q : Option Int → Store → Prop} : WR (ePart (some m) es S) Q X = WR (m es S) (kPart2 Q) X := by
  unfold ePart kPart2
  simp only [WR_bind]
  congr 1
  funext r S1
  cases r with
  | l _ _ => rfl
  | d x => cases x <;> rfl
def kSl3 (r : RV) (lo : Option Int) (Q : RV → Store → Prop) (hi : Option Int) (S : Store) : Prop := QO (slF S r.weak lo hi) S Q
def kSl2 (r : RV) (hi : Option ME) (es : Env) (Q : RV → Store → Prop) (X : QX) (lo : Option Int) (S : Store) : Prop := WR (ePart hi es S) (kSl3 r lo Q) X
def kSl (lo hi : Option ME) (es : Env) (Q : RV → Store → Prop) (X : QX) (r : RV) (S : Store) : Prop := WR (ePart lo es S) (kSl2 r hi es Q X) X
theorem kSl3_d {x : D} {lo hi : Option Int} : kSl3 (.d x) lo Q hi S = QO (slF S (.d x) lo hi) S Q := nr rfl
theorem kSl3_l {p : Bool} {x : List D} {lo hi : Option Int} : kSl3 (.l p x) lo Q hi S = QO (slF S (.l false x) lo hi) S Q := nr rfl
theorem kSl2_e {r : RV} {hi : Option ME} {lo : Option Int} : kSl2 r hi es Q X lo S = WR (ePart hi es S) (kSl3 r lo Q) X := nr rfl
theorem kSl_e {r : RV} {lo hi : Option ME} : kSl lo hi es Q X r S = WR (ePart lo es S) (kSl2 r hi es Q X) X := nr rfl
theorem w_sl {lo hi : Option ME} : WR (eSl lo hi m es S) Q X = WR (m es S) (kSl lo hi es Q X) X := by
  unfold eSl kSl kSl2 kSl3
  simp only [WR_bind, WR_ofO]
/-! chains -/
def kCh2 (g : F2) (c : ME) (y : RV) (es : Env) (Q : RV → Store → Prop) (X : QX) (x : Bool) (S : Store) : Prop := if x = true then WR (c es S) (kB2 g y Q) X else Q (.d (.bl false)) S
def kCh1 (f g : F2) (c : ME) (x : RV) (es : Env) (Q : RV → Store → Prop) (X : QX) (y : RV) (S : Store) : Prop := kB2 f x (kB (kCh2 g c y es Q X)) y S
def kCh (f g : F2) (b c : ME) (es : Env) (Q : RV → Store → Prop) (X : QX) (x : RV) (S : Store) : Prop := WR (b es S) (kCh1 f g c x es Q X) X
theorem kCh_e {g : F2} {x : RV} : kCh f g b c es Q X x S = WR (b es S) (kCh1 f g c x es Q X) X := nr rfl
theorem kCh1_e {g : F2} {x y : RV} : kCh1 f g c x es Q X y S = kB2 f x (kB (kCh2 g c y es Q X)) y S := nr rfl
theorem kCh2_t {g : F2} {y : RV} : kCh2 g c y es Q X true S = WR (c es S) (kB2 g y Q) X := nr rfl
theorem kCh2_f {g : F2} {y : RV} : kCh2 g c y es Q X false S = Q (.d (.bl false)) S := nr rfl
theorem w_chain {g : F2} : WR (eChain f g a b c es S) Q X = WR (a es S) (kCh f g b c es Q X) X := by
  unfold eChain kCh kCh1 kCh2 kB2 QO
  simp only [WR_bind]
  congr 1
  funext x S1
  congr 1
  funext y S2
  cases f S2 x.weak y.weak with
  | none => rfl
  | some o =>
    cases o with
    | l _ => rfl
    | d d =>
      cases d <;> try rfl
      rename_i b
      cases b
      · rfl
      · show WR (Res.bind _ _) Q X = _
        simp only [WR_bind, WR_ofO]
        rfl
end
end DM

namespace DM
open PySem PySem.Spec L2

/-! ### statements by rewriting -/
def sCut (m : MS) : MS := m
def eCut (m : ME) : ME := m
def En.seq (E : En) (b : MS) : En := ⟨fun es S => WS (b es S) E, E.rt, E.bk, E.ct, E.ex⟩
def kX (es : Env) (E : En) (c : Nat) (p : List D) (S : Store) : Prop := E.ex c p es S
section
variable {es es0 : Env} {S : Store} {E : En} {a b : MS} {m mi : ME} {t : MB} {i k : Nat}
theorem seq_nx : (E.seq b).nx es S = WS (b es S) E := nr rfl
theorem seq_rt {r : RV} : (E.seq b).rt r S = E.rt r S := nr rfl
theorem seq_bk : (E.seq b).bk es S = E.bk es S := nr rfl
theorem seq_ct : (E.seq b).ct es S = E.ct es S := nr rfl
theorem seq_ex {c : Nat} {p : List D} : (E.seq b).ex c p es S = E.ex c p es S := nr rfl
/-- where a proof may be cut: the state behind by one word -/
def En.cut (E : En) (P : Env → Store → Prop) : En := ⟨P, E.rt, E.bk, E.ct, E.ex⟩
theorem cut_nx {P : Env → Store → Prop} : (E.cut P).nx es S = P es S := nr rfl
theorem cut_rt {P : Env → Store → Prop} {r : RV} : (E.cut P).rt r S = E.rt r S := nr rfl
theorem cut_bk {P : Env → Store → Prop} : (E.cut P).bk es S = E.bk es S := nr rfl
theorem cut_ct {P : Env → Store → Prop} : (E.cut P).ct es S = E.ct es S := nr rfl
theorem cut_ex {P : Env → Store → Prop} {c : Nat} {p : List D} : (E.cut P).ex c p es S = E.ex c p es S := nr rfl
theorem w_cut : WS (sCut a es S) E = WS (a es S) E := nr rfl
theorem w_ecut {Q : RV → Store → Prop} {X : QX} : WR (eCut m es S) Q X = WR (m es S) Q X := nr rfl
theorem kX_e {c : Nat} {p : List D} : kX es E c p S = E.ex c p es S := nr rfl
theorem w_seq : WS (sSeq a b es S) E = WS (a es S) (E.seq b) := by
  unfold sSeq
  cases a es S <;> rfl
theorem w_nop : WS (sNop es S) E = E.nx es S := nr rfl
theorem w_brk : WS (sBrk es S) E = E.bk es S := nr rfl
theorem w_cnt : WS (sCnt es S) E = E.ct es S := nr rfl
def kIf (a b : MS) (es : Env) (E : En) (x : Bool) (S : Store) : Prop := if x = true then WS (a es S) E else WS (b es S) E
theorem kIf_t : kIf a b es E true S = WS (a es S) E := nr rfl
theorem kIf_f : kIf a b es E false S = WS (b es S) E := nr rfl
theorem kIf_br {x : Bool} (h1 : x = true → WS (a es S) E) (h2 : x = false → WS (b es S) E) : kIf a b es E x S := by
  cases x with
  | true => exact h1 rfl
  | false => exact h2 rfl
theorem w_if : WS (sIf t a b es S) E = WR (t es S) (kIf a b es E) (kX es E) := by
  unfold sIf kIf kX
  rw [WS_bindS]
  congr 1
  funext x S1
  cases x <;> rfl
def kRet (E : En) (r : RV) (S : Store) : Prop := match r with
  | .l false _ => False
  | r => E.rt r S
theorem kRet_d {x : D} : kRet E (.d x) S = E.rt (.d x) S := nr rfl
theorem kRet_l {x : List D} : kRet E (.l true x) S = E.rt (.l true x) S := nr rfl
theorem w_ret : WS (sRet m es S) E = WR (m es S) (kRet E) (kX es E) := by
  unfold sRet kRet kX
  rw [WS_bindS]
  congr 1
  funext r S1
  cases r with
  | d _ => rfl
  | l f _ => cases f <;> rfl
theorem w_retN : WS (sRetN es S) E = E.rt (.d .non) S := nr rfl
def QRV (o : Option Slot) (S : Store) (E : En) : Prop := match o with
  | some (.v x) => E.rt (.d x) S
  | some (.own ds) => E.rt (.l true ds) S
  | _ => False
theorem QRV_v {x : D} : QRV (some (.v x)) S E = E.rt (.d x) S := nr rfl
theorem QRV_own {x : List D} : QRV (some (.own x)) S E = E.rt (.l true x) S := nr rfl
theorem w_retV : WS (sRetV i es S) E = QRV es[i]? S E := by
  unfold sRetV QRV
  cases es[i]? with
  | none => rfl
  | some s => cases s <;> rfl
def kDrop (es : Env) (E : En) (_ : RV) (S : Store) : Prop := E.nx es S
theorem kDrop_e {r : RV} : kDrop es E r S = E.nx es S := nr rfl
theorem w_drop : WS (sDrop m es S) E = WR (m es S) (kDrop es E) (kX es E) := by
  unfold sDrop kDrop kX
  rw [WS_bindS]
  rfl
def kSet (i : Nat) (es : Env) (E : En) (r : RV) (S : Store) : Prop := match r with
  | .d x => E.nx (es.set i (.v x)) S
  | .l true ds => E.nx (es.set i (.own ds)) S
  | .l false _ => False
theorem kSet_d {x : D} : kSet i es E (.d x) S = E.nx (es.set i (.v x)) S := nr rfl
theorem kSet_l {x : List D} : kSet i es E (.l true x) S = E.nx (es.set i (.own x)) S := nr rfl
theorem w_set : WS (sSet i m es S) E = WR (m es S) (kSet i es E) (kX es E) := by
  unfold sSet kSet kX
  rw [WS_bindS]
  congr 1
  funext r S1
  cases r with
  | d _ => rfl
  | l f _ => cases f <;> rfl
def kSetS (i : Nat) (es : Env) (E : En) (r : RV) (S : Store) : Prop := QI r S fun x S1 => E.nx (es.set i (.v x)) S1
theorem kSetS_d {x : D} : kSetS i es E (.d x) S = E.nx (es.set i (.v x)) S := nr rfl
theorem kSetS_l {x : List D} : kSetS i es E (.l true x) S = E.nx (es.set i (.v (.loc S.length))) (S ++ [.lst x]) := nr rfl
theorem w_setS : WS (sSetS i m es S) E = WR (m es S) (kSetS i es E) (kX es E) := by
  unfold sSetS kSetS kX
  rw [WS_bindS]
  simp only [WR_bind, WR_item]
  rfl
def QMv (o : Option Slot) (i j : Nat) (es : Env) (S : Store) (E : En) : Prop := match o with
  | some (.own ds) => E.nx ((es.set j .no).set i (.own ds)) S
  | _ => False
theorem QMv_e {ds : List D} {j : Nat} : QMv (some (.own ds)) i j es S E = E.nx ((es.set j .no).set i (.own ds)) S := nr rfl
theorem w_move {j : Nat} : WS (sMove i j es S) E = QMv es[j]? i j es S E := by
  unfold sMove QMv
  cases es[j]? with
  | none => rfl
  | some s => cases s <;> rfl
/-! targets -/
def QG (o : Option Env) (S : Store) (E : En) : Prop := match o with
  | some es => E.nx es S
  | none => False
theorem QG_e : QG (some es) S E = E.nx es S := nr rfl
theorem tg_name {x : D} : tgName i x es = some (es.set i (.v x)) := nr rfl
theorem tg_tup {n : Nat} {gs : MGs} {ds : List D} : tgTup n gs (.tup ds) es = if ds.length = n then gs ds es else none := nr rfl
theorem tg_tup1 {gs : MGs} {x : D} : tgTup 1 gs (.tup [x]) es = gs [x] es := nr rfl
theorem tg_tup2 {gs : MGs} {x y : D} : tgTup 2 gs (.tup [x, y]) es = gs [x, y] es := nr rfl
theorem tg_tup3 {gs : MGs} {x y z : D} : tgTup 3 gs (.tup [x, y, z]) es = gs [x, y, z] es := nr rfl
theorem tg_tup4 {gs : MGs} {x y z u : D} : tgTup 4 gs (.tup [x, y, z, u]) es = gs [x, y, z, u] es := nr rfl
theorem tg_nil : tgNil [] es = some es := nr rfl
theorem tg_cons {g : MG} {gs : MGs} {d : D} {ds : List D} : tgCons g gs (d :: ds) es = (g d es).bind fun es1 => gs ds es1 := nr rfl
theorem ob_some {T U : Type} {a : T} {f : T → Option U} : (some a).bind f = f a := nr rfl
def kAsg (g : MG) (es : Env) (E : En) (r : RV) (S : Store) : Prop := QI r S fun x S1 => QG (g x es) S1 E
theorem kAsg_d {g : MG} {x : D} : kAsg g es E (.d x) S = QG (g x es) S E := nr rfl
theorem w_asg {g : MG} : WS (sAsg g m es S) E = WR (m es S) (kAsg g es E) (kX es E) := by
  unfold sAsg kAsg kX QG
  rw [WS_bindS]
  simp only [WR_bind, WR_item]
  congr 1
  funext r S1
  congr 1
  funext x S2
  cases g x es <;> rfl
def kPar (i j : Nat) (es : Env) (E : En) (ds : List D) (S : Store) : Prop := match ds with
  | [x, y] => E.nx ((es.set i (.v x)).set j (.v y)) S
  | _ => False
theorem kPar_e {j : Nat} {x y : D} : kPar i j es E [x, y] S = E.nx ((es.set i (.v x)).set j (.v y)) S := nr rfl
theorem w_par {j : Nat} {ms : List ME} : WS (sPar i j ms es S) E = WR (eItems ms es S) (kPar i j es E) (kX es E) := by
  unfold sPar kPar kX
  rw [WS_bindS]
  congr 1
  funext ds S1
  match ds with
  | [] => rfl
  | [_] => rfl
  | [_, _] => rfl
  | _ :: _ :: _ :: _ => rfl
/-! a[i] = e -/
def kSixN (o : Option Nat) (ds : List D) (k : Nat) (x : D) (es : Env) (E : En) (S : Store) : Prop := match o with
  | some j => E.nx (es.set k (.own (ds.set j x))) S
  | none => False
def kSixL (o : Option Nat) (ds : List D) (l : Nat) (x : D) (es : Env) (E : En) (S : Store) : Prop := match o with
  | some j => E.nx es (S.set l (.lst (ds.set j x)))
  | none => False
theorem kSixN_e {j : Nat} {ds : List D} {x : D} : kSixN (some j) ds k x es E S = E.nx (es.set k (.own (ds.set j x))) S := nr rfl
theorem kSixL_e {j l : Nat} {ds : List D} {x : D} : kSixL (some j) ds l x es E S = E.nx es (S.set l (.lst (ds.set j x))) := nr rfl
def QSt (o : Option O) (n : Int) (l : Nat) (x : D) (es : Env) (E : En) (S : Store) : Prop := match o with
  | some (.lst ds) => kSixL (ixN ds.length n) ds l x es E S
  | _ => False
theorem QSt_e {ds : List D} {n : Int} {l : Nat} {x : D} : QSt (some (.lst ds)) n l x es E S = kSixL (ixN ds.length n) ds l x es E S := nr rfl
def kSixO (ds : List D) (k : Nat) (x : D) (es : Env) (E : En) (r : RV) (S : Store) : Prop := match r with
  | .d (.int n) => kSixN (ixN ds.length n) ds k x es E S
  | _ => False
def kSixT (l : Nat) (x : D) (es : Env) (E : En) (r : RV) (S : Store) : Prop := match r with
  | .d (.int n) => QSt S[l]? n l x es E S
  | _ => False
theorem kSixO_e {ds : List D} {x : D} {n : Int} : kSixO ds k x es E (.d (.int n)) S = kSixN (ixN ds.length n) ds k x es E S := nr rfl
theorem kSixT_e {l : Nat} {x : D} {n : Int} : kSixT l x es E (.d (.int n)) S = QSt S[l]? n l x es E S := nr rfl
def QSix (o : Option Slot) (k : Nat) (mi : ME) (es : Env) (x : D) (S : Store) (E : En) : Prop := match o with
  | some (.own ds) => WR (mi es S) (kSixO ds k x es E) (kX es E)
  | some (.v (.loc l)) => WR (mi es S) (kSixT l x es E) (kX es E)
  | _ => False
theorem QSix_o {ds : List D} {x : D} : QSix (some (.own ds)) k mi es x S E = WR (mi es S) (kSixO ds k x es E) (kX es E) := nr rfl
theorem QSix_l {l : Nat} {x : D} : QSix (some (.v (.loc l))) k mi es x S E = WR (mi es S) (kSixT l x es E) (kX es E) := nr rfl
def kSix (k : Nat) (mi : ME) (es : Env) (E : En) (r : RV) (S : Store) : Prop := QI r S fun x S1 => QSix es[k]? k mi es x S1 E
theorem kSix_d {x : D} : kSix k mi es E (.d x) S = QSix es[k]? k mi es x S E := nr rfl
theorem kSix_l {x : List D} : kSix k mi es E (.l true x) S = QSix es[k]? k mi es (.loc S.length) (S ++ [.lst x]) E := nr rfl
theorem w_setix : WS (sSetIx k mi m es S) E = WR (m es S) (kSix k mi es E) (kX es E) := by
  unfold sSetIx kSix kX
  rw [WS_bindS]
  simp only [WR_bind, WR_item]
  congr 1
  funext r S1
  congr 1
  funext x S2
  unfold QSix
  cases es[k]? with
  | none => rfl
  | some s =>
    cases s with
    | no => rfl
    | bor _ => rfl
    | own ds =>
      show WS (bindS _ _ _) E = _
      rw [WS_bindS]
      show WR _ _ _ = WR _ _ _
      congr 1
      funext r S3
      cases r with
      | l _ _ => rfl
      | d y =>
        cases y <;> try rfl
        rename_i n
        show WS (match ixN ds.length n with | some j => _ | none => _) E = kSixN _ _ _ _ _ _ _
        cases ixN ds.length n <;> rfl
    | v y =>
      cases y <;> try rfl
      rename_i l
      show WS (bindS _ _ _) E = _
      rw [WS_bindS]
      show WR _ _ _ = WR _ _ _
      congr 1
      funext r S3
      cases r with
      | l _ _ => rfl
      | d y =>
        cases y <;> try rfl
        rename_i n
        show WS (match S3[l]? with | some (.lst ds) => (match ixN ds.length n with | some j => _ | none => _) | _ => _) E = QSt _ _ _ _ _ _ _
        cases S3[l]? with
        | none => rfl
        | some o =>
          cases o <;> try rfl
          rename_i ds
          show WS (match ixN ds.length n with | some j => _ | none => _) E = kSixL _ _ _ _ _ _ _
          cases ixN ds.length n <;> rfl
/-! append, extend -/
def kAppO (ds : List D) (k : Nat) (es : Env) (E : En) (r : RV) (S : Store) : Prop := QI r S fun x S1 => ds.length < sizeLine ∧ E.nx (es.set k (.own (ds ++ [x]))) S1
theorem kAppO_d {ds : List D} {x : D} : kAppO ds k es E (.d x) S = (ds.length < sizeLine ∧ E.nx (es.set k (.own (ds ++ [x]))) S) := nr rfl
theorem kAppO_l {ds : List D} {x : List D} : kAppO ds k es E (.l true x) S = (ds.length < sizeLine ∧ E.nx (es.set k (.own (ds ++ [.loc S.length]))) (S ++ [.lst x])) := nr rfl
def QAppT (o : Option O) (l : Nat) (x : D) (es : Env) (E : En) (S : Store) : Prop := match o with
  | some (.lst ds) => ds.length < sizeLine ∧ E.nx es (S.set l (.lst (ds ++ [x])))
  | _ => False
theorem QAppT_e {ds : List D} {l : Nat} {x : D} : QAppT (some (.lst ds)) l x es E S = (ds.length < sizeLine ∧ E.nx es (S.set l (.lst (ds ++ [x])))) := nr rfl
def kAppT (l : Nat) (es : Env) (E : En) (r : RV) (S : Store) : Prop := QI r S fun x S1 => QAppT S1[l]? l x es E S1
theorem kAppT_d {l : Nat} {x : D} : kAppT l es E (.d x) S = QAppT S[l]? l x es E S := nr rfl
theorem kAppT_l {l : Nat} {x : List D} : kAppT l es E (.l true x) S = QAppT (S ++ [.lst x])[l]? l (.loc S.length) es E (S ++ [.lst x]) := nr rfl
def QApp (o : Option Slot) (k : Nat) (m : ME) (es : Env) (S : Store) (E : En) : Prop := match o with
  | some (.own ds) => WR (m es S) (kAppO ds k es E) (kX es E)
  | some (.v (.loc l)) => (∃ ds, S[l]? = some (.lst ds)) ∧ WR (m es S) (kAppT l es E) (kX es E)
  | _ => False
theorem QApp_o {ds : List D} : QApp (some (.own ds)) k m es S E = WR (m es S) (kAppO ds k es E) (kX es E) := nr rfl
theorem QApp_l {l : Nat} : QApp (some (.v (.loc l))) k m es S E = ((∃ ds, S[l]? = some (.lst ds)) ∧ WR (m es S) (kAppT l es E) (kX es E)) := nr rfl
theorem WS_ite {c : Prop} {hc : Decidable c} {r : SR} : WS (@ite _ c hc r .bad) E = (c ∧ WS r E) := by
  by_cases h : c
  · rw [if_pos h]; exact propext ⟨fun q => ⟨h, q⟩, fun q => q.2⟩
  · rw [if_neg h]; exact propext ⟨fun q => q.elim, fun q => (h q.1).elim⟩
theorem w_app : WS (sApp k m es S) E = QApp es[k]? k m es S E := by
  unfold sApp QApp
  cases es[k]? with
  | none => rfl
  | some s =>
    cases s with
    | no => rfl
    | bor _ => rfl
    | own ds =>
      show WS (bindS _ _ _) E = _
      rw [WS_bindS]
      simp only [WR_bind, WR_item, WS_ite]
      rfl
    | v y =>
      cases y <;> try rfl
      rename_i l
      show WS (match S[l]? with | some (.lst _) => _ | _ => _) E = (_ ∧ _)
      cases e : S[l]? with
      | none => exact propext ⟨fun q => q.elim, fun ⟨⟨_, z⟩, _⟩ => by cases z⟩
      | some o =>
        cases o with
        | dic _ => exact propext ⟨fun q => q.elim, fun ⟨⟨_, z⟩, _⟩ => by cases z⟩
        | ins _ _ => exact propext ⟨fun q => q.elim, fun ⟨⟨_, z⟩, _⟩ => by cases z⟩
        | obj _ _ => exact propext ⟨fun q => q.elim, fun ⟨⟨_, z⟩, _⟩ => by cases z⟩
        | lst d0 =>
          show WS (bindS _ _ _) E = _
          rw [WS_bindS]
          simp only [WR_bind, WR_item]
          refine (propext ⟨fun q => ⟨⟨_, rfl⟩, ?_⟩, fun q => ?_⟩)
          · refine WR_mono q (fun r S1 h => ?_) fun _ _ _ h => h
            unfold kAppT
            have e2 : (fun a S => WS (match S[l]? with | some (O.lst ds) => @ite _ (ds.length < sizeLine) _ (SR.nx es (S.set l (O.lst (ds ++ [a])))) SR.bad | _ => SR.bad) E) = fun x S1 => QAppT S1[l]? l x es E S1 := by
              funext x S2
              unfold QAppT
              cases S2[l]? with
              | none => rfl
              | some o => cases o <;> first | rfl | exact WS_ite
            rw [← e2]
            exact h
          · refine WR_mono q.2 (fun r S1 h => ?_) fun _ _ _ h => h
            unfold kAppT at h
            have e2 : (fun a S => WS (match S[l]? with | some (O.lst ds) => @ite _ (ds.length < sizeLine) _ (SR.nx es (S.set l (O.lst (ds ++ [a])))) SR.bad | _ => SR.bad) E) = fun x S1 => QAppT S1[l]? l x es E S1 := by
              funext x S2
              unfold QAppT
              cases S2[l]? with
              | none => rfl
              | some o => cases o <;> first | rfl | exact WS_ite
            rw [← e2] at h
            exact h
def kExtO (ds : List D) (k : Nat) (es : Env) (E : En) (r : RV) (S : Store) : Prop := match lstOf S r.weak with
  | some ys => ds.length + ys.length ≤ sizeLine ∧ E.nx (es.set k (.own (ds ++ ys))) S
  | none => False
theorem kExtO_l {ds ys : List D} {p : Bool} : kExtO ds k es E (.l p ys) S = (ds.length + ys.length ≤ sizeLine ∧ E.nx (es.set k (.own (ds ++ ys))) S) := nr rfl
def QExt (o : Option Slot) (k : Nat) (m : ME) (es : Env) (S : Store) (E : En) : Prop := match o with
  | some (.own ds) => WR (m es S) (kExtO ds k es E) (kX es E)
  | _ => False
theorem QExt_o {ds : List D} : QExt (some (.own ds)) k m es S E = WR (m es S) (kExtO ds k es E) (kX es E) := nr rfl
end
end DM

namespace DM
open PySem PySem.Spec L2

/-! ### what is walked -/
section
variable {es es0 : Env} {S : Store} {E : En} {a b : MS} {m n : ME} {i : Nat} {X : QX}
abbrev QM := List D × SK → Store → Prop
abbrev QMI := List D × (Store → Prop) → Store → Prop
def QSL (o : Option O) (n : Nat) (S : Store) (Q : QM) : Prop := match o with
  | some (.lst ds) => Q (ds, .s n) S
  | _ => False
def QS (x : D) (S : Store) (Q : QM) : Prop := match x with
  | .tup ds => Q (ds, .t) S
  | .loc n => QSL S[n]? n S Q
  | _ => False
theorem QS_t {ds : List D} {Q : QM} : QS (.tup ds) S Q = Q (ds, .t) S := nr rfl
theorem QS_l {n : Nat} {Q : QM} : QS (.loc n) S Q = QSL S[n]? n S Q := nr rfl
theorem QSL_e {n : Nat} {ds : List D} {Q : QM} : QSL (some (.lst ds)) n S Q = Q (ds, .s n) S := nr rfl
theorem WR_ofSeq {x : D} {Q : QM} : WR (ofSeq x S) Q X = QS x S Q := by
  cases x <;> try rfl
  rename_i n
  show WR (match S[n]? with | some (.lst ds) => _ | _ => _) Q X = QSL S[n]? n S Q
  cases S[n]? with
  | none => rfl
  | some o => cases o <;> rfl
def QQ (o : Option Slot) (S : Store) (Q : QM) : Prop := match o with
  | some (.bor ds) => Q (ds, .p) S
  | some (.v x) => QS x S Q
  | _ => False
theorem QQ_b {ds : List D} {Q : QM} : QQ (some (.bor ds)) S Q = Q (ds, .p) S := nr rfl
theorem QQ_v {x : D} {Q : QM} : QQ (some (.v x)) S Q = QS x S Q := nr rfl
theorem w_qVar {Q : QM} : WR (qVar i es S) Q X = QQ es[i]? S Q := by
  unfold qVar QQ
  cases es[i]? with
  | none => rfl
  | some s => cases s <;> first | rfl | exact WR_ofSeq
def kQE (Q : QM) (r : RV) (S : Store) : Prop := match r with
  | .l true ds => Q (ds, .p) S
  | .d x => QS x S Q
  | _ => False
theorem kQE_l {ds : List D} {Q : QM} : kQE Q (.l true ds) S = Q (ds, .p) S := nr rfl
theorem kQE_d {x : D} {Q : QM} : kQE Q (.d x) S = QS x S Q := nr rfl
theorem w_qE {Q : QM} : WR (qE m es S) Q X = WR (m es S) (kQE Q) X := by
  unfold qE kQE
  rw [WR_bind]
  congr 1
  funext r S1
  cases r with
  | d x => exact WR_ofSeq
  | l f _ => cases f <;> rfl
def kQC (Q : QM) (r : RV) (S : Store) : Prop := match r with
  | .l _ ds => Q (ds, .p) S
  | .d x => QS x S Q
theorem kQC_l {p : Bool} {ds : List D} {Q : QM} : kQC Q (.l p ds) S = Q (ds, .p) S := nr rfl
theorem kQC_d {x : D} {Q : QM} : kQC Q (.d x) S = QS x S Q := nr rfl
theorem w_qC {Q : QM} : WR (qC m es S) Q X = WR (m es S) (kQC Q) X := by
  unfold qC kQC
  rw [WR_bind]
  congr 1
  funext r S1
  cases r with
  | d x => exact WR_ofSeq
  | l f _ => rfl
def kSeq (Q : QMI) (x : List D × SK) (S : Store) : Prop := Q (x.1, chk x.2 x.1) S
theorem kSeq_e {ds : List D} {k : SK} {Q : QMI} : kSeq Q (ds, k) S = Q (ds, chk k ds) S := nr rfl
theorem w_miSeq {q : MQ} {Q : QMI} : WR (miSeq q es S) Q X = WR (q es S) (kSeq Q) X := by
  unfold miSeq
  rw [WR_bind]
  rfl
def kRev (Q : QMI) (x : List D × SK) (S : Store) : Prop := Q (x.1.reverse, chk x.2 x.1) S
theorem kRev_e {ds : List D} {k : SK} {Q : QMI} : kRev Q (ds, k) S = Q (ds.reverse, chk k ds) S := nr rfl
theorem w_miRev {q : MQ} {Q : QMI} : WR (miRev q es S) Q X = WR (q es S) (kRev Q) X := by
  unfold miRev
  rw [WR_bind]
  rfl
def kEnum (Q : QMI) (x : List D × SK) (S : Store) : Prop := isT x.2 = false ∧ Q (enumD x.1, chk x.2 x.1) S
theorem kEnum_e {ds : List D} {k : SK} {Q : QMI} : kEnum Q (ds, k) S = (isT k = false ∧ Q (enumD ds, chk k ds) S) := nr rfl
theorem w_miEnum {q : MQ} {Q : QMI} : WR (miEnum q es S) Q X = WR (q es S) (kEnum Q) X := by
  unfold miEnum
  simp only [WR_bind, WR_ite]
  rfl
def kZip2 (x : List D × SK) (Q : QMI) (y : List D × SK) (S : Store) : Prop := (isT x.2 = isT y.2 ∧ chk x.2 x.1 S) ∧ Q (zipD x.1 y.1, fun S => chk x.2 x.1 S ∧ chk y.2 y.1 S) S
def kZip (q : MQ) (es : Env) (Q : QMI) (X : QX) (x : List D × SK) (S : Store) : Prop := WR (q es S) (kZip2 x Q) X
theorem kZip_e {q : MQ} {x : List D × SK} {Q : QMI} : kZip q es Q X x S = WR (q es S) (kZip2 x Q) X := nr rfl
theorem kZip2_e {ds ds' : List D} {k k' : SK} {Q : QMI} : kZip2 (ds, k) Q (ds', k') S = ((isT k = isT k' ∧ chk k ds S) ∧ Q (zipD ds ds', fun S => chk k ds S ∧ chk k' ds' S) S) := nr rfl
theorem w_miZip {p q : MQ} {Q : QMI} : WR (miZip p q es S) Q X = WR (p es S) (kZip q es Q X) X := by
  unfold miZip
  simp only [WR_bind, WR_ite]
  rfl
def rngD (n : Nat) : List D := (List.range n).map fun (i : Nat) => D.int (i : Int)
def rngD2 (a : Int) (n : Nat) : List D := (List.range n).map fun (i : Nat) => D.int (a + (i : Int))
def rngD3 (a c : Int) (n : Nat) : List D := (List.range n).map fun (i : Nat) => D.int (a + (i : Int) * c)
def kR1 (Q : QMI) (rs : List RV) (S : Store) : Prop := match rs with
  | [.d (.int n)] => (-(2 ^ 62) ≤ n ∧ n < 2 ^ 62) ∧ Q (rngD n.toNat, fun _ => True) S
  | _ => False
theorem kR1_e {z : Int} {Q : QMI} : kR1 Q [.d (.int z)] S = ((-(2 ^ 62) ≤ z ∧ z < 2 ^ 62) ∧ Q (rngD z.toNat, fun _ => True) S) := nr rfl
theorem w_miRng1 {Q : QMI} : WR (miRng1 m es S) Q X = WR (eArgs [m] es S) (kR1 Q) X := by
  unfold miRng1
  rw [WR_bind]
  congr 1
  funext rs S1
  split
  · rw [WR_ite]; rfl
  · rename_i h
    match rs with
    | [] => rfl
    | [.l _ _] => rfl
    | [.d x] => cases x <;> first | rfl | exact (h _ rfl).elim
    | r :: _ :: _ =>
      cases r with
      | l _ _ => rfl
      | d x => cases x <;> rfl
def kR2 (Q : QMI) (rs : List RV) (S : Store) : Prop := match rs with
  | [.d (.int a), .d (.int b)] => (-(2 ^ 62) ≤ a ∧ a < 2 ^ 62 ∧ -(2 ^ 62) ≤ b ∧ b < 2 ^ 62) ∧ Q (rngD2 a (b - a).toNat, fun _ => True) S
  | _ => False
theorem kR2_e {y z : Int} {Q : QMI} : kR2 Q [.d (.int y), .d (.int z)] S = ((-(2 ^ 62) ≤ y ∧ y < 2 ^ 62 ∧ -(2 ^ 62) ≤ z ∧ z < 2 ^ 62) ∧ Q (rngD2 y (z - y).toNat, fun _ => True) S) := nr rfl
def kR3 (Q : QMI) (rs : List RV) (S : Store) : Prop := match rs with
  | [.d (.int a), .d (.int b), .d (.int c)] => RgC a b c (Builtin.Range.rangeSize a b c).toNat ∧ Q (rngD3 a c (Builtin.Range.rangeSize a b c).toNat, fun _ => True) S
  | _ => False
theorem kR3_e {x y z : Int} {Q : QMI} : kR3 Q [.d (.int x), .d (.int y), .d (.int z)] S = (RgC x y z (Builtin.Range.rangeSize x y z).toNat ∧ Q (rngD3 x z (Builtin.Range.rangeSize x y z).toNat, fun _ => True) S) := nr rfl
theorem rngD_get {n j : Nat} {x : D} (h : (rngD n)[j]? = some x) : x = .int j ∧ j < n := by
  unfold rngD at h
  rw [List.getElem?_map] at h
  cases e : (List.range n)[j]? with
  | none => rw [e] at h; cases h
  | some k =>
    rw [e] at h
    have hl := (List.getElem?_eq_some_iff.mp e).1
    rw [List.length_range] at hl
    rw [List.getElem?_range hl] at e
    cases e
    exact ⟨(Option.some.inj h).symm, hl⟩
theorem rngD_len {n : Nat} : (rngD n).length = n := by simp [rngD]
theorem rngD2_len {a : Int} {n : Nat} : (rngD2 a n).length = n := by simp [rngD2]
theorem chk_t {ds : List D} : chk .t ds S = True := nr rfl
theorem chk_p {ds : List D} : chk .p ds S = True := nr rfl
theorem chk_s {k : Nat} {ds : List D} : chk (.s k) ds S = (S[k]? = some (.lst ds)) := nr rfl
theorem isT_t : isT .t = true := nr rfl
theorem isT_p : isT .p = false := nr rfl
theorem isT_s {k : Nat} : isT (.s k) = false := nr rfl

/-! ### for -/
def kFor (g : MG) (b : MS) (es : Env) (E : En) (x : List D × (Store → Prop)) (S : Store) : Prop := WS (forL x.2 g b x.1 es S) E
theorem w_for {mi : MI} {g : MG} : WS (sFor mi g b es S) E = WR (mi es S) (kFor g b es E) (kX es E) := by
  unfold sFor kFor kX
  rw [WS_bindS]
def En.lp (E : En) (I : Env → Store → Prop) : En := ⟨I, E.rt, E.nx, I, E.ex⟩
theorem lp_nx {I : Env → Store → Prop} : (E.lp I).nx es S = I es S := nr rfl
theorem lp_rt {I : Env → Store → Prop} {r : RV} : (E.lp I).rt r S = E.rt r S := nr rfl
theorem lp_bk {I : Env → Store → Prop} : (E.lp I).bk es S = E.nx es S := nr rfl
theorem lp_ct {I : Env → Store → Prop} : (E.lp I).ct es S = I es S := nr rfl
theorem lp_ex {I : Env → Store → Prop} {c : Nat} {p : List D} : (E.lp I).ex c p es S = E.ex c p es S := nr rfl
theorem forL_inv {ck : Store → Prop} {g : MG} {ds : List D} (I : Nat → Env → Store → Prop) (hck : ∀ i es S, I i es S → ck S)
    (step : ∀ i x es S, ds[i]? = some x → I i es S → ∃ es1, g x es = some es1 ∧ WS (b es1 S) (E.lp (I (i + 1)))) (fin : ∀ es S, I ds.length es S → E.nx es S) :
    ∀ (xs : List D) (i : Nat) (es : Env) (S : Store), i + xs.length = ds.length → (∀ j, xs[j]? = ds[i + j]?) → I i es S → WS (forL ck g b xs es S) E
  | [], i, es, S, hl, _, h => by
    show WS (@ite _ (ck S) (Classical.propDecidable _) _ _) E
    rw [WS_ite]
    have e : i = ds.length := hl
    subst e
    exact ⟨hck _ _ _ h, fin _ _ h⟩
  | x :: xs, i, es, S, hl, hj, h => by
    show WS (@ite _ (ck S) (Classical.propDecidable _) _ _) E
    rw [WS_ite]
    refine ⟨hck _ _ _ h, ?_⟩
    obtain ⟨es1, e1, w⟩ := step i x es S ((hj 0).symm.trans rfl) h
    rw [e1]
    have ih : ∀ es S, I (i + 1) es S → WS (forL ck g b xs es S) E := fun es S q =>
      forL_inv I hck step fin xs (i + 1) es S (by simp at hl; omega) (fun j => by have := hj (j + 1); simp at this; rw [this]; congr 1; omega) q
    show WS (match b es1 S with | .nx es2 S2 => _ | .ct es2 S2 => _ | .bk es2 S2 => _ | r => r) E
    cases z : b es1 S with
    | nx es2 S2 => rw [z] at w; exact ih _ _ w
    | ct es2 S2 => rw [z] at w; exact ih _ _ w
    | bk es2 S2 => rw [z] at w; exact w
    | rt r S2 => rw [z] at w; exact w
    | ex c p es2 S2 => rw [z] at w; exact w
    | bad => rw [z] at w; exact w.elim
/-- a for loop, by what holds ahead of turn i -/
theorem for_inv {ck : Store → Prop} {g : MG} {ds : List D} (I : Nat → Env → Store → Prop) (h0 : I 0 es S) (hck : ∀ i es S, I i es S → ck S)
    (step : ∀ i x es S, ds[i]? = some x → I i es S → ∃ es1, g x es = some es1 ∧ WS (b es1 S) (E.lp (I (i + 1)))) (fin : ∀ es S, I ds.length es S → E.nx es S) : kFor g b es E (ds, ck) S :=
  forL_inv I hck step fin ds 0 es S (by simp) (fun j => by simp) h0
def En.fl (E : En) (ck : Store → Prop) (g : MG) (b : MS) (xs : List D) : En := ⟨fun es S => WS (forL ck g b xs es S) E, E.rt, E.nx, fun es S => WS (forL ck g b xs es S) E, E.ex⟩
def En.fb (E : En) (ck : Store → Prop) (g : MG) (b : MS) (xs : List D) : En := ⟨fun es S => WS (b es S) (E.fl ck g b xs), E.rt, E.bk, E.ct, E.ex⟩
theorem fb_nx {ck : Store → Prop} {g : MG} {xs : List D} : (E.fb ck g b xs).nx es S = WS (b es S) (E.fl ck g b xs) := nr rfl
theorem fl_nx {ck : Store → Prop} {g : MG} {xs : List D} : (E.fl ck g b xs).nx es S = WS (forL ck g b xs es S) E := nr rfl
theorem fl_ct {ck : Store → Prop} {g : MG} {xs : List D} : (E.fl ck g b xs).ct es S = WS (forL ck g b xs es S) E := nr rfl
theorem fl_bk {ck : Store → Prop} {g : MG} {xs : List D} : (E.fl ck g b xs).bk es S = E.nx es S := nr rfl
theorem fl_rt {ck : Store → Prop} {g : MG} {xs : List D} {r : RV} : (E.fl ck g b xs).rt r S = E.rt r S := nr rfl
theorem fl_ex {ck : Store → Prop} {g : MG} {xs : List D} {c : Nat} {p : List D} : (E.fl ck g b xs).ex c p es S = E.ex c p es S := nr rfl
/-! ### an own list lent for a loop -/
def frzQ (o : Option Slot) (i : Nat) (es : Env) : Env := match o with
  | some (.own ds) => es.set i (.bor ds)
  | _ => es
theorem frzS_e : frzS i es = frzQ es[i]? i es := nr rfl
theorem frzQ_o {ds : List D} : frzQ (some (.own ds)) i es = es.set i (.bor ds) := nr rfl
theorem frzQ_v {x : D} : frzQ (some (.v x)) i es = es := nr rfl
theorem frzQ_b {ds : List D} : frzQ (some (.bor ds)) i es = es := nr rfl
theorem frzQ_n : frzQ (some .no) i es = es := nr rfl
def unfQ (o o' : Option Slot) (i : Nat) (es : Env) : Env := match o, o' with
  | some (.own ds), some (.bor _) => es.set i (.own ds)
  | _, _ => es
theorem unfS_e : unfS i es0 es = unfQ es0[i]? es[i]? i es := nr rfl
theorem unfQ_o {ds ds' : List D} : unfQ (some (.own ds)) (some (.bor ds')) i es = es.set i (.own ds) := nr rfl
theorem unfQ_v {x : D} {o : Option Slot} : unfQ (some (.v x)) o i es = es := nr rfl
theorem unfQ_b {ds : List D} {o : Option Slot} : unfQ (some (.bor ds)) o i es = es := nr rfl
theorem unfQ_n {o : Option Slot} : unfQ (some .no) o i es = es := nr rfl
def En.unf (E : En) (i : Nat) (es0 : Env) : En := ⟨fun es S => E.nx (unfS i es0 es) S, E.rt, fun es S => E.bk (unfS i es0 es) S, fun es S => E.ct (unfS i es0 es) S, fun c p es S => E.ex c p (unfS i es0 es) S⟩
theorem unf_nx : (E.unf i es0).nx es S = E.nx (unfS i es0 es) S := nr rfl
theorem unf_rt {r : RV} : (E.unf i es0).rt r S = E.rt r S := nr rfl
theorem unf_bk : (E.unf i es0).bk es S = E.bk (unfS i es0 es) S := nr rfl
theorem unf_ct : (E.unf i es0).ct es S = E.ct (unfS i es0 es) S := nr rfl
theorem unf_ex {c : Nat} {p : List D} : (E.unf i es0).ex c p es S = E.ex c p (unfS i es0 es) S := nr rfl
theorem w_frz : WS (sFrz i a es S) E = WS (a (frzS i es) S) (E.unf i es) := by
  unfold sFrz
  cases a (frzS i es) S <;> rfl
/-! ### comprehensions -/
theorem WR_noEx {T : Type} {r : Res T} {Q : T → Store → Prop} (h : WR r Q fun _ _ _ => False) : WR (noEx r) Q X := by
  cases r with
  | ok _ _ => exact h
  | ex _ _ _ => exact h.elim
  | bad => exact h
abbrev XF : QX := fun _ _ _ => False
def kComp (g : MG) (t : MB) (m : ME) (vs : List Nat) (es : Env) (Q : RV → Store → Prop) (X : QX) (x : List D × (Store → Prop)) (S : Store) : Prop :=
  x.1.length ≤ sizeLine ∧ WR (noEx (compL x.2 g t m (wipeE es vs) x.1 S)) (fun ds S2 => Q (.l true ds) S2) X
theorem w_comp {mi : MI} {g : MG} {t : MB} {vs : List Nat} {Q : RV → Store → Prop} : WR (eComp mi g t m vs es S) Q X = WR (mi es S) (kComp g t m vs es Q X) X := by
  unfold eComp kComp
  simp only [WR_bind, WR_ite]
  rfl
theorem compL_inv {ck : Store → Prop} {g : MG} {t : MB} {ds : List D} (I : Nat → List D → Store → Prop) (hck : ∀ i ys S, I i ys S → ck S)
    (step : ∀ i x ys S, ds[i]? = some x → I i ys S → ∃ es1, g x es = some es1 ∧ WR (t es1 S) (fun x S1 => (x = true → WR (m es1 S1) (fun r S2 => QI r S2 fun d S3 => I (i + 1) (ys ++ [d]) S3) XF) ∧ (x = false → I (i + 1) ys S1)) XF) :
    ∀ (xs : List D) (i : Nat) (ys : List D) (S : Store), i + xs.length = ds.length → (∀ j, xs[j]? = ds[i + j]?) → I i ys S → WR (compL ck g t m es xs S) (fun zs S1 => I ds.length (ys ++ zs) S1) XF
  | [], i, ys, S, hl, _, h => by
    show WR (@ite _ (ck S) (Classical.propDecidable _) _ _) _ _
    rw [WR_ite]
    have e : i = ds.length := hl
    subst e
    exact ⟨hck _ _ _ h, (by rw [List.append_nil]; exact h : I ds.length (ys ++ []) S)⟩
  | x :: xs, i, ys, S, hl, hj, h => by
    show WR (@ite _ (ck S) (Classical.propDecidable _) _ _) _ _
    rw [WR_ite]
    refine ⟨hck _ _ _ h, ?_⟩
    obtain ⟨es1, e1, w⟩ := step i x ys S ((hj 0).symm.trans rfl) h
    rw [e1]
    show WR (Res.bind _ _) _ _
    rw [WR_bind]
    refine WR_mono w (fun b S1 q => ?_) fun _ _ _ h => h
    have ih := fun ys S q => compL_inv I hck step xs (i + 1) ys S (by simp at hl; omega) (fun j => by have := hj (j + 1); simp at this; rw [this]; congr 1; omega) q
    cases b with
    | false => exact ih ys S1 (q.2 rfl)
    | true =>
      show WR (Res.bind _ _) _ _
      simp only [WR_bind, WR_item]
      refine WR_mono (q.1 rfl) (fun r S2 q => ?_) fun _ _ _ h => h
      cases r with
      | l f _ =>
        cases f with
        | false => exact q.elim
        | true => exact WR_mono (ih _ _ q) (fun zs S3 z => by rw [List.append_assoc] at z; exact z) fun _ _ _ h => h
      | d d => exact WR_mono (ih _ _ q) (fun zs S3 z => by rw [List.append_assoc] at z; exact z) fun _ _ _ h => h
/-- a comprehension, by what holds ahead of turn i: ys are what is there -/
theorem comp_inv {ck : Store → Prop} {g : MG} {t : MB} {ds : List D} {vs : List Nat} {Q : RV → Store → Prop} (I : Nat → List D → Store → Prop) (hl : ds.length ≤ sizeLine) (h0 : I 0 [] S) (hck : ∀ i ys S, I i ys S → ck S)
    (step : ∀ i x ys S, ds[i]? = some x → I i ys S → ∃ es1, g x (wipeE es vs) = some es1 ∧ WR (t es1 S) (fun x S1 => (x = true → WR (m es1 S1) (fun r S2 => QI r S2 fun d S3 => I (i + 1) (ys ++ [d]) S3) XF) ∧ (x = false → I (i + 1) ys S1)) XF)
    (fin : ∀ ys S, I ds.length ys S → Q (.l true ys) S) : kComp g t m vs es Q X (ds, ck) S :=
  ⟨hl, WR_noEx (WR_mono (compL_inv I hck step ds 0 [] S (by simp) (fun j => by simp) h0) (fun zs S1 q => fin _ _ q) fun _ _ _ h => h)⟩
/-- the store stays: a filter, and a value each -/
theorem comp_pure {ck : Store → Prop} {g : MG} {t : MB} {ds : List D} {vs : List Nat} {Q : RV → Store → Prop} (p : D → Bool) (f : D → D) (hl : ds.length ≤ sizeLine) (hck : ck S)
    (step : ∀ (i : Nat) x, ds[i]? = some x → ∃ es1, g x (wipeE es vs) = some es1 ∧ WR (t es1 S) (fun y S1 => y = p x ∧ S1 = S) XF ∧ (p x = true → WR (m es1 S) (fun r S1 => r = .d (f x) ∧ S1 = S) XF))
    (fin : Q (.l true ((ds.filter p).map f)) S) : kComp g t m vs es Q X (ds, ck) S := by
  refine comp_inv (fun i ys S1 => S1 = S ∧ ys = ((ds.take i).filter p).map f) hl ⟨rfl, by simp⟩ (fun i ys S1 h => h.1 ▸ hck) (fun i x ys S1 hx h => ?_) (fun ys S1 h => ?_)
  · obtain ⟨rfl, rfl⟩ := h
    obtain ⟨es1, e1, ht, hm⟩ := step i x hx
    have tk : ds.take (i + 1) = ds.take i ++ [x] := by
      rw [List.take_succ, hx]; rfl
    refine ⟨es1, e1, WR_mono ht (fun y S2 h => ?_) fun _ _ _ h => h⟩
    obtain ⟨rfl, rfl⟩ := h
    refine ⟨fun hp => WR_mono (hm hp) (fun r S3 h => ?_) (fun _ _ _ h => h), fun hp => ⟨rfl, ?_⟩⟩
    · obtain ⟨rfl, rfl⟩ := h
      refine ⟨rfl, ?_⟩
      rw [tk, List.filter_append, List.map_append]
      simp [hp]
    · rw [tk, List.filter_append, List.map_append]
      simp [hp]
  · obtain ⟨rfl, rfl⟩ := h
    rw [List.take_length]
    exact fin
theorem comp_map {ck : Store → Prop} {g : MG} {ds : List D} {vs : List Nat} {Q : RV → Store → Prop} (f : D → D) (hl : ds.length ≤ sizeLine) (hck : ck S)
    (step : ∀ (i : Nat) x, ds[i]? = some x → ∃ es1, g x (wipeE es vs) = some es1 ∧ WR (m es1 S) (fun r S1 => r = .d (f x) ∧ S1 = S) XF)
    (fin : Q (.l true (ds.map f)) S) : kComp g bYes m vs es Q X (ds, ck) S :=
  comp_pure (fun _ => true) f hl hck (fun i x hx => let ⟨es1, e1, h⟩ := step i x hx; ⟨es1, e1, ⟨rfl, rfl⟩, fun _ => h⟩) (by rw [List.filter_eq_self.mpr (fun _ _ => rfl)]; exact fin)
end

/-! ### functions -/
section
variable {S : Store} {Q : RV → Store → Prop} {X : QX} {rs : List RV} {m n k : Nat} {b : MS}
def EnF (Q : RV → Store → Prop) (X : QX) : En := ⟨fun _ S => Q (.d .non) S, fun r S => match r with
  | .l false _ => False
  | r => Q r S, fun _ _ => False, fun _ _ => False, fun c p _ S => X c p S⟩
theorem EnF_nx {es : Env} : (EnF Q X).nx es S = Q (.d .non) S := nr rfl
theorem EnF_d {x : D} : (EnF Q X).rt (.d x) S = Q (.d x) S := nr rfl
theorem EnF_l {x : List D} : (EnF Q X).rt (.l true x) S = Q (.l true x) S := nr rfl
theorem EnF_ex {es : Env} {c : Nat} {p : List D} : (EnF Q X).ex c p es S = X c p S := nr rfl
theorem fun_w (h : WS (b (startE k rs) S) (EnF Q X)) (hl : rs.length = n := by rfl) : WR (okR (mFun n k b rs S)) Q X := by
  unfold mFun
  rw [if_pos hl]
  cases e : b (startE k rs) S with
  | nx es S' => rw [e] at h; exact h
  | rt r S' =>
    rw [e] at h
    cases r with
    | d x => exact h
    | l f x =>
      cases f with
      | true => exact h
      | false => exact h.elim
  | bk es S' => rw [e] at h; exact h.elim
  | ct es S' => rw [e] at h; exact h.elim
  | ex c p es S' => rw [e] at h; exact h
  | bad => rw [e] at h; exact h.elim
end
theorem startE_1 {k : Nat} {a : RV} : startE (k + 1) [a] = slotOf a :: List.replicate k .no := nr rfl
theorem startE_2 {k : Nat} {a b : RV} : startE (k + 2) [a, b] = slotOf a :: slotOf b :: List.replicate k .no := nr rfl
theorem startE_3 {k : Nat} {a b c : RV} : startE (k + 3) [a, b, c] = slotOf a :: slotOf b :: slotOf c :: List.replicate k .no := nr rfl
theorem startE_4 {k : Nat} {a b c d : RV} : startE (k + 4) [a, b, c, d] = slotOf a :: slotOf b :: slotOf c :: slotOf d :: List.replicate k .no := nr rfl
theorem slot_d {x : D} : slotOf (.d x) = .v x := nr rfl
theorem slot_f {x : List D} : slotOf (.l false x) = .bor x := nr rfl
end DM

namespace DM
open PySem PySem.Spec L2

/-! ### the operations at their arguments -/
open Classical in
noncomputable def gd (c : Prop) (o : OV) : Option OV := if c then some o else none
theorem gd_of {c : Prop} {hc : Decidable c} {o : OV} : @ite _ c hc (some o) none = gd c o := by
  unfold gd
  by_cases h : c
  · rw [if_pos h, if_pos h]
  · rw [if_neg h, if_neg h]
theorem QO_gd {c : Prop} {o : OV} {S : Store} {Q : RV → Store → Prop} : QO (gd c o) S Q = (c ∧ QO (some o) S Q) := by
  unfold gd
  by_cases h : c
  · rw [if_pos h]; exact propext ⟨fun q => ⟨h, q⟩, fun q => q.2⟩
  · rw [if_neg h]; exact propext ⟨fun q => q.elim, fun q => (h q.1).elim⟩
section
variable {S : Store} {i j : Int} {x y : Str} {xs ys : List D} {p q : Bool}
theorem add_ii : addF S (.d (.int i)) (.d (.int j)) = some (.d (.int (i + j))) := nr rfl
theorem add_ss : addF S (.d (.str x)) (.d (.str y)) = gd (x.length + y.length ≤ sizeLine) (.d (.str (x ++ y))) := gd_of
theorem add_tt : addF S (.d (.tup xs)) (.d (.tup ys)) = gd (xs.length + ys.length ≤ sizeLine) (.d (.tup (xs ++ ys))) := gd_of
theorem add_ll : addF S (.l p xs) (.l q ys) = gd (xs.length + ys.length ≤ sizeLine) (.l (xs ++ ys)) := gd_of
theorem sub_ii : subF S (.d (.int i)) (.d (.int j)) = some (.d (.int (i - j))) := nr rfl
theorem mul_ii : mulF S (.d (.int i)) (.d (.int j)) = gd (CMul i j ∨ CMulW i j) (.d (.int (i * j))) := gd_of
theorem mul_li : mulF S (.l p xs) (.d (.int j)) = gd (-(2 ^ 63) ≤ j ∧ j < 2 ^ 63 ∧ xs.length * j.toNat ≤ sizeLine) (.l (repL j.toNat xs)) := gd_of
theorem div_ii : fdivF S (.d (.int i)) (.d (.int j)) = gd (CDivW i j) (.d (.int (i / j))) := gd_of
theorem mod_ii : modF S (.d (.int i)) (.d (.int j)) = gd (0 < j) (.d (.int (i % j))) := gd_of
theorem pow_ii : powF S (.d (.int i)) (.d (.int j)) = gd (CPow i j) (.d (.int (i ^ j.toNat))) := gd_of
theorem shl_ii : shlF S (.d (.int i)) (.d (.int j)) = gd (CPow i j) (.d (.int (i * 2 ^ j.toNat))) := gd_of
theorem shr_ii : shrF S (.d (.int i)) (.d (.int j)) = gd (0 ≤ j) (.d (.int (i / 2 ^ j.toNat))) := gd_of
theorem lt_ii : ltF S (.d (.int i)) (.d (.int j)) = some (.d (.bl (decide (i < j)))) := nr rfl
theorem le_ii : leF S (.d (.int i)) (.d (.int j)) = some (.d (.bl (decide (i ≤ j)))) := nr rfl
theorem gt_ii : gtF S (.d (.int i)) (.d (.int j)) = some (.d (.bl (decide (j < i)))) := nr rfl
theorem ge_ii : geF S (.d (.int i)) (.d (.int j)) = some (.d (.bl (decide (j ≤ i)))) := nr rfl
theorem neg_i : negF S (.d (.int i)) = some (.d (.int (-i))) := nr rfl
theorem and_ii : andF S (.d (.int i)) (.d (.int j)) = some (.d (.int (Builtin.bitAnd i j))) := nr rfl
theorem or_ii : orF S (.d (.int i)) (.d (.int j)) = some (.d (.int (Builtin.bitOr i j))) := nr rfl
theorem xor_ii : xorF S (.d (.int i)) (.d (.int j)) = some (.d (.int (Builtin.bitXor i j))) := nr rfl
theorem is_n {r : RV} : isF S r (.d .non) = some (.d (.bl (isNon r))) := nr rfl
theorem isnt_n {r : RV} : isntF S r (.d .non) = some (.d (.bl (!isNon r))) := nr rfl
theorem isNon_n : isNon (.d .non) = true := nr rfl
theorem isNon_b : isNon (.d (.bl p)) = false := nr rfl
theorem isNon_i : isNon (.d (.int i)) = false := nr rfl
theorem isNon_s : isNon (.d (.str x)) = false := nr rfl
theorem isNon_t : isNon (.d (.tup xs)) = false := nr rfl
theorem isNon_o {n : Nat} : isNon (.d (.loc n)) = false := nr rfl
theorem isNon_l : isNon (.l p xs) = false := nr rfl
theorem isNon_e {c : Nat} {ps : List D} : isNon (.d (.exn c ps)) = false := nr rfl
def lstO (o : Option O) : Option (List D) := match o with
  | some (.lst ds) => some ds
  | _ => none
theorem lstO_e : lstO (some (.lst xs)) = some xs := nr rfl
theorem lstOf_l : lstOf S (.l p xs) = some xs := nr rfl
theorem lstOf_o {n : Nat} : lstOf S (.d (.loc n)) = lstO S[n]? := nr rfl
theorem om_some {T U : Type} {a : T} {f : T → U} : (some a).map f = some (f a) := nr rfl
theorem ix_t : ixF S (.d (.tup xs)) (.d (.int i)) = (atI xs i).map OV.d := nr rfl
theorem ix_s : ixF S (.d (.str x)) (.d (.int i)) = if x.length ≤ sizeLine then (atI x.cps.toList i).map fun c => OV.d (.str ⟨#[c]⟩) else none := nr rfl
theorem ix_l : ixF S (.l p xs) (.d (.int i)) = (atI xs i).map OV.d := nr rfl
theorem ix_o {n : Nat} : ixF S (.d (.loc n)) (.d (.int i)) = (lstO S[n]?).bind fun ds => (atI ds i).map OV.d := nr rfl
theorem len_s : lenF S [.d (.str x)] = gd (x.length ≤ sizeLine) (.d (.int (x.length : Nat))) := gd_of
theorem len_t : lenF S [.d (.tup xs)] = some (.d (.int (xs.length : Nat))) := nr rfl
theorem len_l : lenF S [.l p xs] = some (.d (.int (xs.length : Nat))) := nr rfl
theorem len_o {n : Nat} : lenF S [.d (.loc n)] = (lstO S[n]?).map fun ds => .d (.int (ds.length : Nat)) := nr rfl
theorem intsOf_map : ∀ ns : List Int, intsOf (ns.map D.int) = some ns
  | [] => rfl
  | n :: r => by show (intsOf (r.map D.int)).map _ = _; rw [intsOf_map r]; rfl
theorem blsOf_map : ∀ ns : List Bool, blsOf (ns.map D.bl) = some ns
  | [] => rfl
  | n :: r => by show (blsOf (r.map D.bl)).map _ = _; rw [blsOf_map r]; rfl
theorem sum_l : sumF S [.l p xs] = (intsOf xs).bind fun ns => some (.d (.int ns.sum)) := nr rfl
theorem all_l : allF S [.l p xs] = (blsOf xs).bind fun ns => some (.d (.bl (ns.all id))) := nr rfl
theorem any_l : anyF S [.l p xs] = (blsOf xs).bind fun ns => some (.d (.bl (ns.any id))) := nr rfl
theorem max_ii : maxF S [.d (.int i), .d (.int j)] = some (.d (.int (if j > i then j else i))) := nr rfl
theorem min_ii : minF S [.d (.int i), .d (.int j)] = some (.d (.int (if j < i then j else i))) := nr rfl
theorem max_l : maxF S [.l p xs] = (intsOf xs).bind fun ns => gd (ns ≠ []) (.d (.int (maxI ns))) := by
  show (intsOf xs).bind _ = _
  congr 1
  funext ns
  show (if ns = [] then none else some _) = _
  unfold gd
  by_cases h : ns = []
  · rw [if_pos h, if_neg (fun z => z h)]
  · rw [if_neg h, if_pos h]
theorem min_l : minF S [.l p xs] = (intsOf xs).bind fun ns => gd (ns ≠ []) (.d (.int (minI ns))) := by
  show (intsOf xs).bind _ = _
  congr 1
  funext ns
  show (if ns = [] then none else some _) = _
  unfold gd
  by_cases h : ns = []
  · rw [if_pos h, if_neg (fun z => z h)]
  · rw [if_neg h, if_pos h]
theorem tup_t : tupF S [.d (.tup xs)] = some (.d (.tup xs)) := nr rfl
theorem tup_l : tupF S [.l p xs] = some (.d (.tup xs)) := nr rfl
theorem tup_o {n : Nat} : tupF S [.d (.loc n)] = (lstO S[n]?).map fun ds => .d (.tup ds) := nr rfl
theorem list_t : listF S [.d (.tup xs)] = some (.l xs) := nr rfl
theorem list_l : listF S [.l p xs] = some (.l xs) := nr rfl
theorem list_o {n : Nat} : listF S [.d (.loc n)] = (lstO S[n]?).map fun ds => .l ds := nr rfl
theorem int_i : intF S [.d (.int i)] = some (.d (.int i)) := nr rfl
theorem int_b : intF S [.d (.bl p)] = some (.d (.int (if p = true then 1 else 0))) := by cases p <;> rfl
theorem str_i : strF S [.d (.int i)] = gd (i.natAbs.log2 < 1920) (.d (.str (toString i))) := gd_of
theorem sl_t {lo hi : Option Int} : slF S (.d (.tup xs)) lo hi = some (.d (.tup (cutL xs lo hi))) := nr rfl
theorem sl_l {lo hi : Option Int} : slF S (.l p xs) lo hi = some (.l (cutL xs lo hi)) := nr rfl
theorem sl_s {ns : List Int} {lo hi : Option Int} : slF S (.d (.scr ns)) lo hi = some (.l ((cutL ns lo hi).map D.int)) := nr rfl
theorem eq_ii : eqF S (.d (.int i)) (.d (.int j)) = some (.d (.bl (decide (i = j)))) := by
  have e : eqF S (.d (.int i)) (.d (.int j)) = some (OV.d (D.bl (PyData.eqv (.int i) (.int j)))) := rfl
  rw [e]
  congr 3
theorem ne_ii : neF S (.d (.int i)) (.d (.int j)) = some (.d (.bl (!decide (i = j)))) := by
  have e : neF S (.d (.int i)) (.d (.int j)) = some (OV.d (D.bl (!PyData.eqv (.int i) (.int j)))) := rfl
  rw [e]
  congr 3
theorem eq_bb : eqF S (.d (.bl p)) (.d (.bl q)) = some (.d (.bl (p == q))) := by
  cases p <;> cases q <;> rfl
theorem ne_bb : neF S (.d (.bl p)) (.d (.bl q)) = some (.d (.bl (!(p == q)))) := by
  cases p <;> cases q <;> rfl
theorem isi_non_int : isiF S [.d .non, .d (.ty "int")] = some (.d (.bl false)) := nr rfl
theorem isi_non_bool : isiF S [.d .non, .d (.ty "bool")] = some (.d (.bl false)) := nr rfl
theorem isi_non_str : isiF S [.d .non, .d (.ty "str")] = some (.d (.bl false)) := nr rfl
theorem isi_non_tuple : isiF S [.d .non, .d (.ty "tuple")] = some (.d (.bl false)) := nr rfl
theorem isi_non_list : isiF S [.d .non, .d (.ty "list")] = some (.d (.bl false)) := nr rfl
theorem isi_non_tl : isiF S [.d .non, .d (.tup [.ty "tuple", .ty "list"])] = some (.d (.bl false)) := nr rfl
theorem isi_bl_int {b : Bool} : isiF S [.d (.bl b), .d (.ty "int")] = some (.d (.bl true)) := nr rfl
theorem isi_bl_bool {b : Bool} : isiF S [.d (.bl b), .d (.ty "bool")] = some (.d (.bl true)) := nr rfl
theorem isi_bl_str {b : Bool} : isiF S [.d (.bl b), .d (.ty "str")] = some (.d (.bl false)) := nr rfl
theorem isi_bl_tuple {b : Bool} : isiF S [.d (.bl b), .d (.ty "tuple")] = some (.d (.bl false)) := nr rfl
theorem isi_bl_list {b : Bool} : isiF S [.d (.bl b), .d (.ty "list")] = some (.d (.bl false)) := nr rfl
theorem isi_bl_tl {b : Bool} : isiF S [.d (.bl b), .d (.tup [.ty "tuple", .ty "list"])] = some (.d (.bl false)) := nr rfl
theorem isi_int_int {i : Int} : isiF S [.d (.int i), .d (.ty "int")] = some (.d (.bl true)) := nr rfl
theorem isi_int_bool {i : Int} : isiF S [.d (.int i), .d (.ty "bool")] = some (.d (.bl false)) := nr rfl
theorem isi_int_str {i : Int} : isiF S [.d (.int i), .d (.ty "str")] = some (.d (.bl false)) := nr rfl
theorem isi_int_tuple {i : Int} : isiF S [.d (.int i), .d (.ty "tuple")] = some (.d (.bl false)) := nr rfl
theorem isi_int_list {i : Int} : isiF S [.d (.int i), .d (.ty "list")] = some (.d (.bl false)) := nr rfl
theorem isi_int_tl {i : Int} : isiF S [.d (.int i), .d (.tup [.ty "tuple", .ty "list"])] = some (.d (.bl false)) := nr rfl
theorem isi_str_int {x : Str} : isiF S [.d (.str x), .d (.ty "int")] = some (.d (.bl false)) := nr rfl
theorem isi_str_bool {x : Str} : isiF S [.d (.str x), .d (.ty "bool")] = some (.d (.bl false)) := nr rfl
theorem isi_str_str {x : Str} : isiF S [.d (.str x), .d (.ty "str")] = some (.d (.bl true)) := nr rfl
theorem isi_str_tuple {x : Str} : isiF S [.d (.str x), .d (.ty "tuple")] = some (.d (.bl false)) := nr rfl
theorem isi_str_list {x : Str} : isiF S [.d (.str x), .d (.ty "list")] = some (.d (.bl false)) := nr rfl
theorem isi_str_tl {x : Str} : isiF S [.d (.str x), .d (.tup [.ty "tuple", .ty "list"])] = some (.d (.bl false)) := nr rfl
theorem isi_tup_int {ds : List D} : isiF S [.d (.tup ds), .d (.ty "int")] = some (.d (.bl false)) := nr rfl
theorem isi_tup_bool {ds : List D} : isiF S [.d (.tup ds), .d (.ty "bool")] = some (.d (.bl false)) := nr rfl
theorem isi_tup_str {ds : List D} : isiF S [.d (.tup ds), .d (.ty "str")] = some (.d (.bl false)) := nr rfl
theorem isi_tup_tuple {ds : List D} : isiF S [.d (.tup ds), .d (.ty "tuple")] = some (.d (.bl true)) := nr rfl
theorem isi_tup_list {ds : List D} : isiF S [.d (.tup ds), .d (.ty "list")] = some (.d (.bl false)) := nr rfl
theorem isi_tup_tl {ds : List D} : isiF S [.d (.tup ds), .d (.tup [.ty "tuple", .ty "list"])] = some (.d (.bl true)) := nr rfl
theorem isi_l_int {p : Bool} {ds : List D} : isiF S [.l p ds, .d (.ty "int")] = some (.d (.bl false)) := nr rfl
theorem isi_l_bool {p : Bool} {ds : List D} : isiF S [.l p ds, .d (.ty "bool")] = some (.d (.bl false)) := nr rfl
theorem isi_l_str {p : Bool} {ds : List D} : isiF S [.l p ds, .d (.ty "str")] = some (.d (.bl false)) := nr rfl
theorem isi_l_tuple {p : Bool} {ds : List D} : isiF S [.l p ds, .d (.ty "tuple")] = some (.d (.bl false)) := nr rfl
theorem isi_l_list {p : Bool} {ds : List D} : isiF S [.l p ds, .d (.ty "list")] = some (.d (.bl true)) := nr rfl
theorem isi_l_tl {p : Bool} {ds : List D} : isiF S [.l p ds, .d (.tup [.ty "tuple", .ty "list"])] = some (.d (.bl true)) := nr rfl
/-! the store -/
theorem st_self {n : Nat} {o : O} (h : S[n]? = some o) (x : O) : (S.set n x)[n]? = some x := by
  have := (List.getElem?_eq_some_iff.mp h).1
  rw [List.getElem?_set_self this]
theorem st_ne {n k : Nat} (h : n ≠ k) (x : O) : (S.set n x)[k]? = S[k]? := List.getElem?_set_ne h
theorem st_new {o : O} : (S ++ [o])[S.length]? = some o := by simp
theorem st_old {n : Nat} {o o' : O} (h : S[n]? = some o) : (S ++ [o'])[n]? = some o := by
  have := (List.getElem?_eq_some_iff.mp h).1
  rw [List.getElem?_append_left this, h]
/-! places -/
theorem ixN_int {n : Nat} {i : Int} (h : 0 ≤ i) (h2 : i < n) : ixN n i = some i.toNat := by
  unfold ixN
  rw [if_pos h, if_pos h2]
theorem ixN_00 {n : Nat} : ixN (n + 1) 0 = some 0 := by
  unfold ixN
  rw [if_pos (by decide), if_pos (by omega)]
  rfl
theorem ixN_1 {n : Nat} : ixN (n + 2) 1 = some 1 := by
  unfold ixN
  rw [if_pos (by decide), if_pos (by omega)]
  rfl
theorem ixN_2 {n : Nat} : ixN (n + 3) 2 = some 2 := by
  unfold ixN
  rw [if_pos (by decide), if_pos (by omega)]
  rfl
theorem ixN_3 {n : Nat} : ixN (n + 4) 3 = some 3 := by
  unfold ixN
  rw [if_pos (by decide), if_pos (by omega)]
  rfl
theorem atI_0 {a : D} : atI (a :: xs) 0 = some a := by unfold atI; rw [List.length_cons, ixN_00]; rfl
theorem atI_1 {a b : D} : atI (a :: b :: xs) 1 = some b := by unfold atI; rw [List.length_cons, List.length_cons, ixN_1]; rfl
theorem atI_2 {a b c : D} : atI (a :: b :: c :: xs) 2 = some c := by unfold atI; rw [List.length_cons, List.length_cons, List.length_cons, ixN_2]; rfl
theorem atI_3 {a b c d : D} : atI (a :: b :: c :: d :: xs) 3 = some d := by unfold atI; rw [List.length_cons, List.length_cons, List.length_cons, List.length_cons, ixN_3]; rfl
theorem atI_int {T : Type} {l : List T} {i : Int} (h : 0 ≤ i) (h2 : i < l.length) : atI l i = l[i.toNat]? := by unfold atI; rw [ixN_int h h2]; rfl
theorem atI_map {T U : Type} {l : List T} {f : T → U} {i : Int} : atI (l.map f) i = (atI l i).map f := by
  unfold atI
  rw [List.length_map]
  cases ixN l.length i with
  | none => rfl
  | some j => simp
theorem atI_get {T : Type} {l : List T} {i : Int} (h : 0 ≤ i) (h2 : i < l.length) : ∃ a, atI l i = some a ∧ a ∈ l ∧ l[i.toNat]? = some a := by
  rw [atI_int h h2]
  have : i.toNat < l.length := by omega
  exact ⟨l[i.toNat], List.getElem?_eq_getElem this, List.getElem_mem this, List.getElem?_eq_getElem this⟩
end
end DM

/-! DM16: plain laws of raise, try, local calls, methods, in -/
namespace DM
open PySem PySem.Spec L2
section
variable {es : Env} {S : Store} {E : En} {b : MS} {n y c : Nat}
theorem w_raise : WS (sRaise c es S) E = E.ex c [] es S := nr rfl
def En.tr (E : En) (n y : Nat) : En := ⟨E.nx, E.rt, E.bk, E.ct, fun c p es S => match p with
  | [] => E.nx ((es.set y (.v (.exn c []))).set n .no) S
  | [d] => E.nx ((es.set y (.v (.exn c [d]))).set n .no) S
  | _ => False⟩
theorem tr_nx : (E.tr n y).nx es S = E.nx es S := nr rfl
theorem tr_rt {r : RV} : (E.tr n y).rt r S = E.rt r S := nr rfl
theorem tr_bk : (E.tr n y).bk es S = E.bk es S := nr rfl
theorem tr_ct : (E.tr n y).ct es S = E.ct es S := nr rfl
theorem tr_ex : (E.tr n y).ex c [] es S = E.nx ((es.set y (.v (.exn c []))).set n .no) S := nr rfl
theorem tr_ex1 {d : D} : (E.tr n y).ex c [d] es S = E.nx ((es.set y (.v (.exn c [d]))).set n .no) S := nr rfl
theorem w_try : WS (sTry n y b es S) E = WS (b es S) (E.tr n y) := by
  unfold sTry
  cases b es S with
  | ex c p es' S' =>
    cases p with
    | nil => exact (tr_ex).symm
    | cons a r => cases r <;> rfl
  | _ => rfl
end
section
variable {es : Env} {S : Store} {Q : RV → Store → Prop} {X : QX} {ms : List ME} {tbl : Nat → MF} {i n : Nat} {o : ME} {f : FM} {T : String}
def QCL (s : Option Slot) (tbl : Nat → MF) (ms : List ME) (es : Env) (S : Store) (Q : RV → Store → Prop) (X : QX) : Prop := match s with
  | some (.v (.fn n)) => WR (eArgs ms es S) (kCall (tbl n) Q X) X
  | _ => False
theorem QCL_e : QCL (some (.v (.fn n))) tbl ms es S Q X = WR (eArgs ms es S) (kCall (tbl n) Q X) X := nr rfl
theorem w_callL : WR (eCallL i tbl ms es S) Q X = QCL es[i]? tbl ms es S Q X := by
  unfold eCallL QCL
  cases es[i]? with
  | none => rfl
  | some s =>
    cases s with
    | v x =>
      cases x <;> try rfl
      exact w_call
    | _ => rfl
def kMt2 (f : FM) (x : RV) (Q : RV → Store → Prop) (xs : List RV) (S : Store) : Prop := QO (f S x xs) S Q
def kMt (T : String) (f : FM) (ms : List ME) (es : Env) (Q : RV → Store → Prop) (X : QX) (x : RV) (S : Store) : Prop := tyF T S x.weak = true ∧ WR (eArgs ms es S) (kMt2 f x.weak Q) X
theorem kMt2_e {x : RV} {xs : List RV} : kMt2 f x Q xs S = QO (f S x xs) S Q := nr rfl
theorem kMt_l {p : Bool} {ds : List D} : kMt "list" f ms es Q X (.l p ds) S = WR (eArgs ms es S) (kMt2 f (.l false ds) Q) X := nr (propext ⟨fun h => h.2, fun h => ⟨rfl, h⟩⟩)
theorem kMt_s {z : Str} : kMt "str" f ms es Q X (.d (.str z)) S = WR (eArgs ms es S) (kMt2 f (.d (.str z)) Q) X := nr (propext ⟨fun h => h.2, fun h => ⟨rfl, h⟩⟩)
theorem kMt_o {n : Nat} : kMt "list" f ms es Q X (.d (.loc n)) S = ((lstO S[n]?).isSome = true ∧ WR (eArgs ms es S) (kMt2 f (.d (.loc n)) Q) X) := nr (by
  unfold kMt
  congr 1)
theorem w_mt : WR (eMt T f o ms es S) Q X = WR (o es S) (kMt T f ms es Q X) X := by
  unfold eMt kMt
  simp only [WR_bind, WR_ite, WR_ofO]
  rfl
theorem isx_c {c k : Nat} (h : 1 ≤ c ∧ c ≤ 5 ∧ k ≤ 6) : isxF S [.d (.exn c []), .d (.cls k)] = some (.d (.bl (subX c k))) := by
  show (if 1 ≤ c ∧ c ≤ 5 ∧ k ≤ 6 then _ else _) = _
  rw [if_pos h]
theorem isx_c6 {x : D} {k : Nat} (h : k ≤ 6) : isxF S [.d (.exn 6 [x]), .d (.cls k)] = some (.d (.bl (subX 6 k))) := by
  show (if 6 = 6 ∧ k ≤ 6 then _ else _) = _
  rw [if_pos ⟨rfl, h⟩]
theorem isx_v6 {x : D} : isxF S [.d (.exn 6 [x]), .d (.ty "ValueError")] = some (.d (.bl true)) := by
  show (if (6 : Nat) = 6 ∧ "ValueError" = "ValueError" then some (OV.d (.bl true)) else none) = _
  exact if_pos ⟨rfl, rfl⟩
theorem isx_v {c : Nat} (h : 1 ≤ c ∧ c ≤ 5) : isxF S [.d (.exn c []), .d (.ty "ValueError")] = some (.d (.bl true)) := by
  show (if 1 ≤ c ∧ c ≤ 5 ∧ "ValueError" = "ValueError" then _ else _) = _
  rw [if_pos ⟨h.1, h.2, rfl⟩]
end
end DM

/-! DM17: plain laws of extend at a place, ranges as equations -/
namespace DM
open PySem PySem.Spec L2
section
variable {es : Env} {S : Store} {E : En} {X : QX} {m n k : ME} {i l : Nat}
def QXT (o : Option (List D)) (o' : Option O) (l : Nat) (es : Env) (E : En) (S : Store) : Prop := match o, o' with
  | some ys, some (.lst ds) => ds.length + ys.length ≤ sizeLine ∧ E.nx es (S.set l (.lst (ds ++ ys)))
  | _, _ => False
theorem QXT_e {ys ds : List D} : QXT (some ys) (some (.lst ds)) l es E S = (ds.length + ys.length ≤ sizeLine ∧ E.nx es (S.set l (.lst (ds ++ ys)))) := nr rfl
def kExtT (l : Nat) (es : Env) (E : En) (r : RV) (S : Store) : Prop := QXT (lstOf S r.weak) S[l]? l es E S
theorem kExtT_l {p : Bool} {ys : List D} : kExtT l es E (.l p ys) S = QXT (some ys) S[l]? l es E S := nr rfl
theorem kExtT_d {x : D} : kExtT l es E (.d x) S = QXT (lstOf S (.d x)) S[l]? l es E S := nr rfl
def QExt2 (o : Option Slot) (i : Nat) (m : ME) (es : Env) (S : Store) (E : En) : Prop := match o with
  | some (.own ds) => WR (m es S) (kExtO ds i es E) (kX es E)
  | some (.v (.loc l)) => (∃ ds, S[l]? = some (.lst ds)) ∧ WR (m es S) (kExtT l es E) (kX es E)
  | _ => False
theorem QExt2_o {ds : List D} : QExt2 (some (.own ds)) i m es S E = WR (m es S) (kExtO ds i es E) (kX es E) := nr rfl
theorem QExt2_l : QExt2 (some (.v (.loc l))) i m es S E = ((∃ ds, S[l]? = some (.lst ds)) ∧ WR (m es S) (kExtT l es E) (kX es E)) := nr rfl
theorem exo_e {ds : List D} : (∃ ds', O.lst ds = O.lst ds') = True := nr (propext ⟨fun _ => trivial, fun _ => ⟨ds, rfl⟩⟩)
theorem w_ext2 : WS (sExt i m es S) E = QExt2 es[i]? i m es S E := by
  unfold sExt QExt2
  cases es[i]? with
  | none => rfl
  | some s =>
    cases s with
    | no => rfl
    | bor _ => rfl
    | own ds =>
      show WS (bindS _ _ _) E = _
      rw [WS_bindS]
      congr 1
      funext r S1
      show WS (match lstOf S1 r.weak with | some ys => _ | none => _) E = kExtO ds i es E r S1
      unfold kExtO
      cases lstOf S1 r.weak with
      | none => rfl
      | some ys => exact WS_ite
    | v y =>
      cases y <;> try rfl
      rename_i l
      show WS (match S[l]? with | some (.lst _) => _ | _ => _) E = (_ ∧ _)
      cases e : S[l]? with
      | none => exact propext ⟨fun q => q.elim, fun ⟨⟨_, z⟩, _⟩ => by cases z⟩
      | some o =>
        cases o with
        | dic _ => exact propext ⟨fun q => q.elim, fun ⟨⟨_, z⟩, _⟩ => by cases z⟩
        | ins _ _ => exact propext ⟨fun q => q.elim, fun ⟨⟨_, z⟩, _⟩ => by cases z⟩
        | obj _ _ => exact propext ⟨fun q => q.elim, fun ⟨⟨_, z⟩, _⟩ => by cases z⟩
        | lst d0 =>
          show WS (bindS _ _ _) E = _
          rw [WS_bindS]
          refine Eq.trans (b := WR (m es S) (kExtT l es E) (kX es E)) ?_ (propext ⟨fun q => ⟨⟨_, rfl⟩, q⟩, fun q => q.2⟩)
          congr 1
          funext r S1
          unfold kExtT QXT
          cases lstOf S1 r.weak with
          | none => rfl
          | some ys =>
            cases S1[l]? with
            | none => rfl
            | some o => cases o <;> first | rfl | exact WS_ite
theorem w_rng2 {Q : QMI} : WR (miRng2 m n es S) Q X = WR (eArgs [m, n] es S) (kR2 Q) X := by
  unfold miRng2
  rw [WR_bind]
  congr 1
  funext rs S1
  unfold kR2
  split
  · rw [WR_ite]; rfl
  · rename_i h
    first
      | rfl
      | (split
         · exact (h _ _ rfl).elim
         · rfl)
theorem w_rng3 {Q : QMI} : WR (miRng3 m n k es S) Q X = WR (eArgs [m, n, k] es S) (kR3 Q) X := by
  unfold miRng3
  rw [WR_bind]
  congr 1
  funext rs S1
  unfold kR3
  split
  · rw [WR_ite]; rfl
  · rename_i h
    first
      | rfl
      | (split
         · exact (h _ _ _ rfl).elim
         · rfl)
end
/-! a chain as a test -/
section
variable {G : GT} {W : WX} {X : Cx} {a b c : Expr} {ma mb mc : ME} {pos : Pos}
end
/-! is, is not of truths -/
def isBF : F2 := fun _ a b => match a, b with
  | .d (.bl p), .d (.bl q) => some (.d (.bl (p == q)))
  | _, _ => none
def isntBF : F2 := fun _ a b => match a, b with
  | .d (.bl p), .d (.bl q) => some (.d (.bl (!(p == q))))
  | _, _ => none
section
variable {G : GT} {W : WX} {X : Cx} {a b : Expr} {ma mb : ME} {pos : Pos}
theorem isB_bb {S : Store} {p q : Bool} : isBF S (.d (.bl p)) (.d (.bl q)) = some (.d (.bl (p == q))) := nr rfl
theorem isntB_bb {S : Store} {p q : Bool} : isntBF S (.d (.bl p)) (.d (.bl q)) = some (.d (.bl (!(p == q)))) := nr rfl
end
end DM

/-! DG: repr of data, in the law's own def alone (there nothing is being shown) -/
namespace L2
open PySem PySem.Spec PyProof.Rows
end L2
namespace DM
open PySem PySem.Spec L2
section
variable {G : GT} {W : WX} {X : Cx} {a : Expr} {as : List Expr} {ms : List ME} {p pos : Pos}
end
/-! the law's def at the law's own call -/
section
variable {P : Program} {w : World} {K : PySem.W.Frag} {mg : Str → Option Value} {base : Heap} {G : GT}
end
end DM

/-! DH: list(range(..)), tuple(range(..)), insert at the head -/
namespace PySem
open Sem (wp)
section
variable {prog : Program} {w : World} {A : Around} {E : Value → Shared → Prop} {s : Shared}
end
end PySem
namespace L2
open PySem PySem.Spec PyProof.Rows
/-! enumerate(tuple) -/
end L2
namespace L2
open PySem PySem.Spec PyProof.Rows
section
variable {X : Cx} {a b : Expr} {t : TA} {p p2 pos ppos : Pos}
end
end L2
namespace DM
open PySem PySem.Spec L2
instance {a b : Int} : Decidable (RgOk a b) := by unfold RgOk; infer_instance
section
variable {G : GT} {W : WX} {X : Cx} {a b : Expr} {ma mb : ME} {p pos p2 pos2 : Pos}
end
/-! plain -/
/-! xs[::-1], xs a list -/
def revF (S : Store) (r : RV) : Option OV := (lstOf S r).map fun ds => .l ds.reverse
def eRev (m : ME) : ME := fun es S => (m es S).bind fun r S1 => ofO (revF S1 r.weak) S1
section
variable {G : GT} {W : WX} {X : Cx} {e : Expr} {m : ME} {p1 p2 p3 pos : Pos} {k : Nat}
end
def kRevE (Q : RV → Store → Prop) (r : RV) (S : Store) : Prop := QO (revF S r.weak) S Q
theorem kRevE_l {Q : RV → Store → Prop} {S : Store} {p : Bool} {x : List D} : kRevE Q (.l p x) S = Q (.l true x.reverse) S := nr rfl
theorem w_revE {Q : RV → Store → Prop} {X : QX} {m : ME} {es : Env} {S : Store} : WR (eRev m es S) Q X = WR (m es S) (kRevE Q) X := by
  unfold eRev kRevE
  simp only [WR_bind, WR_ofO]
/-! xs.insert(0, e), xs an own list -/
open Classical in
noncomputable def sIns0 (k : Nat) (me : ME) : MS := fun es S => match es[k]? with
  | some (.own ds) => bindS ((me es S).bind item) es fun x S1 => if ds.length < sizeLine then .nx (es.set k (.own (x :: ds))) S1 else .bad
  | _ => .bad
section
variable {G : GT} {W : WX} {X : Cx} {e : Expr} {me : ME} {pos : Pos}
end
def kInsO (ds : List D) (k : Nat) (es : Env) (E : En) (r : RV) (S : Store) : Prop := QI r S fun x S1 => ds.length < sizeLine ∧ E.nx (es.set k (.own (x :: ds))) S1
theorem kInsO_d {k : Nat} {es : Env} {E : En} {S : Store} {ds : List D} {x : D} : kInsO ds k es E (.d x) S = (ds.length < sizeLine ∧ E.nx (es.set k (.own (x :: ds))) S) := nr rfl
def QIns (o : Option Slot) (k : Nat) (m : ME) (es : Env) (S : Store) (E : En) : Prop := match o with
  | some (.own ds) => WR (m es S) (kInsO ds k es E) (kX es E)
  | _ => False
theorem QIns_o {k : Nat} {m : ME} {es : Env} {S : Store} {E : En} {ds : List D} : QIns (some (.own ds)) k m es S E = WR (m es S) (kInsO ds k es E) (kX es E) := nr rfl
theorem w_ins0 {k : Nat} {m : ME} {es : Env} {S : Store} {E : En} : WS (sIns0 k m es S) E = QIns es[k]? k m es S E := by
  unfold sIns0 QIns
  cases es[k]? with
  | none => rfl
  | some s =>
    cases s with
    | no => rfl
    | bor _ => rfl
    | own ds =>
      show WS (bindS _ _ _) E = _
      rw [WS_bindS]
      simp only [WR_bind, WR_item, WS_ite]
      rfl
    | v y => rfl
/-! enumerate of a list or a tuple -/
def miEnumA (m : MQ) : MI := fun es S => (m es S).bind fun x S1 => .ok (enumD x.1, chk x.2 x.1) S1
def kEnumA (Q : QMI) (x : List D × SK) (S : Store) : Prop := Q (enumD x.1, chk x.2 x.1) S
theorem kEnumA_e {S : Store} {ds : List D} {k : SK} {Q : QMI} : kEnumA Q (ds, k) S = Q (enumD ds, chk k ds) S := nr rfl
theorem w_miEnumA {S : Store} {es : Env} {X : QX} {q : MQ} {Q : QMI} : WR (miEnumA q es S) Q X = WR (q es S) (kEnumA Q) X := by
  unfold miEnumA
  rw [WR_bind]
  rfl
/-! xs.pop(i), xs at a place -/
def popS (S : Store) (x i : RV) : Res RV := match x, i with
  | .d (.loc n), .d (.int j) => (match S[n]? with
    | some (.lst ds) => (match seqIndex? j ds.length with
      | some k => (match ds[k]? with
        | some d => if -(2 ^ 63) ≤ j ∧ j < 2 ^ 63 then .ok (.d d) (S.set n (.lst (ds.eraseIdx k))) else .bad
        | none => .bad)
      | none => .bad)
    | _ => .bad)
  | _, _ => .bad
def ePopAt (mo mi : ME) : ME := fun es S => (mo es S).bind fun x S1 => if tyF "list" S1 x.weak = true then (eArgs [mi] es S1).bind fun is S2 => (match is with
  | [i] => popS S2 x i
  | _ => .bad) else .bad
section
variable {G : GT} {W : WX} {X : Cx} {o e : Expr} {mo mi : ME} {apos cpos : Pos}
end
def kPop2 (x : RV) (Q : RV → Store → Prop) (X : QX) (is : List RV) (S : Store) : Prop := WR (match is with | [i] => popS S x i | _ => .bad) Q X
def kPop (mi : ME) (es : Env) (Q : RV → Store → Prop) (X : QX) (x : RV) (S : Store) : Prop := tyF "list" S x.weak = true ∧ WR (eArgs [mi] es S) (kPop2 x Q X) X
theorem kPop_e {S : Store} {es : Env} {mi : ME} {Q : RV → Store → Prop} {X : QX} {n : Nat} : kPop mi es Q X (.d (.loc n)) S = (tyF "list" S (.d (.loc n)) = true ∧ WR (eArgs [mi] es S) (kPop2 (.d (.loc n)) Q X) X) := nr rfl
theorem kPop2_e {S : Store} {x i : RV} {Q : RV → Store → Prop} {X : QX} : kPop2 x Q X [i] S = WR (popS S x i) Q X := nr rfl
theorem w_popAt {S : Store} {es : Env} {mo mi : ME} {Q : RV → Store → Prop} {X : QX} : WR (ePopAt mo mi es S) Q X = WR (mo es S) (kPop mi es Q X) X := by
  unfold ePopAt kPop kPop2
  rw [WR_bind]
  congr 1
  funext x S1
  by_cases h : tyF "list" S1 x.weak = true
  · rw [if_pos h, WR_bind]; exact propext ⟨fun z => ⟨h, z⟩, fun z => z.2⟩
  · rw [if_neg h]; exact propext ⟨fun z => z.elim, fun z => (h z.1).elim⟩
end DM

/-! DI: sorted of a list of ints -/
namespace L2
open PySem PySem.Spec PyProof.Rows
/-- len(set(xs)), xs a list of ints -/
def metN (ns : List Int) : List Int := PyProof.Rows.firstMet (fun i => ns.getD i 0) ns.length
end L2
namespace DM
open PySem PySem.Spec L2
def sortI (ns : List Int) : List Int := ns.mergeSort fun a b => decide (a ≤ b)
def sortedF : FN := liF fun ns => some (.l ((sortI ns).map D.int))
section
variable {G : GT} {W : WX} {X : Cx} {a : Expr} {as : List Expr} {ms : List ME} {p pos : Pos}
end
theorem sorted_e {S : Store} {b : Bool} {ns : List Int} : sortedF S [.l b (ns.map .int)] = some (.l ((sortI ns).map D.int)) := by
  show (intsOf (ns.map D.int)).bind _ = _
  rw [intsOf_map]
  rfl
/-! divmod -/
instance {i j : Int} : Decidable (CDiv i j) := by unfold CDiv; infer_instance
def divmodF : FN := fun _ rs => match rs with
  | [.d (.int i), .d (.int j)] => if CDiv i j then some (.d (.tup [.int (i / j), .int (i % j)])) else none
  | _ => none
section
variable {G : GT} {W : WX} {X : Cx} {a : Expr} {as : List Expr} {ms : List ME} {p pos : Pos}
end
theorem divmod_e {S : Store} {i j : Int} : divmodF S [.d (.int i), .d (.int j)] = gd (CDiv i j) (.d (.tup [.int (i / j), .int (i % j)])) := gd_of
/-! len(set(xs)) -/
def lenSetF (S : Store) (r : RV) : Option OV := (lstOf S r).bind fun ds => (intsOf ds).bind fun ns => if ns.length ≤ 4000 then some (.d (.int ((metN ns).length : Nat))) else none
def eLenSet (m : ME) : ME := fun es S => (m es S).bind fun r S1 => ofO (lenSetF S1 r.weak) S1
section
variable {G : GT} {W : WX} {X : Cx} {e : Expr} {m : ME} {p p2 q pos : Pos}
end
def kLenSet (Q : RV → Store → Prop) (r : RV) (S : Store) : Prop := QO (lenSetF S r.weak) S Q
theorem kLenSet_l {Q : RV → Store → Prop} {S : Store} {p : Bool} {x : List D} : kLenSet Q (.l p x) S = QO (lenSetF S (.l false x)) S Q := nr rfl
theorem w_lenSet {Q : RV → Store → Prop} {X : QX} {m : ME} {es : Env} {S : Store} : WR (eLenSet m es S) Q X = WR (m es S) (kLenSet Q) X := by
  unfold eLenSet kLenSet
  simp only [WR_bind, WR_ofO]
end DM

/-! DJ: t[::-1] of tuples and lists -/
namespace DM
open PySem PySem.Spec PyProof.Rows HT L2
section
variable {prog : Program} {w : World} {A : Around} {E : Value → Shared → Prop} {s : Shared}
end
section
variable {X : Cx}
end
end DM
namespace DM
open PySem PySem.Spec L2
def revAF (S : Store) (r : RV) : Option OV := match r with
  | .d (.tup ds) => some (.d (.tup ds.reverse))
  | r => (lstOf S r).map fun ds => .l ds.reverse
def eRevA (m : ME) : ME := fun es S => (m es S).bind fun r S1 => ofO (revAF S1 r.weak) S1
section
variable {G : GT} {W : WX} {X : Cx} {e : Expr} {m : ME} {p1 p2 p3 pos : Pos} {k : Nat}
end
def kRevA (Q : RV → Store → Prop) (r : RV) (S : Store) : Prop := QO (revAF S r.weak) S Q
theorem kRevA_l {Q : RV → Store → Prop} {S : Store} {p : Bool} {x : List D} : kRevA Q (.l p x) S = Q (.l true x.reverse) S := nr rfl
theorem kRevA_t {Q : RV → Store → Prop} {S : Store} {x : List D} : kRevA Q (.d (.tup x)) S = Q (.d (.tup x.reverse)) S := nr rfl
theorem kRevA_o {Q : RV → Store → Prop} {S : Store} {n : Nat} : kRevA Q (.d (.loc n)) S = QO ((lstO S[n]?).map fun ds => .l ds.reverse) S Q := nr rfl
theorem w_revA {Q : RV → Store → Prop} {X : QX} {m : ME} {es : Env} {S : Store} : WR (eRevA m es S) Q X = WR (m es S) (kRevA Q) X := by
  unfold eRevA kRevA
  simp only [WR_bind, WR_ofO]
end DM

/-! DK: zip of two sequences of whatever kinds (a list and a tuple) -/
namespace DM
open PySem PySem.Spec PyProof.Rows L2
def ItK (t : Bool) (h : Heap) (it a : Addr) (i : Nat) : Prop := match t with
  | true => h.IsTupleIter it a i
  | false => h.IsListIter it a i
theorem ItK.at_ {t : Bool} {h h' : Heap} {it a : Addr} {i : Nat} (q : ItK t h it a i) (k : ∀ o, h.get? it = some o → h'.get? it = some o) : ItK t h' it a i := by
  cases t
  · exact Heap.IsListIter.at q fun o e => k o e
  · exact Heap.IsTupleIter.at q fun o e => k o e
theorem ItK.obj {t : Bool} {h : Heap} {it a : Addr} {i : Nat} (q : ItK t h it a i) : ∃ o, h.get? it = some o ∧ ∀ v, o.data ≠ .cell v := by
  cases t
  · obtain ⟨o, e, _, d⟩ := q
    exact ⟨o, e, fun v z => by rw [d] at z; cases z⟩
  · obtain ⟨o, e, _, d⟩ := q
    exact ⟨o, e, fun v z => by rw [d] at z; cases z⟩
section
variable {X : Cx} {pins : List (Addr × Obj)} {σ : L2.St} {H : Hp} {s : Shared} {a : Addr} {xs ys : List V} {t : Bool}
end
end DM
namespace DM
open PySem PySem.Spec L2
open Classical in
noncomputable def miZipM (m n : MQ) : MI := fun es S => (m es S).bind fun x S1 => (n es S1).bind fun y S2 =>
  if chk x.2 x.1 S2 then .ok (zipD x.1 y.1, fun S => chk x.2 x.1 S ∧ chk y.2 y.1 S) S2 else .bad
section
variable {G : GT} {P : Hp} {ρ : List Addr} {H : Hp} {S : Store} {k k2 : SK} {ds es : List D} {a b : Addr}
end
/-! plain -/
def kZipM2 (x : List D × SK) (Q : QMI) (y : List D × SK) (S : Store) : Prop := chk x.2 x.1 S ∧ Q (zipD x.1 y.1, fun S => chk x.2 x.1 S ∧ chk y.2 y.1 S) S
def kZipM (q : MQ) (es : Env) (Q : QMI) (X : QX) (x : List D × SK) (S : Store) : Prop := WR (q es S) (kZipM2 x Q) X
theorem kZipM_e {q : MQ} {es : Env} {S : Store} {X : QX} {x : List D × SK} {Q : QMI} : kZipM q es Q X x S = WR (q es S) (kZipM2 x Q) X := nr rfl
theorem kZipM2_e {S : Store} {ds ds' : List D} {k k' : SK} {Q : QMI} : kZipM2 (ds, k) Q (ds', k') S = (chk k ds S ∧ Q (zipD ds ds', fun S => chk k ds S ∧ chk k' ds' S) S) := nr rfl
theorem w_miZipM {p q : MQ} {es : Env} {S : Store} {X : QX} {Q : QMI} : WR (miZipM p q es S) Q X = WR (p es S) (kZipM q es Q X) X := by
  unfold miZipM kZipM kZipM2
  simp only [WR_bind, WR_ite]
  rfl
/-! xs.append(v), xs an expression that is a place -/
open Classical in
noncomputable def appS (S : Store) (x i : RV) : Res RV := match x with
  | .d (.loc n) => (item i S).bind fun d S1 => match S1[n]? with
    | some (.lst ds) => if ds.length < sizeLine then .ok (.d .non) (S1.set n (.lst (ds ++ [d]))) else .bad
    | _ => .bad
  | _ => .bad
/-! the value alone: data (no list by value) -/
noncomputable def eAppD (mo mi : ME) : ME := fun es S => (mo es S).bind fun x S1 => if tyF "list" S1 x.weak = true then (eArgs [mi] es S1).bind fun is S2 => (match is with
  | [.d d] => appS S2 x (.d d)
  | _ => .bad) else .bad
section
variable {G : GT} {W : WX} {X : Cx} {o e : Expr} {mo mi : ME} {apos cpos : Pos}
end
def kAppD2 (x : RV) (Q : RV → Store → Prop) (X : QX) (is : List RV) (S : Store) : Prop := WR (match is with | [.d d] => appS S x (.d d) | _ => .bad) Q X
def kAppD (mi : ME) (es : Env) (Q : RV → Store → Prop) (X : QX) (x : RV) (S : Store) : Prop := tyF "list" S x.weak = true ∧ WR (eArgs [mi] es S) (kAppD2 x Q X) X
theorem kAppD_e {S : Store} {es : Env} {mi : ME} {Q : RV → Store → Prop} {X : QX} {n : Nat} : kAppD mi es Q X (.d (.loc n)) S = (tyF "list" S (.d (.loc n)) = true ∧ WR (eArgs [mi] es S) (kAppD2 (.d (.loc n)) Q X) X) := nr rfl
theorem kAppD2_e {S : Store} {x : RV} {d : D} {Q : RV → Store → Prop} {X : QX} : kAppD2 x Q X [.d d] S = WR (appS S x (.d d)) Q X := nr rfl
theorem w_appD {S : Store} {es : Env} {mo mi : ME} {Q : RV → Store → Prop} {X : QX} : WR (eAppD mo mi es S) Q X = WR (mo es S) (kAppD mi es Q X) X := by
  unfold eAppD kAppD kAppD2
  rw [WR_bind]
  congr 1
  funext x S1
  by_cases h : tyF "list" S1 x.weak = true
  · rw [if_pos h, WR_bind]; exact propext ⟨fun z => ⟨h, z⟩, fun z => z.2⟩
  · rw [if_neg h]; exact propext ⟨fun z => z.elim, fun z => (h z.1).elim⟩
end DM

/-! DL: sorted of a tuple of ints -/
namespace SrtO
open PySem PyProof.Rows Srt
section
variable {prog : Program} {w : World} {A : Around} {E : Value → Shared → Prop} {s : Shared}
end
end SrtO
namespace L2
open PySem PySem.Spec PyProof.Rows
end L2
namespace DM
open PySem PySem.Spec L2
section
variable {G : GT} {W : WX} {X : Cx} {a : Expr} {as : List Expr} {ms : List ME} {p pos : Pos}
end
end DM

/-! DN: a, b, .. = a list in hand; xs.pop() of a list in the store -/
namespace DM
open PySem PySem.Spec L2
section
variable {G : GT} {W : WX} {X : Cx} {a : Expr} {ma : ME} {pos pt : Pos} {ts : List Expr} {k : Nat}
end
section
variable {es : Env} {S : Store} {E : En} {m : ME} {n : Nat} {gs : MGs}
end
/-! xs.pop() -/
section
variable {G : GT} {W : WX} {X : Cx} {o : Expr} {mo : ME} {apos cpos : Pos}
end
end DM

/-! DQ: dicts of the store: keys ints and texts (t = false), or tuples of these (t = true) -/
namespace DM
open PySem PySem.Spec L2
section
variable {G : GT} {P : Hp} {ρ : List Addr} {H : Hp} {S : Store}
/-- a new thing joins the store -/
theorem VS.push {a : Addr} {y : HO} {o : O} (s : VS G P ρ H S) (hn : H a = none) (r : ∀ ρ', OR G ρ' (upd H a y) o a) : VS G P (ρ ++ [a]) (upd H a y) (S ++ [o]) := by
  have tk : TK ρ H (ρ ++ [a]) (upd H a y) := TK.new hn
  have hf := s.free hn
  refine ⟨by simp [s.len], ?_, fun n b o' e1 e2 => ?_, fun b o' e => ?_⟩
  · rw [List.nodup_append]
    refine ⟨s.nd, by simp, fun x hx y hy => ?_⟩
    have : y = a := by simpa using hy
    subst this
    exact fun z => hf.1 (z ▸ hx)
  · by_cases hl : n < ρ.length
    · rw [List.getElem?_append_left hl] at e1
      rw [List.getElem?_append_left (by rw [← s.len]; exact hl)] at e2
      have hb : b ≠ a := fun z => hf.1 (z ▸ List.mem_of_getElem? e1)
      exact (s.st n b o' e1 e2).next tk (upd_ne hb)
    · have hn' : n = ρ.length := by
        have := (List.getElem?_eq_some_iff.mp e1).1
        simp at this
        omega
      subst hn'
      rw [List.getElem?_append_right (Nat.le_refl _)] at e1
      rw [s.len, List.getElem?_append_right (Nat.le_refl _)] at e2
      simp at e1 e2
      subst e1 e2
      exact r _
  · obtain ⟨q1, q2⟩ := s.pr b o' e
    have hb : b ≠ a := fun z => by rw [z, hn] at q1; cases q1
    refine ⟨by rw [upd_ne hb]; exact q1, fun m => ?_⟩
    rcases List.mem_append.mp m with m | m
    · exact q2 m
    · exact hb (by simpa using m)
end
/-! keys -/
def valD (kvs : List (List Key × D)) (k : List Key) : Option D := (kvs.find? fun kv => decide (kv.1 = k)).map (·.2)
def putD (kvs : List (List Key × D)) (k : List Key) (v : D) : List (List Key × D) :=
  if (kvs.any fun kv => decide (kv.1 = k)) = true then kvs.map (fun kv => if kv.1 = k then (kv.1, v) else kv) else kvs ++ [(k, v)]
section
variable {G : GT} {P : Hp} {ρ : List Addr} {H : Hp} {S : Store}
/-- tables side by side -/
def KR (G : GT) (ρ : List Addr) (H : Hp) (kvs : List (List Key × D)) (us : List (List Key × V)) : Prop := kvs.map (·.1) = us.map (·.1) ∧ Reps G ρ H (kvs.map (·.2)) (us.map (·.2))
theorem KR.cons {p : List Key × D} {q : List Key × V} {kvs : List (List Key × D)} {us : List (List Key × V)} (h : KR G ρ H (p :: kvs) (q :: us)) : p.1 = q.1 ∧ Rep G ρ H p.2 q.2 ∧ KR G ρ H kvs us := by
  obtain ⟨h1, h2⟩ := h
  rw [List.map_cons, List.map_cons] at h1 h2
  injection h1 with h1 h3
  cases h2 with
  | cons a b => exact ⟨h1, a, h3, b⟩
theorem KR.mk {p : List Key × D} {q : List Key × V} {kvs : List (List Key × D)} {us : List (List Key × V)} (h1 : p.1 = q.1) (h2 : Rep G ρ H p.2 q.2) (h : KR G ρ H kvs us) : KR G ρ H (p :: kvs) (q :: us) := by
  refine ⟨?_, ?_⟩
  · rw [List.map_cons, List.map_cons, h1, h.1]
  · rw [List.map_cons, List.map_cons]; exact .cons h2 h.2
theorem KR.nil' {us : List (List Key × V)} (h : KR G ρ H [] us) : us = [] := by
  have := h.1
  cases us with
  | nil => rfl
  | cons _ _ => cases this
theorem KR.len : ∀ {kvs : List (List Key × D)} {us : List (List Key × V)}, KR G ρ H kvs us → kvs.length = us.length := fun h => by
  have := congrArg List.length h.1
  simpa using this
theorem KR.val : ∀ {kvs : List (List Key × D)} {us : List (List Key × V)} (k : List Key), KR G ρ H kvs us → match valD kvs k, valV us k with
    | some d, some v => Rep G ρ H d v
    | none, none => True
    | _, _ => False
  | [], us, k, h => by cases h.nil'; trivial
  | p :: kvs, [], k, h => by have := h.1; cases this
  | p :: kvs, q :: us, k, h => by
    obtain ⟨h1, h2, h3⟩ := h.cons
    have ih := KR.val k h3
    by_cases e : p.1 = k
    · have a : valD (p :: kvs) k = some p.2 := by simp [valD, List.find?_cons, e]
      rw [a, valV_pos (h1.symm.trans e)]
      exact h2
    · have a : valD (p :: kvs) k = valD kvs k := by simp [valD, List.find?_cons, e]
      rw [a, valV_neg (fun z => e (h1.trans z))]
      exact ih
theorem KR.any : ∀ {kvs : List (List Key × D)} {us : List (List Key × V)} (k : List Key), KR G ρ H kvs us → (kvs.any fun kv => decide (kv.1 = k)) = (us.any fun kv => decide (kv.1 = k))
  | [], us, k, h => by cases h.nil'; rfl
  | p :: kvs, [], k, h => by have := h.1; cases this
  | p :: kvs, q :: us, k, h => by
    obtain ⟨h1, h2, h3⟩ := h.cons
    rw [List.any_cons, List.any_cons, KR.any k h3, h1]
theorem KR.repl : ∀ {kvs : List (List Key × D)} {us : List (List Key × V)} (k : List Key) {d : D} {v : V}, Rep G ρ H d v → KR G ρ H kvs us →
    KR G ρ H (kvs.map fun kv => if kv.1 = k then (kv.1, d) else kv) (us.map fun kv => if kv.1 = k then (kv.1, v) else kv)
  | [], us, k, d, v, r, h => by cases h.nil'; exact h
  | p :: kvs, [], k, d, v, r, h => by have := h.1; cases this
  | p :: kvs, q :: us, k, d, v, r, h => by
    obtain ⟨h1, h2, h3⟩ := h.cons
    rw [List.map_cons, List.map_cons]
    refine KR.mk ?_ ?_ (KR.repl k r h3)
    · split <;> split <;> exact h1
    · by_cases e : p.1 = k
      · rw [if_pos e, if_pos (h1.symm.trans e)]; exact r
      · rw [if_neg e, if_neg (fun z => e (h1.trans z))]; exact h2
theorem KR.snoc : ∀ {kvs : List (List Key × D)} {us : List (List Key × V)} (k : List Key) {d : D} {v : V}, Rep G ρ H d v → KR G ρ H kvs us → KR G ρ H (kvs ++ [(k, d)]) (us ++ [(k, v)])
  | [], us, k, d, v, r, h => by cases h.nil'; exact KR.mk rfl r h
  | p :: kvs, [], k, d, v, r, h => by have := h.1; cases this
  | p :: kvs, q :: us, k, d, v, r, h => by
    obtain ⟨h1, h2, h3⟩ := h.cons
    exact KR.mk h1 h2 (KR.snoc k r h3)
theorem KR.put {kvs : List (List Key × D)} {us : List (List Key × V)} (k : List Key) {d : D} {v : V} (r : Rep G ρ H d v) (h : KR G ρ H kvs us) : KR G ρ H (putD kvs k d) (putK us k v) := by
  unfold putD putK
  rw [h.any k]
  split
  · exact h.repl k r
  · exact h.snoc k r
theorem KR.mono {ρ' : List Addr} {H' : Hp} {kvs : List (List Key × D)} {us : List (List Key × V)} (h : KR G ρ H kvs us) (k : TK ρ H ρ' H') : KR G ρ' H' kvs us := ⟨h.1, h.2.mono k⟩
end
/-! words -/
section
variable {G : GT} {P : Hp} {ρ : List Addr} {H : Hp} {S : Store}
end
section
variable {G : GT} {W : WX} {X : Cx} {o i e f : Expr} {mo mi me mf : ME} {pos p3 apos cpos : Pos} {k : Nat}
end
/-! by rewriting -/
section
variable {es : Env} {S : Store} {E : En} {Q : RV → Store → Prop} {X : QX} {a b c : ME} {t : Bool} {n : Nat} {kvs : List (List Key × D)} {kd x : D} {ks : List Key}
end
end DM

/-! DT: min of two tuples, min of a list of tuples, sorted of a list of tuples: the order of data -/
namespace DTW
open PySem PySem.SeqAt PyProof.Rows PySem.W
section
variable {prog : Program} {w : World} {A : Around} {E : Value → Shared → Prop} {s : Shared}
end
end DTW
namespace L2
open PySem PySem.Spec PyProof.Rows PySem.W
section
variable {X : Cx}
end
end L2
namespace DM
open PySem PySem.Spec L2 PyProof.Rows PySem.W
/-! data by its reading, where no list is in it -/
mutual
def backD : PyData → D
  | .none => .non
  | .bool b => .bl b
  | .int i => .int i
  | .str x => .str x
  | .tuple ds => .tup (backL ds)
  | _ => .non
def backL : List PyData → List D
  | [] => []
  | d :: ds => backD d :: backL ds
end
mutual
def tupB : PyData → Bool
  | .none | .bool _ | .int _ | .str _ => true
  | .tuple ds => tupL ds
  | _ => false
def tupL : List PyData → Bool
  | [] => true
  | d :: ds => tupB d && tupL ds
end
section
variable {G : GT} {W : WX} {X : Cx} {a : Expr} {as : List Expr} {ms : List ME} {p pos : Pos} {k : Nat}
end
end DM

/-! EA: a dict walked (locked while it is so), len of a dict, xs.clear(), sorted of a list of data -/
namespace DM
open PySem PySem.Spec L2
/-- a dict's abstract thing -/
def KO (G : GT) (ρ : List Addr) (H : Hp) : Bool → List (List Key × D) → HO → Prop
  | true, kvs, u => ∃ us : List (List Key × V), u = .dT us ∧ kvs.map (·.1) = us.map (·.1) ∧ Reps G ρ H (kvs.map (·.2)) (us.map (·.2))
  | false, kvs, u => ∃ us : List (Key × V), u = .dK us ∧ kvs.map (·.1) = us.map (fun q => [q.1]) ∧ Reps G ρ H (kvs.map (·.2)) (us.map (·.2))
def DicU (u : HO) : Prop := (∃ us, u = .dT us) ∨ ∃ us, u = .dK us
section
variable {G : GT} {P P' : Hp} {ρ ρ' : List Addr} {H H' : Hp} {S S' : Store} {t : Bool} {kvs : List (List Key × D)} {a : Addr} {u : HO} {od : Obj}
theorem KO.dic (h : KO G ρ H t kvs u) : DicU u := by
  cases t with
  | true => obtain ⟨us, e, _⟩ := h; exact .inl ⟨us, e⟩
  | false => obtain ⟨us, e, _⟩ := h; exact .inr ⟨us, e⟩
theorem ko_of (h : OR G ρ H (.dic t kvs) a) : ∃ u, H a = some u ∧ KO G ρ H t kvs u := by
  cases t with
  | true => obtain ⟨us, e, x⟩ := h; exact ⟨_, e, us, rfl, x⟩
  | false => obtain ⟨us, e, x⟩ := h; exact ⟨_, e, us, rfl, x⟩
theorem ko_ofL (h : OR G ρ H (.ins t kvs) a) : ∃ od u, H a = some (.frz od u) ∧ KO G ρ H t kvs u := by
  cases t with
  | true => obtain ⟨o, us, e, x⟩ := h; exact ⟨o, _, e, us, rfl, x⟩
  | false => obtain ⟨o, us, e, x⟩ := h; exact ⟨o, _, e, us, rfl, x⟩
theorem KO.or (h : KO G ρ H t kvs u) (e : H a = some u) : OR G ρ H (.dic t kvs) a := by
  cases t with
  | true => obtain ⟨us, rfl, x⟩ := h; exact ⟨us, e, x⟩
  | false => obtain ⟨us, rfl, x⟩ := h; exact ⟨us, e, x⟩
theorem KO.orL (h : KO G ρ H t kvs u) (e : H a = some (.frz od u)) : OR G ρ H (.ins t kvs) a := by
  cases t with
  | true => obtain ⟨us, rfl, x⟩ := h; exact ⟨od, us, e, x⟩
  | false => obtain ⟨us, rfl, x⟩ := h; exact ⟨od, us, e, x⟩
theorem KO.mono (h : KO G ρ H t kvs u) (k : TK ρ H ρ' H') : KO G ρ' H' t kvs u := by
  cases t with
  | true => obtain ⟨us, e, x, y⟩ := h; exact ⟨us, e, x, y.mono k⟩
  | false => obtain ⟨us, e, x, y⟩ := h; exact ⟨us, e, x, y.mono k⟩
/-! the lock opens -/
theorem ne_dic {b : Addr} {o : HO} (h : H a = some (.frz od u)) (e : H b = some o) (hn : ∀ od, o ≠ .frz od u) : b ≠ a := fun z => by
  rw [z, h] at e
  cases e
  exact hn _ rfl
section
variable (h : H a = some (.frz od u)) (hu : DicU u)
include h hu
mutual
theorem Rep.unl : ∀ {d : D} {v : V}, Rep G ρ H d v → Rep G ρ (upd H a u) d v
  | _, _, .non => .non
  | _, _, .bl b => .bl b
  | _, _, .int i => .int i
  | _, _, .str x => .str x
  | _, _, .tup e r => .tup (by rw [upd_ne (ne_dic h e fun _ z => nomatch z)]; exact e) (Reps.unl r)
  | _, _, .loc e => .loc e
  | _, _, .ty n => .ty n
  | _, _, .cls e => .cls e
  | _, _, .fn e => .fn e
  | _, _, .scr e => .scr (e.elim (fun ⟨o, e⟩ => .inl ⟨o, by
      rw [upd_ne (ne_dic h e fun _ z => by
        cases z
        rcases hu with ⟨_, z⟩ | ⟨_, z⟩ <;> cases z)]
      exact e⟩) .inr)
  | _, _, .exn hC e z f => .exn hC (by
      rw [upd_ne (ne_dic h e fun _ z => by
        unfold ExK at z
        cases z
        rcases hu with ⟨_, z⟩ | ⟨_, z⟩ <;> cases z)]
      exact e) z f
  | _, _, .exo hC e z f hd r => .exo hC (by
      rw [upd_ne (ne_dic h e fun _ z => by
        unfold ExK at z
        cases z
        rcases hu with ⟨_, z⟩ | ⟨_, z⟩ <;> cases z)]
      exact e) z f (by
      rw [upd_ne (ne_of hd h (by intro z; cases z))]
      exact hd) (Rep.unl r)
theorem Reps.unl : ∀ {ds : List D} {vs : List V}, Reps G ρ H ds vs → Reps G ρ (upd H a u) ds vs
  | _, _, .nil => .nil
  | _, _, .cons e r => .cons (Rep.unl e) (Reps.unl r)
end
theorem KO.unl {t2 : Bool} {kvs2 : List (List Key × D)} {u2 : HO} (x : KO G ρ H t2 kvs2 u2) : KO G ρ (upd H a u) t2 kvs2 u2 := by
  cases t2 with
  | true => obtain ⟨us, e, x, y⟩ := x; exact ⟨us, e, x, y.unl h hu⟩
  | false => obtain ⟨us, e, x, y⟩ := x; exact ⟨us, e, x, y.unl h hu⟩
theorem OR.unl {o : O} {b : Addr} (q : OR G ρ H o b) (hb : b ≠ a) : OR G ρ (upd H a u) o b := by
  cases o with
  | lst ds => obtain ⟨vs, e, r⟩ := q; exact ⟨vs, by rw [upd_ne hb]; exact e, r.unl h hu⟩
  | dic t kvs => obtain ⟨x, e, r⟩ := ko_of q; exact (r.unl h hu).or (by rw [upd_ne hb]; exact e)
  | ins t kvs => obtain ⟨o, x, e, r⟩ := ko_ofL q; exact (r.unl h hu).orL (by rw [upd_ne hb]; exact e)
  | obj c fs => obtain ⟨C, dx, us, z, e, y, r⟩ := q; exact ⟨C, dx, us, z, by rw [upd_ne hb]; exact e, y, r.unl h hu⟩
theorem RR.unl {r : RV} {v : V} (q : RR G P ρ H r v) : RR G P ρ (upd H a u) r v := by
  cases r with
  | d x => exact Rep.unl h hu q
  | l f ds =>
    cases f with
    | true =>
      obtain ⟨b, vs, rfl, e, r, y, z⟩ := q
      exact ⟨b, vs, rfl, by rw [upd_ne (ne_dic h e fun _ z => nomatch z)]; exact e, r.unl h hu, y, z⟩
    | false => obtain ⟨b, vs, rfl, e, r⟩ := q; exact ⟨b, vs, rfl, e, r.unl h hu⟩
theorem VS.unl {n : Nat} {o : O} (s : VS G P ρ H S) (hn : ρ[n]? = some a) (r : OR G ρ (upd H a u) o a) : VS G P ρ (upd H a u) (S.set n o) := by
  refine ⟨by rw [List.length_set]; exact s.len, s.nd, fun m b o' e1 e2 => ?_, fun b o' e => ?_⟩
  · by_cases hm : m = n
    · subst hm
      rw [hn] at e1
      have eb : a = b := Option.some.inj e1
      subst eb
      have hl : m < S.length := by rw [← s.len]; exact (List.getElem?_eq_some_iff.mp hn).1
      rw [List.getElem?_set_self hl] at e2
      cases e2
      exact r
    · rw [List.getElem?_set_ne (Ne.symm hm)] at e2
      refine (s.st m b o' e1 e2).unl h hu fun z => hm ?_
      subst z
      have h1 := (List.getElem?_eq_some_iff.mp e1)
      have h2 := (List.getElem?_eq_some_iff.mp hn)
      exact (List.getElem_inj s.nd).mp (h1.2.trans h2.2.symm)
  · obtain ⟨q1, q2⟩ := s.pr b o' e
    have hb : b ≠ a := fun z => q2 (z ▸ List.mem_of_getElem? hn)
    rw [upd_ne hb]
    exact ⟨q1, q2⟩
theorem SS.unl {σ : St} {es : Env} (q : SS G P ρ H σ es) : SS G P ρ (upd H a u) σ es := by
  refine ⟨q.len, fun j e z => ?_, fun j ds z => ?_, fun j ds z => ?_, q.dis⟩
  · obtain ⟨x, y1, y2⟩ := q.val j e z
    exact ⟨x, y1, y2.unl h hu⟩
  · obtain ⟨c, us, y1, y2, y3⟩ := q.bor j ds z
    exact ⟨c, us, y1, y2, y3.unl h hu⟩
  · obtain ⟨c, us, y1, y2, y3, y4, y5⟩ := q.own j ds z
    exact ⟨c, us, y1, by rw [upd_ne (ne_dic h y2 fun _ z => nomatch z)]; exact y2, y3.unl h hu, y4, y5⟩
end
end
/-! words: what runs while the dict at the slot i is walked -/
section
variable {G : GT} {W : WX} {X : Cx} {e : Expr} {m : ME} {st : Stmt} {ms : MS}
end
/-! the walk -/
section
variable {G : GT} {P : Hp} {ρ : List Addr} {H : Hp} {S : Store}
end
/-! by rewriting -/
abbrev QMI2 := List D × (Store → Prop) → Store → Prop
section
variable {es : Env} {S : Store} {Q : RV → Store → Prop} {X : QX} {E : En} {m : ME} {ms : MS} {n i : Nat} {t : Bool} {kvs : List (List Key × D)}
end
/-! len of a dict -/
end DM
namespace L2
open PySem PySem.Spec PyProof.Rows
end L2
namespace DM
open PySem PySem.Spec L2
section
variable {G : GT} {W : WX} {X : Cx} {a : Expr} {as : List Expr} {ms : List ME} {p pos : Pos} {k : Nat}
end
/-! xs.clear() -/
section
variable {G : GT} {W : WX} {X : Cx} {o : Expr} {mo : ME} {apos cpos : Pos}
end
end DM
/-! sorted of a list of data -/
namespace L2
open PySem PySem.Spec PyProof.Rows PySem.W
end L2
namespace DM
open PySem PySem.Spec L2 PyProof.Rows PySem.W
section
variable {G : GT} {W : WX} {X : Cx} {a : Expr} {as : List Expr} {ms : List ME} {p pos : Pos} {k : Nat}
end
end DM

/-! EB: {k: v} with a tuple for a key; sorted(d) of a dict with tuples for keys -/
namespace EBW
open PySem
open Sem (wp)
section
variable {prog : Program} {w : World} {K : Type} [DecidableEq K] {knd : HeapKind prog w K} {A : Around} {E : Value → Shared → Prop} {s : Shared}
end
end EBW
namespace L2
open PySem PySem.Spec PyProof.Rows PySem.W
section
variable {X : Cx}
/-! sorted(d) -/
end
end L2
namespace DM
open PySem PySem.Spec L2 PyProof.Rows PySem.W
section
variable {G : GT} {W : WX} {X : Cx} {kx vx : Expr} {mk mv : ME} {pos : Pos} {k : Nat}
end
section
variable {G : GT} {W : WX} {X : Cx} {a : Expr} {as : List Expr} {ms : List ME} {p pos : Pos} {k : Nat}
end
/-! by rewriting -/
section
variable {es : Env} {S : Store} {Q : RV → Store → Prop} {X : QX} {a b : ME}
end
end DM

/-! EG: sorted(zip(a, b)) of two sequences of numbers that are as long; len(set(xs)) of a list of tuples of numbers -/
namespace EGW
open PySem
open Sem (wp)
section
variable {prog : Program} {w : World} {A : Around} {E : Value → Shared → Prop} {s : Shared} {z TI TO i1 i2 T : Addr} {fp1 fp2 : List Addr} {n1 n2 i : Nat} {P1 P2 : Nat → Value → Prop} {St1 St2 : Nat → Heap → Prop} {f : Bool} {oT : Obj}
/-- the slot of a zip for its own tuple -/
def Slot (h : Heap) (z TI TO i1 i2 S : Addr) : Prop := IsZip h z TI TO .none ∨ ∃ T f oT, IsZipHeld h z TI TO T f ∧ h.get? T = some oT ∧ T ≠ z ∧ T ≠ TO ∧ T ≠ i1 ∧ T ≠ i2 ∧ T ≠ S
theorem Slot.there {h : Heap} {z TI TO i1 i2 S : Addr} (q : Slot h z TI TO i1 i2 S) : ∃ f0, IsZip h z TI TO f0 ∨ ∃ T f, IsZipHeld h z TI TO T f := by
  rcases q with q | ⟨T, f, _, q, _⟩
  · exact ⟨.none, .inl q⟩
  · exact ⟨.none, .inr ⟨T, f, q⟩⟩
abbrev IsTup (h : Heap) (c : Addr) (x y : Value) : Prop := IsTupOf2 h c x y
/-- the tuples that were handed out -/
structure Out (P1 P2 : Nat → Value → Prop) (lo : Addr) (h : Heap) (as : List Addr) : Prop where
  rise : as.Pairwise (· < ·)
  above : ∀ a ∈ as, lo < a
  pairs : ∀ (j : Nat) (a : Addr), as[j]? = some a → ∃ x y, P1 j x ∧ P2 j y ∧ IsTupOf2 h a x y
theorem Out.there {lo : Addr} {h : Heap} {as : List Addr} (g : Out P1 P2 lo h as) {a : Addr} (ha : a ∈ as) : a < h.objs.size := by
  obtain ⟨j, hj⟩ := List.mem_iff_getElem?.mp ha
  obtain ⟨_, _, _, _, e⟩ := g.pairs j a hj
  exact Heap.lt_size e
end
section
variable {prog : Program} {w : World} {A : Around} {E : Value → Shared → Prop} {s : Shared} {R : Result → Shared → Prop} {z TI TO i1 i2 : Addr} {fp1 fp2 : List Addr} {n : Nat} {P1 P2 : Nat → Value → Prop} {St1 St2 : Nat → Heap → Prop}
theorem Slot.keep {h h' : Heap} {S : Addr} (q : Slot h z TI TO i1 i2 S) (hk : ∀ b o, b ≠ S → h.get? b = some o → h'.get? b = some o) (hz : z ≠ S) : Slot h' z TI TO i1 i2 S := by
  rcases q with q | ⟨T, f, oT, q, hT, tz, tO, t1, t2, tS⟩
  · exact .inl (hk _ _ hz q)
  · exact .inr ⟨T, f, oT, hk _ _ hz q, hk _ _ tS hT, tz, tO, t1, t2, tS⟩
end
end EGW
namespace L2
open PySem PySem.Spec PyProof.Rows PySem.W DM
end L2
namespace L2
open PySem PySem.Spec PyProof.Rows PySem.W DM
end L2
namespace DM
open PySem PySem.Spec L2 PyProof.Rows PySem.W
section
variable {G : GT} {W : WX} {X : Cx} {a b : Expr} {ma mb : ME} {p p2 q pos : Pos} {k : Nat}
end
/-! len(set(xs)) -/
section
variable {G : GT} {W : WX} {X : Cx} {e : Expr} {m : ME} {p p2 q pos : Pos} {k : Nat}
end
end DM

/-! EJ: instances of own classes: C(..), o.f, o.f = e, o.m(..); append of a new list on a thing -/
namespace L2
open PySem PySem.Spec PyProof.Rows
section
variable {X : Cx} {CX : CXT} {k : Nat} {f C : Addr} {fd : FuncData} {ps : List Str} {sp : Sp} {E : St → XK} {x m : Str} {p pos apos : Pos} {e o : Expr} {es : List Expr} {ta : TE} {t : TA}
end
end L2
namespace DM
open PySem PySem.Spec L2
/-! ### what the text says of a class -/
section
variable {G : GT} {P : Program} {w : World} {K : PySem.W.Frag} {mg : Str → Option Value} {base : Heap} {k n c : Nat} {x qual : Str} {st : Stmt} {C f : Addr} {fd : FuncData} {ps N : List Str} {m : MF}
end
/-! ### the words -/
/-- the thing at a place is an instance of class c -/
def objAt (S : Store) (c : Nat) : RV → Option (Nat × List (Str × D))
  | .d (.loc n) => match S[n]? with
    | some (.obj c' fs) => if c' = c then some (n, fs) else none
    | _ => none
  | _ => none
def fldS (c : Nat) (f : Str) (S : Store) (r : RV) : Res RV := match objAt S c r with
  | some (_, fs) => match fs.lookup f with
    | some d => .ok (.d d) S
    | none => .bad
  | none => .bad
/-- o.f -/
def eFld (c : Nat) (f : Str) (m : ME) : ME := fun es S => (m es S).bind fun r S1 => fldS c f S1 r
/-- an attribute is put -/
def putO (f : Str) (y : D) : List (Str × D) → List (Str × D)
  | [] => [(f, y)]
  | (g, x) :: r => if g = f then (g, y) :: r else (g, x) :: putO f y r
def putS (c : Nat) (f : Str) (es : Env) (x : D) (S : Store) (r : RV) : SR := match objAt S c r with
  | some (n, fs) => if fs.length < 1000 then .nx es (S.set n (.obj c (putO f x fs))) else .bad
  | none => .bad
/-- o.f = e -/
def sFld (c : Nat) (f : Str) (mo mv : ME) : MS := fun es S => bindS ((mv es S).bind item) es fun x S1 => bindS (mo es S1) es fun r S2 => putS c f es x S2 r
/-- o.m(..) -/
def eMeth (c : Nat) (x : Str) (m : MF) (mo : ME) (ms : List ME) : ME := fun es S => (mo es S).bind fun r S1 => match objAt S1 c r with
  | some (n, fs) => match fs.lookup x with
    | none => (eArgs ms es S1).bind fun rs S2 => okR (m (.d (.loc n) :: rs) S2)
    | some _ => .bad
  | none => .bad
def mkS (n : Nat) (r : Res RV) : Res RV := match r with
  | .ok (.d .non) S => .ok (.d (.loc n)) S
  | _ => .bad
/-- C(): the new one's place, then its __init__ -/
def eMake (c : Nat) (m : MF) : ME := fun _ S => mkS S.length (m [.d (.loc S.length)] (S ++ [.obj c []]))
def appF (S : Store) (n : Nat) (d : D) : Res RV := match S[n]? with
  | some (.lst ds) => if ds.length < sizeLine then .ok (.d .non) (S.set n (.lst (ds ++ [d]))) else .bad
  | _ => .bad
/-- o.append(new list) -/
noncomputable def eAppF (mo mi : ME) : ME := fun es S => (mo es S).bind fun x S1 => match x with
  | .d (.loc n) => if tyF "list" S1 x.weak = true then ((mi es S1).bind item).bind fun d S2 => appF S2 n d else .bad
  | _ => .bad
section
variable {G : GT} {W : WX} {X : Cx} {o e : Expr} {as : List Expr} {ms : List ME} {mo me mi : ME} {m : MF} {f x : Str} {p pos pos' apos cpos : Pos} {k n c : Nat}
end
/-! ### by rewriting -/
section
variable {es : Env} {S : Store} {E : En} {Q : RV → Store → Prop} {X : QX} {a b mo mi : ME} {ms : List ME} {m : MF} {f x : Str} {n c : Nat} {fs : List (Str × D)} {d y : D}
def kFld (c : Nat) (f : Str) (Q : RV → Store → Prop) (X : QX) (r : RV) (S : Store) : Prop := WR (fldS c f S r) Q X
theorem w_fld : WR (eFld c f mo es S) Q X = WR (mo es S) (kFld c f Q X) X := by
  unfold eFld kFld
  rw [WR_bind]
def kPutO2 (c : Nat) (f : Str) (x : D) (es : Env) (E : En) (r : RV) (S : Store) : Prop := WS (putS c f es x S r) E
def kPutO (c : Nat) (f : Str) (mo : ME) (es : Env) (E : En) (r : RV) (S : Store) : Prop := QI r S fun x S1 => WR (mo es S1) (kPutO2 c f x es E) (kX es E)
theorem kPutO_d : kPutO c f mo es E (.d y) S = WR (mo es S) (kPutO2 c f y es E) (kX es E) := nr rfl
theorem kPutO_l {ds : List D} : kPutO c f mo es E (.l true ds) S = WR (mo es (S ++ [.lst ds])) (kPutO2 c f (.loc S.length) es E) (kX es E) := nr rfl
theorem w_sfld : WS (sFld c f a b es S) E = WR (b es S) (kPutO c f a es E) (kX es E) := by
  unfold sFld kPutO kPutO2 kX
  rw [WS_bindS]
  simp only [WR_bind, WR_item, WS_bindS]
def kMeth3 (m : MF) (n : Nat) (Q : RV → Store → Prop) (X : QX) (rs : List RV) (S : Store) : Prop := WR (okR (m (.d (.loc n) :: rs) S)) Q X
def kMeth (c : Nat) (x : Str) (m : MF) (ms : List ME) (es : Env) (Q : RV → Store → Prop) (X : QX) (r : RV) (S : Store) : Prop := WR (match objAt S c r with
  | some (n, fs) => match fs.lookup x with
    | none => (eArgs ms es S).bind fun rs S2 => okR (m (.d (.loc n) :: rs) S2)
    | some _ => .bad
  | none => .bad) Q X
theorem kMeth3_e {rs : List RV} : kMeth3 m n Q X rs S = WR (okR (m (.d (.loc n) :: rs) S)) Q X := nr rfl
theorem w_meth : WR (eMeth c x m mo ms es S) Q X = WR (mo es S) (kMeth c x m ms es Q X) X := by
  unfold eMeth kMeth
  rw [WR_bind]
theorem w_make : WR (eMake c m es S) Q X = WR (mkS S.length (m [.d (.loc S.length)] (S ++ [.obj c []]))) Q X := nr rfl
theorem mk_e {S' : Store} : mkS n (.ok (.d .non) S') = .ok (.d (.loc n)) S' := nr rfl
theorem WR_ok {r : RV} : WR (.ok r S) Q X = Q r S := nr rfl
def kAppF (mi : ME) (es : Env) (Q : RV → Store → Prop) (X : QX) (r : RV) (S : Store) : Prop := WR (match r with
  | .d (.loc n) => if tyF "list" S r.weak = true then ((mi es S).bind item).bind fun d S2 => appF S2 n d else .bad
  | _ => .bad) Q X
theorem w_appF : WR (eAppF mo mi es S) Q X = WR (mo es S) (kAppF mi es Q X) X := by
  unfold eAppF kAppF
  rw [WR_bind]
end
end DM

/-! EK: a refusal with a field: its __init__, raise, try .. except as, its field; refusals as values -/
namespace L2
open PySem PySem.Spec PyProof.Rows
section
variable {X : Cx} {pins : List (Addr × Obj)} {σ : St} {H : Hp} {s : Shared}
/-- a thing that may be told in another way -/
theorem review {a : Addr} {o o' : HO} (I : Inv X pins σ H s) (ha : H a = some o) (ht : ∀ xs, o ≠ .tup xs) (hf : ∀ ob u, o ≠ .frz ob u) (hb : ∀ ps, o ≠ .tbl ps) (ho : ∀ x, o ≠ .own x) (new : ObjOk X.prog X.w (upd H a o') s.heap a o') : Inv X pins σ (upd H a o') s := by
  have nn : ∀ b, H b = none → b ≠ a := fun b e z => by rw [z, ha] at e; cases e
  refine ⟨I.ok, I.os, I.bare, ⟨I.base.keep, I.base.slot, fun b u e n hx => ?_, I.base.there, fun b xs e => ?_, fun b u v e => ?_, fun b ps e => ?_⟩, I.loc, I.cell, ?_, fun y c e => ?_, fun p hp => ?_, fun b u e => ?_, I.len⟩
  · have q := I.base.free b u e n hx
    rw [upd_ne (nn _ q)]; exact q
  · have q := I.base.tups b xs e
    rw [upd_ne (ne_of q ha fun z => ht xs z.symm)]; exact q
  · have q := I.base.frzs b u v e
    rw [upd_ne (ne_of q ha fun z => hf u v z.symm)]; exact q
  · obtain ⟨more, q⟩ := I.base.tbls b ps e
    rw [upd_ne (ne_of q ha fun z => hb _ z.symm)]; exact ⟨more, q⟩
  · rw [upd_ne (nn _ I.free)]; exact I.free
  · rw [upd_ne (nn _ (I.freeC y c e))]; exact I.freeC y c e
  · obtain ⟨h1, h2, h3, h4, h5⟩ := I.pin p hp
    exact ⟨h1, by rw [upd_ne (nn _ h2)]; exact h2, h3, h4, h5⟩
  · by_cases hb' : b = a
    · subst hb'
      rw [upd_same] at e
      cases e
      exact new
    · rw [upd_ne hb'] at e
      refine ObjOk.stay (I.hok b u e) (fun _ _ _ z => z) (fun b' q => ?_) (fun b' xs q => ?_)
      · rw [upd_ne (ne_of q ha fun z => ho b z.symm)]; exact q
      · rw [upd_ne (ne_of q ha fun z => ht xs z.symm)]; exact q
/-! ### the field of a kept refusal -/
def tXk (K : PySem.W.Frag) (n : Str) (te : TE) : TE := fun σ H Q => te σ H fun x H1 => ∃ (a C dd : Addr) (oe : Obj) (fs : List (Str × V)) (v : V), x = .ref a ∧ H1 a = some (ExK oe a) ∧ Zc (.ref C) (some dd) oe ∧ (∃ vs, oe.data = .fields vs) ∧
  XfC K C ∧ PySem.W.findIn K (.ref C) n = some none ∧ H1 dd = some (.xd fs) ∧ fs.lookup n = some v ∧ Q v H1
theorem pe_xk {e : Expr} {te : TE} {pos : Pos} {n : Str} (he : PE X e te) (hb : attributeBase e n X.env (eval e X.env) = eval e X.env := by rfl) : PE X (.Attribute e n pos) (tXk X.K n te) := by
  refine ⟨fun pins s σ H Q I h => attr_of hb (thn (he.run pins s σ H _ I h) fun u s1 ⟨x, H1, I1, rx, a, C, dd, oe, fs, v, ex, ea, hz, hf, T, hno, ed, l, q⟩ => ?_)⟩
  subst ex
  cases rx
  have ha : s1.heap.get? a = some oe := (I1.hok a _ ea).1
  obtain ⟨vs, hd⟩ := hf
  have hx : ObjOk X.prog X.w H1 s1.heap dd (.xd fs) := I1.hok dd _ ed
  obtain ⟨mA, hns, hr⟩ := hx
  obtain ⟨od, ho, hl⟩ := lookIn_ns hns
  have hn := hr n
  rw [l] at hn
  obtain ⟨u, hu, ru⟩ := RelO.some_of hn
  have J : PySem.W.InstAt s1.heap a oe C (some od) := ⟨ha, hz.1, by unfold PySem.W.notCls; rw [hd] <;> rfl, by rw [hz.2]; exact ho⟩
  exact HandSPX.exc_get I1.kIn J T.ga T.gg T.exC (PySem.W.findObj_own T.hdC hno rfl (by rw [hl, hu])) (handed_of ru) ⟨v, H1, I1.tok _, ru, q⟩
end
/-! ### its __init__ -/
/-- what the written part says of the class whose __init__ is called -/
structure BaseC (K : PySem.W.Frag) (C : Addr) : Prop where
  kC : PySem.W.keepIn K (.ref C) = true
  rd : PySem.W.readsIn K C (.type "type") = true
  ga : PySem.W.specialIn K (.ref C) "__getattribute__" = some (some (.builtin "type.__getattribute__"))
  ini : PySem.W.findCls K (.ref C) (.type "type") "__init__" = some (.val (.builtin "ValueError.__init__"))
section
variable {X : Cx} {e : Expr} {es : List Expr} {ta : TA} {x : Str} {p1 p2 pos : Pos}
theorem pe_cinit {C0 : Addr} {pl : Sem Bool} (B : BaseC X.K C0) (hg : Gl X x) (hm : X.mg x = some (.ref C0)) (ha : PA X (e :: es) ta)
    (hc : eval (.Call (.Attribute (.Name x p1) "__init__" p2) (e :: es) [] pos) X.env = (do
      let ov ← eval (.Name x p1) X.env
      standAt p2.atName
      let (f, first) ← holding [ov] (getMethod ov "__init__" pl)
      callWith pos f first (backTo pos (starEach (e :: es) X.env)) (backToKw pos (keywordEach [] X.env))) := by rfl)
    (hdb : (x == ("__debug__" : Str)) = false := by decide) (he : starEach (e :: es) X.env = (false, eval e X.env) :: starEach es X.env := by rfl) (hpl : (backTo pos (starEach es X.env)).any (·.1) = false := by rfl) :
    PE X (.Call (.Attribute (.Name x p1) "__init__" p2) (e :: es) [] pos) (tVeI X.K ta) := by
  refine ⟨fun pins s σ H Q I h => PySem.W.methodCall_KW (ld_glob I hg hm ?_ hdb) hc⟩
  refine PySem.W.method_cls I.kIn B.ga (PySem.W.cls_value I.kIn B.rd B.ini (by decide +kernel) ?_)
  show wpAny _ _ (callWith pos (Value.builtin "ValueError.__init__") [] (backTo pos (starEach (e :: es) X.env)) []) _ _ _
  refine PyProof.Rows.callWith_method1 (thn (ha.run pos pins _ σ H _ (I.tok _) h) fun us s1 ⟨vs, H1, I1, r1, a, C, ws, ev, hl, T, ea, q⟩ => ?_) he hpl
  subst ev
  cases r1 with
  | cons ra rw' =>
    cases ra
    exact oinit_ok T I1 ea (by have := Paired.length rw'; rw [sizeLine_eq]; omega) fun s' J => ⟨.non, H1, J, rfl, q⟩
end
/-- what C.__init__(self, at) does -/
def spAt (C : Addr) : Sp := fun vs H Q _ => ∃ (a : Addr) (y : V), vs = [.ref a, y] ∧ H a = some (exo a C none) ∧ ∀ dx, H dx = none → dx ≠ a → Q .non (upd (upd H dx (exd dx [("at", y)])) a (exo a C (some dx)))
/-! ### C(e, ..) as a value -/
def tOexV (C : Addr) (sp : Sp) (ta : TA) : TE := fun σ H Q => ta σ H fun vs H1 => vs.length ≤ 1000 ∧ ∀ a, H1 a = none → sp (.ref a :: vs) (upd H1 a (exo a C none))
  (fun v H2 => v = .non ∧ ∃ (d : Addr) (fs : List (Str × V)), H2 a = some (exo a C (some d)) ∧ H2 d = some (exd d fs) ∧ ∀ oe, Zc (.ref C) (some d) oe → (∃ ws, oe.data = .fields ws) → Q (.ref a) (upd (upd H2 a (ExK oe a)) d (.xd fs))) (fun _ _ _ => False)
theorem pe_oexV {X : Cx} {CX : CXT} {x : Str} {C fI : Addr} {k : Nat} {fd : FuncData} {ps : List Str} {sp : Sp} {e : Expr} {es : List Expr} {ta : TA} {p pos : Pos} (T : OexC X.K C) (iC : PySem.W.findIn X.K (.ref C) "__init__" = some (some (.ref fI))) (tI : PySem.W.typeIn X.K (.ref fI) = some (.type "function"))
    (F1 : FnOk X.prog X.w X.K X.mg X.base CX k fI fd ps sp) (hr : Room (k + 1) X.A) (hb : Binds X.K fd ps []) (hx : Passes CX X (fun _ _ _ => False)) (hg : Gl X x) (hm : X.mg x = some (.ref C)) (ha : PA X (e :: es) ta)
    (hdb : (x == ("__debug__" : Str)) = false) (he : starEach (e :: es) X.env = (false, eval e X.env) :: starEach es X.env) (hpl : (backTo pos (starEach es X.env)).any (·.1) = false) :
    PE X (.Call (.Name x p) (e :: es) [] pos) (tOexV C sp ta) := by
  refine ⟨fun pins s σ H Q I h => wpAny_Call_Name_kw (ld_glob I hg hm ?_ hdb)⟩
  obtain ⟨nm, q, N, bs, bm, sn, sub, ab, col, dd, k0, k1, k2, k3, k5, hC, hbm⟩ := T.cls
  refine PySem.W.callWith_K (h₀ := X.base) I.ok.mod.kin T.kC (thn (ha.run pos pins s σ H _ I h) fun us s1 ⟨vs, H1, I1, r1, hz, q1⟩ => ⟨I1.kIn, ?_⟩) he hpl
  obtain ⟨hp, g, dr, tk, os⟩ := s1
  have hq := q1 (hp.objs.size + 1) (I1.hok.fresh (Nat.le_succ _))
  have kk : ∀ b o, hp.get? b = some o → ((hp.push (PySem.W.kdv_tup us)).push (PySem.HandSPX.excO C hp.objs.size)).get? b = some o := fun b o e => Heap.get?_push_of_some _ (Heap.get?_push_of_some _ e)
  have hget : ((hp.push (PySem.W.kdv_tup us)).push (PySem.HandSPX.excO C hp.objs.size)).get? (hp.objs.size + 1) = some (PySem.HandSPX.excO C hp.objs.size) := by heap_get
  have I2 : Inv X pins σ (upd H1 (hp.objs.size + 1) (exo (hp.objs.size + 1) C none)) ⟨(hp.push (PySem.W.kdv_tup us)).push (PySem.HandSPX.excO C hp.objs.size), g, dr, tk, os⟩ :=
    I1.laid (t' := tk) kk (Nat.le_succ _) (exo_ok hget)
  have r2 : Vals (V.ref (hp.objs.size + 1) :: vs) (Value.ref (hp.objs.size + 1) :: us) := .cons rfl r1
  have hl : (Value.ref (hp.objs.size + 1) :: us).length = ps.length := by rw [← r2.length]; exact F1.len _ _ _ _ hq
  have hus : us.length ≤ sizeLine := by rw [← Paired.length r1, sizeLine_eq]; omega
  have hbn := hb _ (Value.ref (hp.objs.size + 1) :: us) I2.kIn (by rw [List.append_nil]; exact hl)
  rw [List.append_nil] at hbn
  refine wpAny_call (PySem.HandSPX.call_own F.excBase_ValueError (fun Y => PySem.HandSPX.refsVE_contains Y bm hbm) (I1.kIn _ _ hC) (PySem.W.looks_findIn I1.kIn iC) (fun self => PySem.W.bind_fn I1.kIn self tI) hus
    (codeAny_mono (F1.run _ X.stack _ _ ⟨Value.ref (hp.objs.size + 1) :: us, []⟩ (Value.ref (hp.objs.size + 1) :: us) _ _ (fun _ _ _ => False) (hr.make C us []) (I2.env0.make C us []) hbn r2 hq) fun r s' hq' => ?_))
  cases r with
  | error er => exact hx pins σ _ _ er s' I2 hq'
  | ok fl =>
    cases fl with
    | ret u =>
      obtain ⟨v, H2, I3, rv, ev, d, fs, ea, ed, q2⟩ := I2.after hq'
      subst ev
      obtain ⟨t0, hoe⟩ := exo_at I3.hok ea
      obtain ⟨mA, hns, rel⟩ := exd_at I3.hok ed
      have hda : d ≠ hp.objs.size + 1 := fun z => by
        obtain ⟨o, es, ep, e1, e2, _⟩ := hns
        rw [z, hoe] at e1
        have z2 := Option.some.inj e1
        subst z2
        cases e2
      have I4 := review (o' := ExK { cls := .ref C, dict := some d, data := .fields #[.ref t0, .none, .none, .none, .bool false, .none] } (hp.objs.size + 1)) I3 ea (fun xs z => exo_tup z) (fun ob u z => exo_frz z) (fun ps z => exo_tbl z) (fun x z => exo_own z) ⟨hoe, hoe, ⟨_, hoe⟩, fun h1 h2 q k => k _ q⟩
      have ed' : upd H2 (hp.objs.size + 1) (ExK { cls := .ref C, dict := some d, data := .fields #[.ref t0, .none, .none, .none, .bool false, .none] } (hp.objs.size + 1)) d = some (exd d fs) := by rw [upd_ne hda]; exact ed
      have I5 := review (o' := .xd fs) I4 ed' (fun xs z => exd_tup z) (fun ob u z => by
          have z' : HO.ext _ = HO.frz ob u := z
          cases z') (fun ps z => by
          have z' : HO.ext _ = HO.tbl ps := z
          cases z') (fun x z => exd_own z) ⟨mA, hns, rel⟩
      exact ⟨rv, ⟨V.ref (hp.objs.size + 1), _, I5, rfl, q2 _ ⟨rfl, rfl⟩ ⟨_, rfl⟩⟩⟩
    | next => exact False.elim hq'
    | brk => exact False.elim hq'
    | cont => exact False.elim hq'
/-- X(e), an own exception class without own __init__, as a value that stands still -/
theorem exk_ok {P : Program} {w : World} {H : Hp} {h : Heap} {a : Addr} {oe : Obj} (e : h.get? a = some oe) : ObjOk P w H h a (ExK oe a) := ⟨e, e, ⟨_, e⟩, fun h1 h2 q k => k _ q⟩
theorem pe_excK {X : Cx} {C : Addr} {bmB : List Value} {B newId initId : String} {x : Str} {e : Expr} {ta : TE} {p pos : Pos} (F : ExcBaseFacts B newId initId bmB) (q : PySem.W.excIn X.K C bmB newId = true) (gC : X.mg x = some (.ref C)) (kC : PySem.W.keepIn X.K (.ref C) = true) (hg : Gl X x)
    (he : PE X e ta) (hs : starEach [e] X.env = (false, eval e X.env) :: starEach [] X.env := by rfl) (hdb : (x == ("__debug__" : Str)) = false := by decide) :
    PE X (.Call (.Name x p) [e] [] pos) (fun σ H Q => ta σ H fun _ H1 => ∀ a oe, H1 a = none → Zc (.ref C) none oe → (∃ vs, oe.data = .fields vs) → Q (.ref a) (upd H1 a (ExK oe a))) := by
  refine ⟨fun pins s σ H Q I h => wpAny_Call_Name_kw (ld_glob I hg gC (PySem.W.callWith_K (h₀ := X.base) I.ok.mod.kin kC ?_ hs (by rfl)) hdb)⟩
  rw [hs]
  show wpAny _ _ (spliced ((false, eval e X.env) :: backTo pos (starEach [] X.env))) _ _ s
  refine Calls.spliced_cons (thn (he.run pins s σ H _ I h) fun u s1 ⟨v, H1, I1, r1, q1⟩ => Calls.spliced_nil ⟨I1.kIn, ?_⟩)
  obtain ⟨bm, N, nm, qn, bs, hdct, sn, sub, ab, col, dd, k0, k1, k2, k3, k5, mN, hC, hN, hni, T⟩ := exc_obj I1.kIn q
  refine wpAny_call_exc_subT F T hC hN hni (fun h' a hm => ?_) (by show 1 ≤ sizeLine; rw [sizeLine_eq]; omega)
  have hn : H1 a = none := I1.hok.gone hm.new
  obtain ⟨t, ht, _, _⟩ := hm.there
  exact ⟨.ref a, upd H1 a (ExK _ a), I1.laidN hm.keeps hm.new hn (exk_ok ht), rfl, q1 a _ hn ⟨rfl, rfl⟩ ⟨_, rfl⟩⟩
end L2
namespace DM
open PySem PySem.Spec L2
/-! ### the words -/
/-- the refusal with a field: its class, its __init__ -/
def CalN (G : GT) (P : Program) (w : World) (K : PySem.W.Frag) (mg : Str → Option Value) (base : Heap) : Prop :=
  ∃ (C fI : Addr) (fd : FuncData), G.cls[6]? = some C ∧ mg "NoText" = some (.ref C) ∧ OexC K C ∧ PySem.W.findIn K (.ref C) "__init__" = some (some (.ref fI)) ∧ PySem.W.typeIn K (.ref fI) = some (.type "function") ∧
    FnOk P w K mg base (L2.CX P w) 1 fI fd ["self", "at"] (spAt C) ∧ Binds K fd ["self", "at"] []
/-- its field may be read -/
def AtF (K : PySem.W.Frag) (cl : List Addr) : Prop := ∃ C, cl[6]? = some C ∧ XfC K C ∧ PySem.W.findIn K (.ref C) "at" = some none
def sRaiseA (m : ME) : MS := fun es S => bindS ((m es S).bind item) es fun d S1 => .ex 6 [d] es S1
def sTryA (i j : Nat) (b : MS) : MS := fun es S => match b es S with
  | .ex 6 [d] es' S' => if i < es'.length then .nx ((es'.set j (.v d)).set i .no) S' else .bad
  | .ex _ _ _ _ => .bad
  | r => r
def atS (S : Store) : RV → Res RV
  | .d (.exn 6 [d]) => .ok (.d d) S
  | _ => .bad
def eAt (m : ME) : ME := fun es S => (m es S).bind fun r S1 => atS S1 r
def eExc (c : Nat) (m : ME) : ME := fun es S => (m es S).bind fun _ S1 => .ok (.d (.exn c [])) S1
def eExcA (m : ME) : ME := fun es S => ((m es S).bind item).bind fun d S1 => .ok (.d (.exn 6 [d])) S1
theorem at_look {v : V} : List.lookup ("at" : Str) [(("at" : Str), v)] = some v := by simp [List.lookup]
section
variable {G : GT} {W : WX} {X : Cx} {e : Expr} {me : ME} {m : MS} {x n y : Str} {p pos pos' pos2 np yp ep fp ap : Pos} {i j c : Nat} {body : List Stmt}
theorem se_at (A : AtF X.K G.cls) (he : SE G W X e me) (hb : attributeBase e "at" X.env (eval e X.env) = eval e X.env := by rfl) : SE G W X (.Attribute e "at" pos) (eAt me) := by
  obtain ⟨C, hC, T, hno⟩ := A
  refine ⟨he.k, PE.of (pe_xk he.pe hb) fun σ H Q h => ?_⟩
  obtain ⟨P, ρ, es, S, s, q, h⟩ := h
  refine rdE_then s q h fun r S1 v ρ1 H1 e1 s1 k1 rr h => ?_
  unfold atS at h
  split at h
  · cases rr with
    | exo hC2 ha hz hf hd rv =>
      rw [hC] at hC2
      cases hC2
      exact ⟨_, C, _, _, _, _, rfl, ha, hz, hf, T, hno, hd, at_look, h _ ρ1 H1 s1 (TK.refl _ _) rv⟩
  · exact h.elim
theorem se_exc (hc : RaiseF X.K X.mg G.cls c x) (hg : Gl X x) (he : SE G W X e me) (hs : starEach [e] X.env = (false, eval e X.env) :: starEach [] X.env := by rfl) (hdb : (x == ("__debug__" : Str)) = false := by decide) : SE G W X (.Call (.Name x p) [e] [] pos) (eExc c me) := by
  obtain ⟨C, hC, gC, kC, xC, bC, tC⟩ := hc
  refine ⟨he.k, PE.of (pe_excK PySem.F.excBase_ValueError xC gC kC hg he.pe hs hdb) fun σ H Q h => ?_⟩
  obtain ⟨P, ρ, es, S, s, q, h⟩ := h
  refine rdE_then s q h fun r S1 v ρ1 H1 e1 s1 k1 rr h a oe na hz hf => ?_
  have g : ∀ b o, H1 b = some o → upd H1 a (ExK oe a) b = some o := fun b o z => by rw [upd_ne (ne_of_none z na)]; exact z
  exact h (.ref a) ρ1 _ (s1.grow g) (TK.same g) (.exn hC upd_same hz hf)
theorem se_excA (N : CalN G X.prog X.w X.K X.mg X.base) (hr : Room 2 X.A) (hg : Gl X "NoText") (he : SE G W X e me)
    (hst : starEach [e] X.env = (false, eval e X.env) :: starEach [] X.env := by rfl) (hpl : (backTo pos (starEach [] X.env)).any (·.1) = false := by rfl) : SE G W X (.Call (.Name "NoText" p) [e] [] pos) (eExcA me) := by
  obtain ⟨C, fI, fd, hC, hm, T, iC, tI, F, hb⟩ := N
  refine ⟨he.k, PE.of (pe_oexV T iC tI F hr hb (fun _ _ _ _ _ _ _ ⟨_, _, _, _, _, _, _, _, _, _, _, _, z⟩ => (show False from z).elim) hg hm (pa_cons he.pe pa_nil hst) (by decide) hst hpl) fun σ H Q h => ?_⟩
  obtain ⟨P, ρ, es, S, s, q, h⟩ := h
  have h' : Aft G (fun cls d H' => W cls d σ H') P ρ H ((me es S).bind fun r S1 => (item r S1).bind fun d S2 => .ok (.d (.exn 6 [d])) S2) Q := by
    have h : Aft G (fun cls d H' => W cls d σ H') P ρ H (((me es S).bind item).bind fun d S1 => .ok (.d (.exn 6 [d])) S1) Q := h
    cases z : me es S with
    | bad => rw [z] at h; exact h
    | ex c p S2 => rw [z] at h; exact h
    | ok r S2 => rw [z] at h; exact h
  refine rdE_then s q h' fun r S1 v ρ1 H1 e1 s1 k1 rr h => ⟨(show 1 ≤ 1000 by decide), fun a na => ⟨a, v, rfl, upd_same, fun dx ndx ne => ⟨rfl, dx, [("at", v)], upd_same, ?_, fun oe hz hf => ?_⟩⟩⟩
  · rw [upd_ne ne]; exact upd_same
  · rw [upd_ne ne] at ndx
    have g : ∀ b o, H1 b = some o → upd (upd (upd (upd (upd H1 a (L2.exo a C none)) dx (exd dx [("at", v)])) a (L2.exo a C (some dx))) a (ExK oe a)) dx (.xd [("at", v)]) b = some o := fun b o z => by
      have h1 : b ≠ a := ne_of_none z na
      have h2 : b ≠ dx := ne_of_none z ndx
      rw [upd_ne h2, upd_ne h1, upd_ne h1, upd_ne h2, upd_ne h1]
      exact z
    have fin : ∀ (ρ2 : List Addr) (S2 : Store) (d : D), VS G P ρ2 H1 S2 → TK ρ1 H1 ρ2 H1 → Rep G ρ2 H1 d v → Aft G (fun cls d H' => W cls d σ H') P ρ1 H1 (.ok (.d (.exn 6 [d])) S2) Q → Q (.ref a) (upd (upd (upd (upd (upd H1 a (L2.exo a C none)) dx (exd dx [("at", v)])) a (L2.exo a C (some dx))) a (ExK oe a)) dx (.xd [("at", v)])) := by
      intro ρ2 S2 d s2 k2 rd h
      exact h (.ref a) ρ2 _ (s2.grow g) (k2.trans (TK.same g)) (.exo hC (by rw [upd_ne (Ne.symm ne)]; exact upd_same) hz hf upd_same (rd.mono (TK.same g)))
    cases r with
    | d y => exact fin ρ1 S1 y s1 (TK.refl _ _) rr h
    | l fr ds =>
      cases fr with
      | false => exact h.elim
      | true =>
        obtain ⟨b, vs, rfl, hb, rb, nb, pb⟩ := rr
        exact fin (ρ1 ++ [b]) _ (.loc S1.length) (s1.share hb rb nb pb) ⟨⟨[b], rfl⟩, fun _ _ z => z, fun _ _ _ z => z, fun _ _ z => z⟩ (.loc (by rw [← s1.len]; simp)) h
end
/-! ### by rewriting -/
section
variable {es : Env} {S : Store} {E : En} {Q : RV → Store → Prop} {X : QX} {me : ME} {b : MS} {i j c : Nat} {d : D}
def kRaiseA (es : Env) (E : En) (r : RV) (S : Store) : Prop := QI r S fun d S1 => E.ex 6 [d] es S1
theorem kRaiseA_d : kRaiseA es E (.d d) S = E.ex 6 [d] es S := nr rfl
theorem w_raiseA : WS (sRaiseA me es S) E = WR (me es S) (kRaiseA es E) (kX es E) := by
  unfold sRaiseA kRaiseA kX
  rw [WS_bindS]
  simp only [WR_bind, WR_item]
  rfl
def exA (E : En) (i j : Nat) : Nat → List D → Env → Store → Prop
  | 6, [d], es, S => i < es.length ∧ E.nx ((es.set j (.v d)).set i .no) S
  | _, _, _, _ => False
def En.trA (E : En) (i j : Nat) : En := ⟨E.nx, E.rt, E.bk, E.ct, exA E i j⟩
theorem trA_nx : (E.trA i j).nx es S = E.nx es S := nr rfl
theorem trA_rt {r : RV} : (E.trA i j).rt r S = E.rt r S := nr rfl
theorem trA_ex : (E.trA i j).ex 6 [d] es S = (i < es.length ∧ E.nx ((es.set j (.v d)).set i .no) S) := nr rfl
theorem w_tryA : WS (sTryA i j b es S) E = WS (b es S) (E.trA i j) := by
  unfold sTryA
  cases b es S with
  | ex c p es' S' =>
    by_cases h : ∃ d, c = 6 ∧ p = [d]
    · obtain ⟨d, rfl, rfl⟩ := h
      exact WS_ite
    · have e1 : (match SR.ex c p es' S' with
          | .ex 6 [d] es' S' => if i < es'.length then .nx ((es'.set j (.v d)).set i .no) S' else .bad
          | .ex _ _ _ _ => .bad
          | r => r) = SR.bad := by
        split
        · rename_i hh; cases hh; exact (h ⟨_, rfl, rfl⟩).elim
        · rfl
        · rename_i h2; exact (h2 _ _ _ _ rfl).elim
      refine (congrArg (fun r => WS r E) e1).trans ?_
      show False = exA E i j c p es' S'
      unfold exA
      split
      · exact (h ⟨_, rfl, rfl⟩).elim
      · rfl
  | _ => rfl
def kAt (Q : RV → Store → Prop) (X : QX) (r : RV) (S : Store) : Prop := WR (atS S r) Q X
theorem kAt_e : kAt Q X (.d (.exn 6 [d])) S = Q (.d d) S := nr rfl
theorem w_at : WR (eAt me es S) Q X = WR (me es S) (kAt Q X) X := by
  unfold eAt kAt
  rw [WR_bind]
def kExc (c : Nat) (Q : RV → Store → Prop) (_ : RV) (S : Store) : Prop := Q (.d (.exn c [])) S
theorem kExc_e {r : RV} : kExc c Q r S = Q (.d (.exn c [])) S := nr rfl
theorem w_exc : WR (eExc c me es S) Q X = WR (me es S) (kExc c Q) X := by
  unfold eExc kExc
  rw [WR_bind]
  rfl
def kExcA (Q : RV → Store → Prop) (r : RV) (S : Store) : Prop := QI r S fun d S1 => Q (.d (.exn 6 [d])) S1
theorem kExcA_d : kExcA Q (.d d) S = Q (.d (.exn 6 [d])) S := nr rfl
theorem w_excA : WR (eExcA me es S) Q X = WR (me es S) (kExcA Q) X := by
  unfold eExcA kExcA
  simp only [WR_bind, WR_item]
  rfl
end
end DM

/-! EL: a text walked, strip of signs, a < b == c, int of a number or a text -/
namespace DM
open PySem PySem.Spec L2
/-- the signs of a text, each a text -/
def signsD (x : Str) : List D := x.cps.toList.map fun c => D.str ⟨#[c]⟩
def strS (S : Store) : RV → Res (List D × (Store → Prop))
  | .d (.str x) => .ok (signsD x, fun _ => True) S
  | _ => .bad
def miStr (m : ME) : MI := fun es S => (m es S).bind fun r S1 => strS S1 r
section
variable {G : GT} {W : WX} {X : Cx} {tg e : Expr} {m : ME}
end
def kStr (Q : QMI) (r : RV) (S : Store) : Prop := match r with
  | .d (.str x) => Q (signsD x, fun _ => True) S
  | _ => False
theorem kStr_e {Q : QMI} {x : Str} {S : Store} : kStr Q (.d (.str x)) S = Q (signsD x, fun _ => True) S := nr rfl
theorem w_miStr {m : ME} {es : Env} {S : Store} {Q : QMI} {X : QX} : WR (miStr m es S) Q X = WR (m es S) (kStr Q) X := by
  unfold miStr kStr
  rw [WR_bind]
  congr 1
  funext r S1
  cases r with
  | l _ _ => rfl
  | d x => cases x <;> rfl
/-! strip of signs -/
section
variable {G : GT} {W : WX} {X : Cx} {o e a : Expr} {as : List Expr} {mo : ME} {ms : List ME} {apos cpos p pos : Pos}
/-! int of a number, a truth, a text -/
end
def intAF : FN := fun S rs => match rs with
  | [.d (.str x)] => intSF S [.d (.str x)]
  | rs => intF S rs
theorem intA_str {S : Store} {x : Str} : intAF S [.d (.str x)] = intSF S [.d (.str x)] := nr rfl
theorem intA_bl {S : Store} {x : Bool} : intAF S [.d (.bl x)] = intF S [.d (.bl x)] := nr rfl
theorem intA_int {S : Store} {x : Int} : intAF S [.d (.int x)] = intF S [.d (.int x)] := nr rfl
section
variable {G : GT} {W : WX} {X : Cx} {a : Expr} {as : List Expr} {ms : List ME} {p pos : Pos}
end
end DM

namespace LM
open PySem PySem.Spec L2 DM
noncomputable def mb_l_bag : MS := (sRet (eLst [(eOpN listF [(eSl none (some (eC (.int 63))) (eVar 0))]), (eC (.int 0)), (eC (.int 0))]))
noncomputable def m_l_bag : MF := mFun 1 1 (mb_l_bag)
noncomputable def mb_l_pull : MS := (sSeq (sCut (sIf (bOf (eOp2 ltF (eOp2 ixF (eVar 0) (eC (.int 2))) (eVar 1))) (sSeq (sSet 2 (eOp2 ixF (eVar 0) (eC (.int 1))))
    (sSeq (sSetIx 0 (eC (.int 1)) (eOp2 addF (eVar 2) (eC (.int 1))))
    (sSeq (sSetS 3 (eCut (eIf (bOf (eOp2 gtF (eOpN lenF [(eOp2 ixF (eVar 0) (eC (.int 0)))]) (eC (.int 0)))) (eOp2 ixF (eOp2 ixF (eVar 0) (eC (.int 0))) (eOp2 modF (eVar 2) (eOpN lenF [(eOp2 ixF (eVar 0) (eC (.int 0)))]))) (eC (.int 0)))))
    (sSeq (sSetIx 0 (eC (.int 2)) (eVar 3))
    (sIf (bOr (bOf (eOp2 ltF (eVar 3) (eOp2 powF (eC (.int 10)) (eC (.int 18))))) (bOf (eOp2 geF (eVar 2) (eOpN lenF [(eOp2 ixF (eVar 0) (eC (.int 0)))])))) (sSeq (sSet 4 (eOp2 modF (eOp2 powF (eOp2 addF (eOp2 addF (eOp2 modF (eVar 3) (eC (.int 1000000007))) (eOp2 mulF (eC (.int 998244353)) (eVar 2))) (eC (.int 12345))) (eC (.int 3))) (eC (.int 2147483647))))
    (sSeq (sSet 5 (eOp2 modF (eOp2 powF (eOp2 addF (eOp2 addF (eOp2 addF (eVar 4) (eOp2 mulF (eC (.int 7919)) (eVar 2))) (eOp2 modF (eVar 3) (eC (.int 65537)))) (eC (.int 1))) (eC (.int 5))) (eC (.int 2305843009213693951))))
    (sSetIx 0 (eC (.int 2)) (eOp2 addF (eOp2 mulF (eVar 4) (eC (.int 2305843009213693951))) (eVar 5))))) sNop))))) sNop))
    (sSeq (sSet 6 (eOp2 modF (eOp2 ixF (eVar 0) (eC (.int 2))) (eVar 1)))
    (sSeq (sSetIx 0 (eC (.int 2)) (eOp2 fdivF (eOp2 ixF (eVar 0) (eC (.int 2))) (eVar 1)))
    (sRetV 6))))
noncomputable def m_l_pull : MF := mFun 2 7 (mb_l_pull)
end LM

/-! LS1: the laws' own tape (pull), rows, same; choose, loads_of, pairs_together -/
namespace LM
open PySem PySem.Spec L2 DM
local macro_rules | `(tactic| walk_at "w") => `(tactic| simp only [QV_v, QV_own, QV_bor, QI_d, QI_l, QO_d, QO_l, QO_ite, QO_A, QA_s, w_C, w_var, kA2_e, kB2_dd, kB2_ld, kB2_dl, kB2_ll, w_op2, kA1_d, w_op1, kArg_e, kArg2_d, kArg2_l, w_args0, w_args, kOpN_e, w_opN, kIt_e, kIt2_e, kIt3_e, w_items0, w_items, kTup_e, kLst_e, w_tup, w_lst, kB_e, w_bOf, kAnd_t, kAnd_f, kOr_t, kOr_f, kNot_e, w_bAnd, w_bOr, w_bNot, w_bYes, kEAnd_t, kEAnd_f, kEOr_t, kEOr_f, kENot_e, w_eAnd, w_eOr, w_eNot, kEIf_t, kEIf_f, w_eIf, kCall_e, w_call, okR_d, okR_l, okR_ex, kPart2_e, w_part0, w_part, kSl3_d, kSl3_l, kSl2_e, kSl_e, w_sl, kCh_e, kCh1_e, kCh2_t, kCh2_f, w_chain, seq_nx, seq_rt, seq_bk, seq_ct, seq_ex, kX_e, w_seq, w_nop, w_brk, w_cnt, kIf_t, kIf_f, w_if, kRet_d, kRet_l, w_ret, w_retN, QRV_v, QRV_own, w_retV, kDrop_e, w_drop, kSet_d, kSet_l, w_set, kSetS_d, kSetS_l, w_setS, QMv_e, w_move, QG_e, tg_name, tg_tup, tg_tup1, tg_tup2, tg_tup3, tg_tup4, tg_nil, tg_cons, ob_some, kAsg_d, w_asg, kPar_e, w_par, kSixN_e, kSixL_e, QSt_e, kSixO_e, kSixT_e, QSix_o, QSix_l, kSix_d, kSix_l, w_setix, kAppO_d, kAppO_l, QAppT_e, kAppT_d, kAppT_l, QApp_o, QApp_l, w_app, kExtO_l, QExt_o, QS_t, QS_l, QSL_e, QQ_b, QQ_v, w_qVar, kQE_l, kQE_d, w_qE, kQC_l, kQC_d, w_qC, kSeq_e, w_miSeq, kRev_e, w_miRev, kEnum_e, w_miEnum, kZip_e, kZip2_e, w_miZip, kR1_e, w_miRng1, kR2_e, kR3_e, rngD_len, rngD2_len, chk_t, chk_p, chk_s, isT_t, isT_p, isT_s, w_for, lp_nx, lp_rt, lp_bk, lp_ct, lp_ex, frzS_e, frzQ_o, frzQ_v, frzQ_b, frzQ_n, unfS_e, unfQ_o, unfQ_v, unfQ_b, unfQ_n, unf_nx, unf_rt, unf_bk, unf_ct, unf_ex, w_frz, w_comp, EnF_nx, EnF_d, EnF_l, EnF_ex, slot_d, slot_f, add_ii, add_ss, add_tt, add_ll, sub_ii, mul_ii, mul_li, div_ii, mod_ii, pow_ii, shl_ii, shr_ii, lt_ii, le_ii, gt_ii, ge_ii, neg_i, and_ii, or_ii, xor_ii, is_n, isnt_n, isNon_n, isNon_b, isNon_i, isNon_s, isNon_t, isNon_o, isNon_l, isNon_e, lstO_e, lstOf_l, lstOf_o, om_some, ix_t, ix_s, ix_l, ix_o, len_s, len_t, len_l, len_o, sum_l, all_l, any_l, max_ii, min_ii, max_l, min_l, tup_t, tup_l, tup_o, list_t, list_l, list_o, int_i, int_b, str_i, sl_t, sl_l, sl_s, eq_ii, ne_ii, eq_bb, ne_bb, isi_non_int, isi_non_bool, isi_non_str, isi_non_tuple, isi_non_list, isi_non_tl, isi_bl_int, isi_bl_bool, isi_bl_str, isi_bl_tuple, isi_bl_list, isi_bl_tl, isi_int_int, isi_int_bool, isi_int_str, isi_int_tuple, isi_int_list, isi_int_tl, isi_str_int, isi_str_bool, isi_str_str, isi_str_tuple, isi_str_list, isi_str_tl, isi_tup_int, isi_tup_bool, isi_tup_str, isi_tup_tuple, isi_tup_list, isi_tup_tl, isi_l_int, isi_l_bool, isi_l_str, isi_l_tuple, isi_l_list, isi_l_tl, ixN_00, ixN_1, ixN_2, ixN_3, atI_0, atI_1, atI_2, atI_3, intsOf_map, blsOf_map, List.set_cons_zero, List.set_cons_succ, List.getElem?_cons_zero, List.getElem?_cons_succ, List.replicate_succ, List.replicate_zero, List.length_cons, List.length_nil, Nat.zero_add, Nat.add_zero, Nat.reduceAdd, Nat.reduceSub, Nat.reduceLT, Nat.reduceLeDiff, Option.some.injEq, true_and, and_true, List.map_cons, List.map_nil, decide_true, decide_false, Bool.not_true, Bool.not_false, wipeE, QO_gd, startE_1, startE_2, startE_3, startE_4, fb_nx, fl_nx, fl_ct, fl_bk, fl_rt, fl_ex, cut_nx, cut_rt, cut_bk, cut_ct, cut_ex, w_raise, tr_nx, tr_rt, tr_bk, tr_ct, tr_ex, w_try, QCL_e, w_callL, kMt2_e, kMt_l, kMt_s, kMt_o, w_mt, if_true, QXT_e, kExtT_l, kExtT_d, QExt2_o, QExt2_l, exo_e, w_ext2, w_rng2, w_rng3, isB_bb, isntB_bb, beq_self_eq_true, w_ins0, QIns_o, kInsO_d, w_revE, kRevE_l, w_miEnumA, kEnumA_e, w_popAt, kPop_e, kPop2_e, sorted_e, divmod_e, w_lenSet, kLenSet_l, kRevA_l, kRevA_t, kRevA_o, w_revA, kZipM_e, kZipM2_e, w_miZipM, kAppD_e, kAppD2_e, w_appD])
local macro_rules | `(tactic| simp! only [$ls,*]) => `(tactic| simp only [QV_v, QV_own, QV_bor, QI_d, QI_l, QO_d, QO_l, QO_ite, QO_A, QA_s, w_C, w_var, kA2_e, kB2_dd, kB2_ld, kB2_dl, kB2_ll, w_op2, kA1_d, w_op1, kArg_e, kArg2_d, kArg2_l, w_args0, w_args, kOpN_e, w_opN, kIt_e, kIt2_e, kIt3_e, w_items0, w_items, kTup_e, kLst_e, w_tup, w_lst, kB_e, w_bOf, kAnd_t, kAnd_f, kOr_t, kOr_f, kNot_e, w_bAnd, w_bOr, w_bNot, w_bYes, kEAnd_t, kEAnd_f, kEOr_t, kEOr_f, kENot_e, w_eAnd, w_eOr, w_eNot, kEIf_t, kEIf_f, w_eIf, kCall_e, w_call, okR_d, okR_l, okR_ex, kPart2_e, w_part0, w_part, kSl3_d, kSl3_l, kSl2_e, kSl_e, w_sl, kCh_e, kCh1_e, kCh2_t, kCh2_f, w_chain, seq_nx, seq_rt, seq_bk, seq_ct, seq_ex, kX_e, w_seq, w_nop, w_brk, w_cnt, kIf_t, kIf_f, w_if, kRet_d, kRet_l, w_ret, w_retN, QRV_v, QRV_own, w_retV, kDrop_e, w_drop, kSet_d, kSet_l, w_set, kSetS_d, kSetS_l, w_setS, QMv_e, w_move, QG_e, tg_name, tg_tup, tg_tup1, tg_tup2, tg_tup3, tg_tup4, tg_nil, tg_cons, ob_some, kAsg_d, w_asg, kPar_e, w_par, kSixN_e, kSixL_e, QSt_e, kSixO_e, kSixT_e, QSix_o, QSix_l, kSix_d, kSix_l, w_setix, kAppO_d, kAppO_l, QAppT_e, kAppT_d, kAppT_l, QApp_o, QApp_l, w_app, kExtO_l, QExt_o, QS_t, QS_l, QSL_e, QQ_b, QQ_v, w_qVar, kQE_l, kQE_d, w_qE, kQC_l, kQC_d, w_qC, kSeq_e, w_miSeq, kRev_e, w_miRev, kEnum_e, w_miEnum, kZip_e, kZip2_e, w_miZip, kR1_e, w_miRng1, kR2_e, kR3_e, rngD_len, rngD2_len, chk_t, chk_p, chk_s, isT_t, isT_p, isT_s, w_for, lp_nx, lp_rt, lp_bk, lp_ct, lp_ex, frzS_e, frzQ_o, frzQ_v, frzQ_b, frzQ_n, unfS_e, unfQ_o, unfQ_v, unfQ_b, unfQ_n, unf_nx, unf_rt, unf_bk, unf_ct, unf_ex, w_frz, w_comp, EnF_nx, EnF_d, EnF_l, EnF_ex, slot_d, slot_f, add_ii, add_ss, add_tt, add_ll, sub_ii, mul_ii, mul_li, div_ii, mod_ii, pow_ii, shl_ii, shr_ii, lt_ii, le_ii, gt_ii, ge_ii, neg_i, and_ii, or_ii, xor_ii, is_n, isnt_n, isNon_n, isNon_b, isNon_i, isNon_s, isNon_t, isNon_o, isNon_l, isNon_e, lstO_e, lstOf_l, lstOf_o, om_some, ix_t, ix_s, ix_l, ix_o, len_s, len_t, len_l, len_o, sum_l, all_l, any_l, max_ii, min_ii, max_l, min_l, tup_t, tup_l, tup_o, list_t, list_l, list_o, int_i, int_b, str_i, sl_t, sl_l, sl_s, eq_ii, ne_ii, eq_bb, ne_bb, isi_non_int, isi_non_bool, isi_non_str, isi_non_tuple, isi_non_list, isi_non_tl, isi_bl_int, isi_bl_bool, isi_bl_str, isi_bl_tuple, isi_bl_list, isi_bl_tl, isi_int_int, isi_int_bool, isi_int_str, isi_int_tuple, isi_int_list, isi_int_tl, isi_str_int, isi_str_bool, isi_str_str, isi_str_tuple, isi_str_list, isi_str_tl, isi_tup_int, isi_tup_bool, isi_tup_str, isi_tup_tuple, isi_tup_list, isi_tup_tl, isi_l_int, isi_l_bool, isi_l_str, isi_l_tuple, isi_l_list, isi_l_tl, ixN_00, ixN_1, ixN_2, ixN_3, atI_0, atI_1, atI_2, atI_3, intsOf_map, blsOf_map, List.set_cons_zero, List.set_cons_succ, List.getElem?_cons_zero, List.getElem?_cons_succ, List.replicate_succ, List.replicate_zero, List.length_cons, List.length_nil, Nat.zero_add, Nat.add_zero, Nat.reduceAdd, Nat.reduceSub, Nat.reduceLT, Nat.reduceLeDiff, Option.some.injEq, true_and, and_true, List.map_cons, List.map_nil, decide_true, decide_false, Bool.not_true, Bool.not_false, wipeE, QO_gd, startE_1, startE_2, startE_3, startE_4, fb_nx, fl_nx, fl_ct, fl_bk, fl_rt, fl_ex, cut_nx, cut_rt, cut_bk, cut_ct, cut_ex, w_raise, tr_nx, tr_rt, tr_bk, tr_ct, tr_ex, w_try, QCL_e, w_callL, kMt2_e, kMt_l, kMt_s, kMt_o, w_mt, if_true, QXT_e, kExtT_l, kExtT_d, QExt2_o, QExt2_l, exo_e, w_ext2, w_rng2, w_rng3, isB_bb, isntB_bb, beq_self_eq_true, w_ins0, QIns_o, kInsO_d, w_revE, kRevE_l, w_miEnumA, kEnumA_e, w_popAt, kPop_e, kPop2_e, sorted_e, divmod_e, w_lenSet, kLenSet_l, kRevA_l, kRevA_t, kRevA_o, w_revA, kZipM_e, kZipM2_e, w_miZipM, kAppD_e, kAppD2_e, w_appD, $ls,*])
theorem cmul_l {i j : Int} (h : -(2 ^ 64) < i) (h2 : i < 2 ^ 64) : CMul i j ∨ CMulW i j := .inl (.inl ⟨h, h2⟩)
theorem cmul_r {i j : Int} (h : -(2 ^ 64) < j) (h2 : j < 2 ^ 64) : CMul i j ∨ CMulW i j := .inl (.inr ⟨h, h2⟩)
theorem cdiv {i j : Int} (h : 0 < j) (h2 : j < 2 ^ 64) : CDivW i j := by
  refine ⟨h, ?_⟩
  have : j.natAbs < 2 ^ 64 := by omega
  have := (Nat.log2_lt (by omega)).mpr this
  omega
theorem cpow {i j : Int} (h : 0 ≤ j) (h2 : j ≤ 1000000) (h3 : -(2 ^ 64) < i) (h4 : i < 2 ^ 64) : CPow i j := ⟨h, h2, by omega⟩
def Bag (S : Store) (b : Nat) (n : Nat) : Prop := ∃ (c : Nat) (cells : List Int) (at_ left : Int), S[b]? = some (.lst [.loc c, .int at_, .int left]) ∧ S[c]? = some (.lst (cells.map .int)) ∧ b ≠ c ∧ 0 ≤ at_ ∧ at_ ≤ n ∧ 0 ≤ left

def Same (b : Nat) (S S' : Store) : Prop := S'.length = S.length ∧ ∀ j, j ≠ b → S'[j]? = S[j]?
theorem same_set {b : Nat} {S : Store} {o : O} : Same b S (S.set b o) := ⟨List.length_set, fun j h => List.getElem?_set_ne (Ne.symm h)⟩

theorem pull_w {S : Store} {b n : Nat} {many : Int} {Q : RV → Store → Prop} {X : QX} (h : Bag S b n) (hn : n < 10^9) (h0 : 0 < many) (hm : many < 2^64) (k : ∀ v S', 0 ≤ v → v < many → Bag S' b (n+1) → Same b S S' → Q (.d (.int v)) S') : WR (okR (m_l_pull [.d (.loc b), .d (.int many)] S)) Q X := by
  obtain ⟨c, cells, at_, left, hb, hc, ne, h1, h2, h3⟩ := h
  have e1 := fun x => st_self hb x
  have e2 := fun x => (st_ne ne x).trans hc
  have fin : ∀ a l : Int, 0 ≤ a → a ≤ (n : Int) + 1 → 0 ≤ l → 0 < many ∧ CDivW l many ∧ Q (.d (.int (l % many))) (S.set b (.lst [.loc c, .int a, .int (l / many)])) := fun a l ha ha2 hl =>
    ⟨h0, cdiv h0 hm, k _ _ (Int.emod_nonneg _ (by omega)) (Int.emod_lt_of_pos _ h0) ⟨c, cells, a, l / many, e1 _, e2 _, ne, ha, by omega, Int.ediv_nonneg hl (by omega)⟩ same_set⟩
  refine fun_w ?_
  unfold mb_l_pull
  simp! only [w_cut, w_ecut, hb, hc, e1, e2, List.set_set]
  have cell : ∀ z : Int, 0 ≤ z % 1000000007 ∧ z % 1000000007 < 1000000007 ∧ 0 ≤ z % 65537 ∧ z % 65537 < 65537 ∧ 0 ≤ z % 2147483647 ∧ z % 2147483647 < 2147483647 ∧ 0 ≤ z % 2305843009213693951 := fun z => by omega
  refine kIf_br (fun hl => ?_) (fun hl => ?_)
  · simp! only [w_cut, w_ecut, hb, hc, e1, e2, List.set_set]
    have tail : ∀ z : Int, kSetS 3 [Slot.v (D.loc b), Slot.v (D.int many), Slot.v (D.int at_), Slot.no, Slot.no, Slot.no, Slot.no]
      (((EnF Q X).seq
            (sSeq (sSet 6 (eOp2 modF (eOp2 ixF (eVar 0) (eC (D.int 2))) (eVar 1)))
              (sSeq (sSetIx 0 (eC (D.int 2)) (eOp2 fdivF (eOp2 ixF (eVar 0) (eC (D.int 2))) (eVar 1))) (sRetV 6)))).seq
        (sSeq (sSetIx 0 (eC (D.int 2)) (eVar 3))
          (sIf
            (bOr (bOf (eOp2 ltF (eVar 3) (eOp2 powF (eC (D.int 10)) (eC (D.int 18)))))
              (bOf (eOp2 geF (eVar 2) (eOpN lenF [eOp2 ixF (eVar 0) (eC (D.int 0))]))))
            (sSeq
              (sSet 4
                (eOp2 modF
                  (eOp2 powF
                    (eOp2 addF
                      (eOp2 addF (eOp2 modF (eVar 3) (eC (D.int 1000000007)))
                        (eOp2 mulF (eC (D.int 998244353)) (eVar 2)))
                      (eC (D.int 12345)))
                    (eC (D.int 3)))
                  (eC (D.int 2147483647))))
              (sSeq
                (sSet 5
                  (eOp2 modF
                    (eOp2 powF
                      (eOp2 addF
                        (eOp2 addF (eOp2 addF (eVar 4) (eOp2 mulF (eC (D.int 7919)) (eVar 2)))
                          (eOp2 modF (eVar 3) (eC (D.int 65537))))
                        (eC (D.int 1)))
                      (eC (D.int 5)))
                    (eC (D.int 2305843009213693951))))
                (sSetIx 0 (eC (D.int 2)) (eOp2 addF (eOp2 mulF (eVar 4) (eC (D.int 2305843009213693951))) (eVar 5)))))
            sNop))) (.d (.int z)) (List.set S b (O.lst [D.loc c, D.int (at_ + 1), D.int left])) := by
      intro z
      simp! only [w_cut, w_ecut, hb, hc, e1, e2, List.set_set]
      refine ⟨cpow (by decide) (by decide) (by decide) (by decide), ?_⟩
      have := cell z
      have mix : ∀ m : Int, 0 ≤ m → m < 2147483647 → CPow (m + 7919 * at_ + z % 65537 + 1) 5 := fun m h1 h2 => cpow (by decide) (by decide) (by omega) (by omega)
      have f5 : ∀ m q : Int, 0 ≤ m → 0 ≤ q → 0 ≤ m * 2305843009213693951 + q := fun m q h1 h2 => by omega
      refine kOr_br (fun h => ?_) (fun h => ?_)
      · simp! only [w_cut, w_ecut, hb, hc, e1, e2, List.set_set]
        refine ⟨by decide, cmul_l (by decide) (by decide), cpow (by decide) (by decide) (by omega) (by omega), by decide, cmul_l (by decide) (by decide), by decide, ?_, by decide, cmul_r (by decide) (by decide), ?_⟩
        · have := cell ((z % 1000000007 + 998244353 * at_ + 12345) ^ Int.toNat 3)
          exact mix _ (by omega) (by omega)
        · exact fin _ _ (by omega) (by omega) (f5 _ _ (cell _).2.2.2.2.1 (cell _).2.2.2.2.2.2)
      · simp! only [w_cut, w_ecut, hb, hc, e1, e2, List.set_set]
        refine kIf_br (fun h => ?_) (fun h4 => ?_)
        · simp! only [w_cut, w_ecut, hb, hc, e1, e2, List.set_set]
          refine ⟨by decide, cmul_l (by decide) (by decide), cpow (by decide) (by decide) (by omega) (by omega), by decide, cmul_l (by decide) (by decide), by decide, ?_, by decide, cmul_r (by decide) (by decide), ?_⟩
          · have := cell ((z % 1000000007 + 998244353 * at_ + 12345) ^ Int.toNat 3)
            exact mix _ (by omega) (by omega)
          · exact fin _ _ (by omega) (by omega) (f5 _ _ (cell _).2.2.2.2.1 (cell _).2.2.2.2.2.2)
        · simp! only [w_cut, w_ecut, hb, hc, e1, e2, List.set_set]
          have h5 : ¬ z < 10 ^ Int.toNat 18 := of_decide_eq_false h
          have e : (10 : Int) ^ Int.toNat 18 = 1000000000000000000 := by decide
          rw [e] at h5
          exact fin _ _ (by omega) (by omega) (by omega)
    refine kEIf_br (fun h => ?_) (fun h => ?_)
    · have h : 0 < ((cells.map D.int).length : Int) := of_decide_eq_true h
      simp! only [w_cut, w_ecut, hb, hc, e1, e2, List.set_set]
      refine ⟨h, ?_⟩
      obtain ⟨a, e, _⟩ := atI_get (l := cells.map D.int) (i := at_ % ↑(cells.map D.int).length) (Int.emod_nonneg _ (by omega)) (Int.emod_lt_of_pos _ h)
      rw [e]
      rw [atI_map] at e
      cases z : atI cells (at_ % ↑(cells.map D.int).length) with
      | none => rw [z] at e; cases e
      | some y => rw [z] at e; cases e; exact tail y
    · simp only [w_C]
      exact tail 0
  · simp! only [w_cut, w_ecut, hb, hc, e1, e2, List.set_set]
    exact fin _ _ h1 (by omega) h3

theorem Same.trans {b : Nat} {S S1 S2 : Store} (h : Same b S S1) (k : Same b S1 S2) : Same b S S2 := ⟨k.1.trans h.1, fun j z => (k.2 j z).trans (h.2 j z)⟩
theorem Bag.mono {S : Store} {b n k : Nat} (h : Bag S b n) (hk : n ≤ k) : Bag S b k := by
  obtain ⟨c, cells, a, l, h1, h2, h3, h4, h5, h6⟩ := h
  exact ⟨c, cells, a, l, h1, h2, h3, h4, by omega, h6⟩
theorem bag_w {S : Store} {ns : List Int} {Q : RV → Store → Prop} {X : QX} (hl : ns.length ≤ sizeLine)
    (k : Bag (S ++ [.lst ((ns.take 63).map .int)] ++ [.lst [.loc S.length, .int 0, .int 0]]) (S.length + 1) 0 → Q (.l true [.loc S.length, .int 0, .int 0]) (S ++ [.lst ((ns.take 63).map .int)])) : WR (okR (m_l_bag [.d (.scr ns)] S)) Q X := by
  refine fun_w ?_
  unfold mb_l_bag
  have e : cutL ns none (some 63) = ns.take 63 := by
    unfold cutL HT.sIx
    simp
  simp! only [e]
  refine ⟨by decide, k ⟨S.length, ns.take 63, 0, 0, ?_, ?_, by omega, by omega, by omega, by omega⟩⟩
  · have : (S ++ [O.lst ((ns.take 63).map D.int)]).length = S.length + 1 := by simp
    rw [← this]
    exact st_new
  · exact st_old st_new
theorem bag0_w {ns : List Int} {i : Nat} {es : DM.Env} {E : En} {X : QX} (hl : ns.length ≤ 63) (k : ∀ S, Bag S 1 0 → S.length = 2 → E.nx (es.set i (.v (.loc 1))) S) : WR (okR (m_l_bag [.d (.scr ns)] [])) (kSetS i es E) X := by
  refine bag_w (Nat.le_trans hl (by decide)) fun hb => ?_
  exact k _ hb rfl
theorem law_of {m : MF} {ns : List Int} (h : WR (okR (m [.d (.scr ns)] [])) (fun r _ => r = .d (.bl true)) XF) : ∃ S', m [.d (.scr ns)] [] = .ok (.d (.bl true)) S' := by
  cases e : m [.d (.scr ns)] [] with
  | ok a S =>
    rw [e] at h
    cases a with
    | d x => exact ⟨S, by rw [(h : RV.d x = _)]⟩
    | l p x =>
      cases p with
      | true => exact absurd (h : RV.l true x = _) (by intro z; cases z)
      | false => exact h.elim
  | ex c p S => rw [e] at h; exact h.elim
  | bad => rw [e] at h; exact h.elim
end LM

/-! LS3: same of one thing with itself; loads_of, pairs_together -/
namespace LM
open PySem PySem.Spec L2 DM
local macro_rules | `(tactic| walk_at "w") => `(tactic| simp only [QV_v, QV_own, QV_bor, QI_d, QI_l, QO_d, QO_l, QO_ite, QO_A, QA_s, w_C, w_var, kA2_e, kB2_dd, kB2_ld, kB2_dl, kB2_ll, w_op2, kA1_d, w_op1, kArg_e, kArg2_d, kArg2_l, w_args0, w_args, kOpN_e, w_opN, kIt_e, kIt2_e, kIt3_e, w_items0, w_items, kTup_e, kLst_e, w_tup, w_lst, kB_e, w_bOf, kAnd_t, kAnd_f, kOr_t, kOr_f, kNot_e, w_bAnd, w_bOr, w_bNot, w_bYes, kEAnd_t, kEAnd_f, kEOr_t, kEOr_f, kENot_e, w_eAnd, w_eOr, w_eNot, kEIf_t, kEIf_f, w_eIf, kCall_e, w_call, okR_d, okR_l, okR_ex, kPart2_e, w_part0, w_part, kSl3_d, kSl3_l, kSl2_e, kSl_e, w_sl, kCh_e, kCh1_e, kCh2_t, kCh2_f, w_chain, seq_nx, seq_rt, seq_bk, seq_ct, seq_ex, kX_e, w_seq, w_nop, w_brk, w_cnt, kIf_t, kIf_f, w_if, kRet_d, kRet_l, w_ret, w_retN, QRV_v, QRV_own, w_retV, kDrop_e, w_drop, kSet_d, kSet_l, w_set, kSetS_d, kSetS_l, w_setS, QMv_e, w_move, QG_e, tg_name, tg_tup, tg_tup1, tg_tup2, tg_tup3, tg_tup4, tg_nil, tg_cons, ob_some, kAsg_d, w_asg, kPar_e, w_par, kSixN_e, kSixL_e, QSt_e, kSixO_e, kSixT_e, QSix_o, QSix_l, kSix_d, kSix_l, w_setix, kAppO_d, kAppO_l, QAppT_e, kAppT_d, kAppT_l, QApp_o, QApp_l, w_app, kExtO_l, QExt_o, QS_t, QS_l, QSL_e, QQ_b, QQ_v, w_qVar, kQE_l, kQE_d, w_qE, kQC_l, kQC_d, w_qC, kSeq_e, w_miSeq, kRev_e, w_miRev, kEnum_e, w_miEnum, kZip_e, kZip2_e, w_miZip, kR1_e, w_miRng1, kR2_e, kR3_e, rngD_len, rngD2_len, chk_t, chk_p, chk_s, isT_t, isT_p, isT_s, w_for, lp_nx, lp_rt, lp_bk, lp_ct, lp_ex, frzS_e, frzQ_o, frzQ_v, frzQ_b, frzQ_n, unfS_e, unfQ_o, unfQ_v, unfQ_b, unfQ_n, unf_nx, unf_rt, unf_bk, unf_ct, unf_ex, w_frz, w_comp, EnF_nx, EnF_d, EnF_l, EnF_ex, slot_d, slot_f, add_ii, add_ss, add_tt, add_ll, sub_ii, mul_ii, mul_li, div_ii, mod_ii, pow_ii, shl_ii, shr_ii, lt_ii, le_ii, gt_ii, ge_ii, neg_i, and_ii, or_ii, xor_ii, is_n, isnt_n, isNon_n, isNon_b, isNon_i, isNon_s, isNon_t, isNon_o, isNon_l, isNon_e, lstO_e, lstOf_l, lstOf_o, om_some, ix_t, ix_s, ix_l, ix_o, len_s, len_t, len_l, len_o, sum_l, all_l, any_l, max_ii, min_ii, max_l, min_l, tup_t, tup_l, tup_o, list_t, list_l, list_o, int_i, int_b, str_i, sl_t, sl_l, sl_s, eq_ii, ne_ii, eq_bb, ne_bb, isi_non_int, isi_non_bool, isi_non_str, isi_non_tuple, isi_non_list, isi_non_tl, isi_bl_int, isi_bl_bool, isi_bl_str, isi_bl_tuple, isi_bl_list, isi_bl_tl, isi_int_int, isi_int_bool, isi_int_str, isi_int_tuple, isi_int_list, isi_int_tl, isi_str_int, isi_str_bool, isi_str_str, isi_str_tuple, isi_str_list, isi_str_tl, isi_tup_int, isi_tup_bool, isi_tup_str, isi_tup_tuple, isi_tup_list, isi_tup_tl, isi_l_int, isi_l_bool, isi_l_str, isi_l_tuple, isi_l_list, isi_l_tl, ixN_00, ixN_1, ixN_2, ixN_3, atI_0, atI_1, atI_2, atI_3, intsOf_map, blsOf_map, List.set_cons_zero, List.set_cons_succ, List.getElem?_cons_zero, List.getElem?_cons_succ, List.replicate_succ, List.replicate_zero, List.length_cons, List.length_nil, Nat.zero_add, Nat.add_zero, Nat.reduceAdd, Nat.reduceSub, Nat.reduceLT, Nat.reduceLeDiff, Option.some.injEq, true_and, and_true, List.map_cons, List.map_nil, decide_true, decide_false, Bool.not_true, Bool.not_false, wipeE, QO_gd, startE_1, startE_2, startE_3, startE_4, fb_nx, fl_nx, fl_ct, fl_bk, fl_rt, fl_ex, cut_nx, cut_rt, cut_bk, cut_ct, cut_ex, w_raise, tr_nx, tr_rt, tr_bk, tr_ct, tr_ex, w_try, QCL_e, w_callL, kMt2_e, kMt_l, kMt_s, kMt_o, w_mt, if_true, QXT_e, kExtT_l, kExtT_d, QExt2_o, QExt2_l, exo_e, w_ext2, w_rng2, w_rng3, isB_bb, isntB_bb, beq_self_eq_true, w_ins0, QIns_o, kInsO_d, w_revE, kRevE_l, w_miEnumA, kEnumA_e, w_popAt, kPop_e, kPop2_e, sorted_e, divmod_e, w_lenSet, kLenSet_l, kRevA_l, kRevA_t, kRevA_o, w_revA, kZipM_e, kZipM2_e, w_miZipM, kAppD_e, kAppD2_e, w_appD])
local macro_rules | `(tactic| simp! only [$ls,*]) => `(tactic| simp only [QV_v, QV_own, QV_bor, QI_d, QI_l, QO_d, QO_l, QO_ite, QO_A, QA_s, w_C, w_var, kA2_e, kB2_dd, kB2_ld, kB2_dl, kB2_ll, w_op2, kA1_d, w_op1, kArg_e, kArg2_d, kArg2_l, w_args0, w_args, kOpN_e, w_opN, kIt_e, kIt2_e, kIt3_e, w_items0, w_items, kTup_e, kLst_e, w_tup, w_lst, kB_e, w_bOf, kAnd_t, kAnd_f, kOr_t, kOr_f, kNot_e, w_bAnd, w_bOr, w_bNot, w_bYes, kEAnd_t, kEAnd_f, kEOr_t, kEOr_f, kENot_e, w_eAnd, w_eOr, w_eNot, kEIf_t, kEIf_f, w_eIf, kCall_e, w_call, okR_d, okR_l, okR_ex, kPart2_e, w_part0, w_part, kSl3_d, kSl3_l, kSl2_e, kSl_e, w_sl, kCh_e, kCh1_e, kCh2_t, kCh2_f, w_chain, seq_nx, seq_rt, seq_bk, seq_ct, seq_ex, kX_e, w_seq, w_nop, w_brk, w_cnt, kIf_t, kIf_f, w_if, kRet_d, kRet_l, w_ret, w_retN, QRV_v, QRV_own, w_retV, kDrop_e, w_drop, kSet_d, kSet_l, w_set, kSetS_d, kSetS_l, w_setS, QMv_e, w_move, QG_e, tg_name, tg_tup, tg_tup1, tg_tup2, tg_tup3, tg_tup4, tg_nil, tg_cons, ob_some, kAsg_d, w_asg, kPar_e, w_par, kSixN_e, kSixL_e, QSt_e, kSixO_e, kSixT_e, QSix_o, QSix_l, kSix_d, kSix_l, w_setix, kAppO_d, kAppO_l, QAppT_e, kAppT_d, kAppT_l, QApp_o, QApp_l, w_app, kExtO_l, QExt_o, QS_t, QS_l, QSL_e, QQ_b, QQ_v, w_qVar, kQE_l, kQE_d, w_qE, kQC_l, kQC_d, w_qC, kSeq_e, w_miSeq, kRev_e, w_miRev, kEnum_e, w_miEnum, kZip_e, kZip2_e, w_miZip, kR1_e, w_miRng1, kR2_e, kR3_e, rngD_len, rngD2_len, chk_t, chk_p, chk_s, isT_t, isT_p, isT_s, w_for, lp_nx, lp_rt, lp_bk, lp_ct, lp_ex, frzS_e, frzQ_o, frzQ_v, frzQ_b, frzQ_n, unfS_e, unfQ_o, unfQ_v, unfQ_b, unfQ_n, unf_nx, unf_rt, unf_bk, unf_ct, unf_ex, w_frz, w_comp, EnF_nx, EnF_d, EnF_l, EnF_ex, slot_d, slot_f, add_ii, add_ss, add_tt, add_ll, sub_ii, mul_ii, mul_li, div_ii, mod_ii, pow_ii, shl_ii, shr_ii, lt_ii, le_ii, gt_ii, ge_ii, neg_i, and_ii, or_ii, xor_ii, is_n, isnt_n, isNon_n, isNon_b, isNon_i, isNon_s, isNon_t, isNon_o, isNon_l, isNon_e, lstO_e, lstOf_l, lstOf_o, om_some, ix_t, ix_s, ix_l, ix_o, len_s, len_t, len_l, len_o, sum_l, all_l, any_l, max_ii, min_ii, max_l, min_l, tup_t, tup_l, tup_o, list_t, list_l, list_o, int_i, int_b, str_i, sl_t, sl_l, sl_s, eq_ii, ne_ii, eq_bb, ne_bb, isi_non_int, isi_non_bool, isi_non_str, isi_non_tuple, isi_non_list, isi_non_tl, isi_bl_int, isi_bl_bool, isi_bl_str, isi_bl_tuple, isi_bl_list, isi_bl_tl, isi_int_int, isi_int_bool, isi_int_str, isi_int_tuple, isi_int_list, isi_int_tl, isi_str_int, isi_str_bool, isi_str_str, isi_str_tuple, isi_str_list, isi_str_tl, isi_tup_int, isi_tup_bool, isi_tup_str, isi_tup_tuple, isi_tup_list, isi_tup_tl, isi_l_int, isi_l_bool, isi_l_str, isi_l_tuple, isi_l_list, isi_l_tl, ixN_00, ixN_1, ixN_2, ixN_3, atI_0, atI_1, atI_2, atI_3, intsOf_map, blsOf_map, List.set_cons_zero, List.set_cons_succ, List.getElem?_cons_zero, List.getElem?_cons_succ, List.replicate_succ, List.replicate_zero, List.length_cons, List.length_nil, Nat.zero_add, Nat.add_zero, Nat.reduceAdd, Nat.reduceSub, Nat.reduceLT, Nat.reduceLeDiff, Option.some.injEq, true_and, and_true, List.map_cons, List.map_nil, decide_true, decide_false, Bool.not_true, Bool.not_false, wipeE, QO_gd, startE_1, startE_2, startE_3, startE_4, fb_nx, fl_nx, fl_ct, fl_bk, fl_rt, fl_ex, cut_nx, cut_rt, cut_bk, cut_ct, cut_ex, w_raise, tr_nx, tr_rt, tr_bk, tr_ct, tr_ex, w_try, QCL_e, w_callL, kMt2_e, kMt_l, kMt_s, kMt_o, w_mt, if_true, QXT_e, kExtT_l, kExtT_d, QExt2_o, QExt2_l, exo_e, w_ext2, w_rng2, w_rng3, isB_bb, isntB_bb, beq_self_eq_true, w_ins0, QIns_o, kInsO_d, w_revE, kRevE_l, w_miEnumA, kEnumA_e, w_popAt, kPop_e, kPop2_e, sorted_e, divmod_e, w_lenSet, kLenSet_l, kRevA_l, kRevA_t, kRevA_o, w_revA, kZipM_e, kZipM2_e, w_miZipM, kAppD_e, kAppD2_e, w_appD, $ls,*])
/-! ### loads_of -/
theorem le_line {n : Nat} (h : n ≤ 16777216) : n ≤ sizeLine := h
/-! ### pairs -/
def c2 (n : Int) : Int := n * (n - 1) / 2
end LM

namespace LK
open PySem PySem.Spec L2 DM LM
def topS (i : Nat) : Stmt := PySem.Challenge.pw_partbook_k49_refusals_apart.main.body.getD i (.Pass ⟨0, 0, 0, 0⟩)
noncomputable def mb_law : MS := (sSeq (sSetS 1 (eCall m_l_bag [(eVar 0)]))
    (sSeq (sSet 2 (eCall m_l_pull [(eVar 1), (eOp2 powF (eC (.int 10)) (eC (.int 6)))]))
    (sSeq (sSet 3 (eOp2 addF (eC (.str "k")) (eOpN strF [(eVar 2)])))
    (sSeq (sSet 4 (eLst [(eExc 1 (eVar 3)), (eExc 2 (eVar 3)), (eExc 3 (eVar 3)), (eExc 4 (eVar 3)), (eExc 5 (eVar 3)), (eExcA (eVar 2))]))
    (sSeq (sFor (miRng1 (eC (.int 6))) (tgName 5) (sSeq (sSet 6 (eLst [(eOpN isxF [(eOp2 ixF (eVar 4) (eVar 5)), (eC (.cls 1))]), (eOpN isxF [(eOp2 ixF (eVar 4) (eVar 5)), (eC (.cls 2))]), (eOpN isxF [(eOp2 ixF (eVar 4) (eVar 5)), (eC (.cls 3))])]))
    (sSeq (sSet 6 (eOp2 addF (eVar 6) (eLst [(eOpN isxF [(eOp2 ixF (eVar 4) (eVar 5)), (eC (.cls 4))]), (eOpN isxF [(eOp2 ixF (eVar 4) (eVar 5)), (eC (.cls 5))]), (eOpN isxF [(eOp2 ixF (eVar 4) (eVar 5)), (eC (.cls 6))])])))
    (sSeq (sIf (bOf (eOp2 neF (eVar 6) (eComp (miRng1 (eC (.int 6))) (tgName 7) bYes (eOp2 eqF (eVar 7) (eVar 5)) [7]))) (sRet (eC (.bl false))) sNop)
    (sIf (bOr (bNot (bOf (eOpN isxF [(eOp2 ixF (eVar 4) (eVar 5)), (eC (.cls 0))]))) (bNot (bOf (eOpN isxF [(eOp2 ixF (eVar 4) (eVar 5)), (eC (.ty "ValueError"))])))) (sRet (eC (.bl false))) sNop)))))
    (sRet (eOp2 eqF (eAt (eOp2 ixF (eVar 4) (eC (.int 5)))) (eVar 2))))))))
noncomputable def m_law : MF := mFun 1 8 (mb_law)
abbrev gT (K : PySem.W.Frag) (cl fns : List Addr) : GT := ⟨K, cl, fns, fun _ _ _ _ => False⟩
structure Txt (K : PySem.W.Frag) (mg : Str → Option Value) (cl fns : List Addr) : Prop where
  b_ValueError : mg "ValueError" = none
  b_isinstance : mg "isinstance" = none
  b_len : mg "len" = none
  b_list : mg "list" = none
  b_range : mg "range" = none
  b_str : mg "str" = none
  m_NoPrime : ∃ a, mg "NoPrime" = some (.ref a) ∧ cl[3]? = some a
  m_NoRow : ∃ a, mg "NoRow" = some (.ref a) ∧ cl[5]? = some a
  m_NoText : ∃ a, mg "NoText" = some (.ref a) ∧ cl[6]? = some a
  m_NoThing : ∃ a, mg "NoThing" = some (.ref a) ∧ cl[4]? = some a
  m_PartError : ∃ a, mg "PartError" = some (.ref a) ∧ cl[0]? = some a
  m_TooFew : ∃ a, mg "TooFew" = some (.ref a) ∧ cl[1]? = some a
  m_TooMany : ∃ a, mg "TooMany" = some (.ref a) ∧ cl[2]? = some a
  r_NoPrime : RaiseF K mg cl 3 "NoPrime"
  r_NoRow : RaiseF K mg cl 5 "NoRow"
  r_NoThing : RaiseF K mg cl 4 "NoThing"
  r_TooFew : RaiseF K mg cl 1 "TooFew"
  r_TooMany : RaiseF K mg cl 2 "TooMany"
  kin : KinF K cl
  atf : AtF K cl
section
variable {P : Program} {w : World} {K : PySem.W.Frag} {mg : Str → Option Value} {base : Heap} {cl fns : List Addr}
abbrev s_NoText___init__ : Stmt := inClass (topS 7) 0
theorem sc_NoText___init__ : FnScope ["self", "at"] ["self", "at"] (defScope s_NoText___init__) := ⟨rfl, rfl, rfl, by decide +kernel, rfl, by decide +kernel, by decide +kernel⟩
theorem ok_NoText___init__ {f C C0 : Addr} {fd : FuncData} (F : Fun K "__init__" "NoText.__init__" s_NoText___init__ f fd) (hC : cl[6]? = some C) (hm : mg "NoText" = some (.ref C)) (X : OexC K C) (iC : PySem.W.findIn K (.ref C) "__init__" = some (some (.ref f))) (tI : PySem.W.typeIn K (.ref f) = some (.type "function")) (hb : Binds K fd ["self", "at"] []) (B : BaseC K C0) (m0 : mg "PartError" = some (.ref C0)) (hno : PySem.W.findIn K (.ref C) "at" = some none) : CalN (gT K cl fns) P w K mg base := by
  refine ⟨C, f, fd, hC, hm, X, iC, tI, F.okX sc_NoText___init__ (fun vs H Q E h => ?_) (fun cdv A outer s H vs Q E hr h => ?_), hb⟩
  · obtain ⟨a, y, rfl, _⟩ := h
    rfl
  · obtain ⟨a, y, rfl, ha, k⟩ := h
    refine ⟨_, pss_cons (ps_expr (pe_cinit B (by rfl) m0 (pa_cons (pv 0) (pa_cons pe_str pa_nil)))) (pss_one (ps_ost (pv 0) (pv 1))), ?_⟩
    exact ⟨_, rfl, a, C, [_], rfl, by decide, X, ha, _, rfl, _, rfl, a, C, rfl, X, hno, .inl ⟨ha, fun dx n ne => k dx n ne⟩⟩
abbrev s_l_bag : Stmt := topS 9
theorem sc_l_bag : FnScope ["_law_script"] ["_law_script"] (defScope s_l_bag) := ⟨rfl, rfl, rfl, by decide +kernel, rfl, by decide +kernel, by decide +kernel⟩
theorem ok_l_bag {f : Addr} {fd : FuncData} (T : Txt K mg cl fns) (F : Fun K "_law_bag" "_law_bag" s_l_bag f fd) (hm : mg "_law_bag" = some (.ref f)) (hb : Binds K fd ["_law_script"] [])  : Cal (gT K cl fns) P w K mg base 1 "_law_bag" 1 (m_l_bag) :=
  cal_mk F hm hb (fn_ok F sc_l_bag fun cdv A outer s H E hr tk hp =>
    have nd := sc_l_bag.nd
    (sp_one (sp_ret (se_lst (si_cons (se_list (by rfl) T.b_list (sa_cons (se_sl (se_var (i := 0) rfl rfl (.inl rfl)) so_no (so_some (se_int rfl))) (sa_nil rfl))) (si_cons (se_int rfl) (si_cons (se_int rfl) (si_nil rfl))))))))
abbrev s_l_pull : Stmt := topS 10
theorem sc_l_pull : FnScope ["_law_bag_here", "_law_many", "_law_at", "_law_cell", "_law_one", "_law_two", "_law_found"] ["_law_bag_here", "_law_many"] (defScope s_l_pull) := ⟨rfl, rfl, rfl, by decide +kernel, rfl, by decide +kernel, by decide +kernel⟩
theorem ok_l_pull {f : Addr} {fd : FuncData} (T : Txt K mg cl fns) (F : Fun K "_law_pull" "_law_pull" s_l_pull f fd) (hm : mg "_law_pull" = some (.ref f)) (hb : Binds K fd ["_law_bag_here", "_law_many"] [])  : Cal (gT K cl fns) P w K mg base 1 "_law_pull" 2 (m_l_pull) :=
  cal_mk F hm hb (fn_ok F sc_l_pull fun cdv A outer s H E hr tk hp =>
    have nd := sc_l_pull.nd
    (sp_cons (sp_if (sb_lt (se_sub_ (se_var (i := 0) rfl rfl (.inl rfl)) (se_int rfl)) (se_var (i := 1) rfl rfl (.inl rfl))) (sp_cons (sp_set (i := 2) (se_sub_ (se_var (i := 0) rfl rfl (.inl rfl)) (se_int rfl)) nd rfl (.inl rfl))
    (sp_cons (sp_setix (k := 0) rfl rfl (.inl rfl) (se_int rfl) (se_add (se_var (i := 2) rfl rfl (.inl rfl)) (se_int rfl)))
    (sp_cons (sp_setS (i := 3) (se_if (sb_gt (se_len (by rfl) T.b_len (sa_cons (se_sub_ (se_var (i := 0) rfl rfl (.inl rfl)) (se_int rfl)) (sa_nil rfl))) (se_int rfl)) (se_sub_ (se_sub_ (se_var (i := 0) rfl rfl (.inl rfl)) (se_int rfl)) (se_mod (se_var (i := 2) rfl rfl (.inl rfl)) (se_len (by rfl) T.b_len (sa_cons (se_sub_ (se_var (i := 0) rfl rfl (.inl rfl)) (se_int rfl)) (sa_nil rfl))))) (se_int rfl)) nd rfl (.inl rfl))
    (sp_cons (sp_setix (k := 0) rfl rfl (.inl rfl) (se_int rfl) (se_var (i := 3) rfl rfl (.inl rfl)))
    (sp_one (sp_if (sb_w (sbw_or (sb_lt (se_var (i := 3) rfl rfl (.inl rfl)) (se_pow (se_int rfl) (se_int rfl))) (sbw_or1 (sb_ge (se_var (i := 2) rfl rfl (.inl rfl)) (se_len (by rfl) T.b_len (sa_cons (se_sub_ (se_var (i := 0) rfl rfl (.inl rfl)) (se_int rfl)) (sa_nil rfl))))))) (sp_cons (sp_set (i := 4) (se_mod (se_pow (se_add (se_add (se_mod (se_var (i := 3) rfl rfl (.inl rfl)) (se_int rfl)) (se_mul (se_int rfl) (se_var (i := 2) rfl rfl (.inl rfl)))) (se_int rfl)) (se_int rfl)) (se_int rfl)) nd rfl (.inl rfl))
    (sp_cons (sp_set (i := 5) (se_mod (se_pow (se_add (se_add (se_add (se_var (i := 4) rfl rfl (.inl rfl)) (se_mul (se_int rfl) (se_var (i := 2) rfl rfl (.inl rfl)))) (se_mod (se_var (i := 3) rfl rfl (.inl rfl)) (se_int rfl))) (se_int rfl)) (se_int rfl)) (se_int rfl)) nd rfl (.inl rfl))
    (sp_one (sp_setix (k := 0) rfl rfl (.inl rfl) (se_int rfl) (se_add (se_mul (se_var (i := 4) rfl rfl (.inl rfl)) (se_int rfl)) (se_var (i := 5) rfl rfl (.inl rfl))))))) (sp_nil rfl))))))) (sp_nil rfl))
    (sp_cons (sp_set (i := 6) (se_mod (se_sub_ (se_var (i := 0) rfl rfl (.inl rfl)) (se_int rfl)) (se_var (i := 1) rfl rfl (.inl rfl))) nd rfl (.inl rfl))
    (sp_cons (sp_setix (k := 0) rfl rfl (.inl rfl) (se_int rfl) (se_fdiv (se_sub_ (se_var (i := 0) rfl rfl (.inl rfl)) (se_int rfl)) (se_var (i := 1) rfl rfl (.inl rfl))))
    (sp_one (sp_retV (i := 6) rfl rfl (.inl rfl)))))))
abbrev s_law : Stmt := topS 11
theorem sc_law : FnScope ["_law_script", "_law_bag_here", "_law_number", "_law_word", "_law_made", "_law_k", "_law_kinds", "_law_j"] ["_law_script"] (defScope s_law) := ⟨rfl, rfl, rfl, by decide +kernel, rfl, by decide +kernel, by decide +kernel⟩
theorem ok_law {f : Addr} {fd : FuncData} (T : Txt K mg cl fns) (F : Fun K "law" "law" s_law f fd) (hm : mg "law" = some (.ref f)) (c_l_bag : Cal (gT K cl fns) P w K mg base 1 "_law_bag" 1 m_l_bag) (c_l_pull : Cal (gT K cl fns) P w K mg base 1 "_law_pull" 2 m_l_pull) (c_NoText___init__ : CalN (gT K cl fns) P w K mg base) : FnOk P w K mg base (L2.CX P w) 3 f fd ["_law_script"] (spM (gT K cl fns) 1 (m_law)) :=
  fn_ok F sc_law fun cdv A outer s H E hr tk hp =>
    have nd := sc_law.nd
    (sp_cons (sp_setS (i := 1) (se_callC tk c_l_bag (hr.mono (by omega)) (by rfl) (sa_cons (se_var (i := 0) rfl rfl (.inl rfl)) (sa_nil rfl))) nd rfl (.inl rfl))
    (sp_cons (sp_set (i := 2) (se_callC tk c_l_pull (hr.mono (by omega)) (by rfl) (sa_cons (se_var (i := 1) rfl rfl (.inl rfl)) (sa_cons (se_pow (se_int rfl) (se_int rfl)) (sa_nil rfl)))) nd rfl (.inl rfl))
    (sp_cons (sp_set (i := 3) (se_add (se_str rfl) (se_strc (by rfl) T.b_str (sa_cons (se_var (i := 2) rfl rfl (.inl rfl)) (sa_nil rfl)))) nd rfl (.inl rfl))
    (sp_cons (sp_set (i := 4) (se_lst (si_cons (se_exc T.r_TooFew (by rfl) (se_var (i := 3) rfl rfl (.inl rfl))) (si_cons (se_exc T.r_TooMany (by rfl) (se_var (i := 3) rfl rfl (.inl rfl))) (si_cons (se_exc T.r_NoPrime (by rfl) (se_var (i := 3) rfl rfl (.inl rfl))) (si_cons (se_exc T.r_NoThing (by rfl) (se_var (i := 3) rfl rfl (.inl rfl))) (si_cons (se_exc T.r_NoRow (by rfl) (se_var (i := 3) rfl rfl (.inl rfl))) (si_cons (se_excA c_NoText___init__ (hr.mono (by omega)) (by rfl) (se_var (i := 2) rfl rfl (.inl rfl))) (si_nil rfl)))))))) nd rfl (.inl rfl))
    (sp_cons (sp_for hp rfl (si_rng1 (sa_cons (se_int rfl) (sa_nil rfl)) (by rfl) T.b_range) (sg_of (pg_name (i := 5) nd rfl (.inr rfl)) og_name) (sp_cons (sp_set (i := 6) (se_lst (si_cons (se_isx T.kin (by rfl) T.b_isinstance (sa_cons (se_sub_ (se_var (i := 4) rfl rfl (.inl rfl)) (se_var (i := 5) rfl rfl (.inr (.inl rfl)))) (sa_cons (se_clsE (n := 1) rfl (by rfl) T.m_TooFew) (sa_nil rfl)))) (si_cons (se_isx T.kin (by rfl) T.b_isinstance (sa_cons (se_sub_ (se_var (i := 4) rfl rfl (.inl rfl)) (se_var (i := 5) rfl rfl (.inr (.inl rfl)))) (sa_cons (se_clsE (n := 2) rfl (by rfl) T.m_TooMany) (sa_nil rfl)))) (si_cons (se_isx T.kin (by rfl) T.b_isinstance (sa_cons (se_sub_ (se_var (i := 4) rfl rfl (.inl rfl)) (se_var (i := 5) rfl rfl (.inr (.inl rfl)))) (sa_cons (se_clsE (n := 3) rfl (by rfl) T.m_NoPrime) (sa_nil rfl)))) (si_nil rfl))))) nd rfl (.inl rfl))
    (sp_cons (sp_set (i := 6) (se_add (se_var (i := 6) rfl rfl (.inl rfl)) (se_lst (si_cons (se_isx T.kin (by rfl) T.b_isinstance (sa_cons (se_sub_ (se_var (i := 4) rfl rfl (.inl rfl)) (se_var (i := 5) rfl rfl (.inr (.inl rfl)))) (sa_cons (se_clsE (n := 4) rfl (by rfl) T.m_NoThing) (sa_nil rfl)))) (si_cons (se_isx T.kin (by rfl) T.b_isinstance (sa_cons (se_sub_ (se_var (i := 4) rfl rfl (.inl rfl)) (se_var (i := 5) rfl rfl (.inr (.inl rfl)))) (sa_cons (se_clsE (n := 5) rfl (by rfl) T.m_NoRow) (sa_nil rfl)))) (si_cons (se_isx T.kin (by rfl) T.b_isinstance (sa_cons (se_sub_ (se_var (i := 4) rfl rfl (.inl rfl)) (se_var (i := 5) rfl rfl (.inr (.inl rfl)))) (sa_cons (se_clsE (n := 6) rfl (by rfl) T.m_NoText) (sa_nil rfl)))) (si_nil rfl)))))) nd rfl (.inl rfl))
    (sp_cons (sp_if (sb_ne hr.units (se_var (i := 6) rfl rfl (.inl rfl)) (se_lc (own := [("_law_j", 7)]) (ix := [7]) (g := (gName 7)) rfl nd (sc_rng1 (sa_cons (se_int rfl) (sa_nil rfl)) (by rfl) T.b_range) (blkOk_by (own := [("_law_j", 7)]) (by kernel_rfl)) (by decide) (fun _ _ _ _ _ => (pg_name (i := 7) nd rfl (.inl rfl))) og_name (fun _ _ _ _ _ => (sts_nil rfl)) (fun _ _ _ _ _ => (se_eq hr.units (se_var (i := 7) rfl rfl (.inl rfl)) (se_var (i := 5) rfl rfl (.inr (.inl rfl))))))) (sp_one (sp_ret (se_bl rfl))) (sp_nil rfl))
    (sp_one (sp_if (sb_w (sbw_or (sb_not (sb_val (se_isx T.kin (by rfl) T.b_isinstance (sa_cons (se_sub_ (se_var (i := 4) rfl rfl (.inl rfl)) (se_var (i := 5) rfl rfl (.inr (.inl rfl)))) (sa_cons (se_clsE (n := 0) rfl (by rfl) T.m_PartError) (sa_nil rfl)))))) (sbw_or1 (sb_not (sb_val (se_isx T.kin (by rfl) T.b_isinstance (sa_cons (se_sub_ (se_var (i := 4) rfl rfl (.inl rfl)) (se_var (i := 5) rfl rfl (.inr (.inl rfl)))) (sa_cons (se_ty (n := "ValueError") rfl (by rfl) T.b_ValueError bt_ValueError) (sa_nil rfl))))))))) (sp_one (sp_ret (se_bl rfl))) (sp_nil rfl)))))))
    (sp_one (sp_ret (se_eq hr.units (se_at T.atf (se_sub_ (se_var (i := 4) rfl rfl (.inl rfl)) (se_int rfl))) (se_var (i := 2) rfl rfl (.inl rfl))))))))))
end
theorem all_mk {l : PySem.W.OpenLaw} {w : World} {K : PySem.W.Frag} {h : Heap} {mg : Str → Option Value} {fa f0 f1 f2 f3 C0 C1 C2 C3 C4 C5 C6 : Addr} (X : K.In h) (G : h.Ns mainGlobals mg) (hfa : mg "law" = some (.ref fa))
    {od0 od1 od2 od3 an0 an1 an2 an3 : Option Addr} {sl0 sl1 sl2 sl3 : Array (Option Value)} {oc0 oc1 oc2 oc3 kV0 kV1 kV2 kV3 dc0 dc1 dc2 dc3 pm0 pm1 pm2 pm3 cd0 cd1 cd2 cd3 ct0 ct1 ct2 ct3 : Value} {xnm xq : Str} {xN : Addr} {xbs : List Value} {xsn : List Str} {xsub : List Value} {xab : Bool} {xcol : Option Bool} {xdd : Option Addr} {xk0 xk1 xk2 xk3 xk5 : Option Value}
    (i0 : PySem.W.typeIn K (.ref f0) = some (.type "function"))
    (a0 : PySem.W.findIn K (.ref C6) "__init__" = some (some (.ref f0))) (l0 : K.lookup f0 = some ⟨oc0, od0, .func (PySem.W.fnOf "__init__" "NoText.__init__" (defArgs s_NoText___init__) (defBody s_NoText___init__) (defScope s_NoText___init__) .none kV0 dc0 pm0 an0 cd0 ct0), sl0⟩) (c0 : PySem.W.codeIn K cd0 "NoText.__init__" = true) (k0 : PySem.W.keepIn K (.ref f0) = true)
    (a1 : PySem.W.nsIn K mainGlobals "_law_bag" = some (some (.ref f1))) (l1 : K.lookup f1 = some ⟨oc1, od1, .func (PySem.W.fnOf "_law_bag" "_law_bag" (defArgs s_l_bag) (defBody s_l_bag) (defScope s_l_bag) .none kV1 dc1 pm1 an1 cd1 ct1), sl1⟩) (c1 : PySem.W.codeIn K cd1 "_law_bag" = true) (k1 : PySem.W.keepIn K (.ref f1) = true)
    (a2 : PySem.W.nsIn K mainGlobals "_law_pull" = some (some (.ref f2))) (l2 : K.lookup f2 = some ⟨oc2, od2, .func (PySem.W.fnOf "_law_pull" "_law_pull" (defArgs s_l_pull) (defBody s_l_pull) (defScope s_l_pull) .none kV2 dc2 pm2 an2 cd2 ct2), sl2⟩) (c2 : PySem.W.codeIn K cd2 "_law_pull" = true) (k2 : PySem.W.keepIn K (.ref f2) = true)
    (a3 : PySem.W.nsIn K mainGlobals "law" = some (some (.ref f3))) (l3 : K.lookup f3 = some ⟨oc3, od3, .func (PySem.W.fnOf "law" "law" (defArgs s_law) (defBody s_law) (defScope s_law) .none kV3 dc3 pm3 an3 cd3 ct3), sl3⟩) (c3 : PySem.W.codeIn K cd3 "law" = true) (k3 : PySem.W.keepIn K (.ref f3) = true)
    (z0 : PySem.W.nsIn K mainGlobals "ValueError" = some none) (z1 : PySem.W.nsIn K mainGlobals "isinstance" = some none) (z2 : PySem.W.nsIn K mainGlobals "len" = some none) (z3 : PySem.W.nsIn K mainGlobals "list" = some none) (z4 : PySem.W.nsIn K mainGlobals "range" = some none) (z5 : PySem.W.nsIn K mainGlobals "str" = some none)
    (gc0 : PySem.W.nsIn K mainGlobals "PartError" = some (some (.ref C0)))
    (kc0 : PySem.W.keepIn K (.ref C0) = true)
    (bc0 : PySem.W.subIn K (.ref C0) (.type "BaseException") = some true)
    (tc0 : PySem.W.typeIn K (.ref C0) = some (.type "type"))
    (hd0 : PySem.W.hasDictIn K C0 = true)
    (sb0_0 : PySem.W.subIn K (.ref C0) (.ref C0) = some true)
    (gc1 : PySem.W.nsIn K mainGlobals "TooFew" = some (some (.ref C1)))
    (kc1 : PySem.W.keepIn K (.ref C1) = true)
    (xc1 : PySem.W.excIn K C1 [.type "ValueError", .type "Exception", .type "BaseException", .type "object"] "ValueError.__new__" = true)
    (bc1 : PySem.W.subIn K (.ref C1) (.type "BaseException") = some true)
    (tc1 : PySem.W.typeIn K (.ref C1) = some (.type "type"))
    (hd1 : PySem.W.hasDictIn K C1 = true)
    (sb1_0 : PySem.W.subIn K (.ref C1) (.ref C0) = some true)
    (hg1 : PySem.W.findIn K (.ref C1) "__getattribute__" = some (some (.builtin "BaseException.__getattribute__")))
    (hk1 : PySem.W.findIn K (.ref C1) "__getattr__" = some none)
    (ha1 : PySem.W.findIn K (.ref C1) "__class__" = some (some (.builtin "object.__class__")))
    (hm1 : PySem.W.mroIn K C1 (.type "object") = some true)
    (sb1_1 : PySem.W.subIn K (.ref C1) (.ref C1) = some true)
    (sb1_2 : PySem.W.subIn K (.ref C1) (.ref C2) = some false)
    (ne1_2 : (Value.ref C1 == Value.ref C2) = false)
    (sb1_3 : PySem.W.subIn K (.ref C1) (.ref C3) = some false)
    (ne1_3 : (Value.ref C1 == Value.ref C3) = false)
    (sb1_4 : PySem.W.subIn K (.ref C1) (.ref C4) = some false)
    (ne1_4 : (Value.ref C1 == Value.ref C4) = false)
    (sb1_5 : PySem.W.subIn K (.ref C1) (.ref C5) = some false)
    (ne1_5 : (Value.ref C1 == Value.ref C5) = false)
    (sb1_6 : PySem.W.subIn K (.ref C1) (.ref C6) = some false)
    (ne1_6 : (Value.ref C1 == Value.ref C6) = false)
    (v1 : PySem.W.subIn K (.ref C1) (.type "ValueError") = some true)
    (gc2 : PySem.W.nsIn K mainGlobals "TooMany" = some (some (.ref C2)))
    (kc2 : PySem.W.keepIn K (.ref C2) = true)
    (xc2 : PySem.W.excIn K C2 [.type "ValueError", .type "Exception", .type "BaseException", .type "object"] "ValueError.__new__" = true)
    (bc2 : PySem.W.subIn K (.ref C2) (.type "BaseException") = some true)
    (tc2 : PySem.W.typeIn K (.ref C2) = some (.type "type"))
    (hd2 : PySem.W.hasDictIn K C2 = true)
    (sb2_0 : PySem.W.subIn K (.ref C2) (.ref C0) = some true)
    (hg2 : PySem.W.findIn K (.ref C2) "__getattribute__" = some (some (.builtin "BaseException.__getattribute__")))
    (hk2 : PySem.W.findIn K (.ref C2) "__getattr__" = some none)
    (ha2 : PySem.W.findIn K (.ref C2) "__class__" = some (some (.builtin "object.__class__")))
    (hm2 : PySem.W.mroIn K C2 (.type "object") = some true)
    (sb2_1 : PySem.W.subIn K (.ref C2) (.ref C1) = some false)
    (ne2_1 : (Value.ref C2 == Value.ref C1) = false)
    (sb2_2 : PySem.W.subIn K (.ref C2) (.ref C2) = some true)
    (sb2_3 : PySem.W.subIn K (.ref C2) (.ref C3) = some false)
    (ne2_3 : (Value.ref C2 == Value.ref C3) = false)
    (sb2_4 : PySem.W.subIn K (.ref C2) (.ref C4) = some false)
    (ne2_4 : (Value.ref C2 == Value.ref C4) = false)
    (sb2_5 : PySem.W.subIn K (.ref C2) (.ref C5) = some false)
    (ne2_5 : (Value.ref C2 == Value.ref C5) = false)
    (sb2_6 : PySem.W.subIn K (.ref C2) (.ref C6) = some false)
    (ne2_6 : (Value.ref C2 == Value.ref C6) = false)
    (v2 : PySem.W.subIn K (.ref C2) (.type "ValueError") = some true)
    (gc3 : PySem.W.nsIn K mainGlobals "NoPrime" = some (some (.ref C3)))
    (kc3 : PySem.W.keepIn K (.ref C3) = true)
    (xc3 : PySem.W.excIn K C3 [.type "ValueError", .type "Exception", .type "BaseException", .type "object"] "ValueError.__new__" = true)
    (bc3 : PySem.W.subIn K (.ref C3) (.type "BaseException") = some true)
    (tc3 : PySem.W.typeIn K (.ref C3) = some (.type "type"))
    (hd3 : PySem.W.hasDictIn K C3 = true)
    (sb3_0 : PySem.W.subIn K (.ref C3) (.ref C0) = some true)
    (hg3 : PySem.W.findIn K (.ref C3) "__getattribute__" = some (some (.builtin "BaseException.__getattribute__")))
    (hk3 : PySem.W.findIn K (.ref C3) "__getattr__" = some none)
    (ha3 : PySem.W.findIn K (.ref C3) "__class__" = some (some (.builtin "object.__class__")))
    (hm3 : PySem.W.mroIn K C3 (.type "object") = some true)
    (sb3_1 : PySem.W.subIn K (.ref C3) (.ref C1) = some false)
    (ne3_1 : (Value.ref C3 == Value.ref C1) = false)
    (sb3_2 : PySem.W.subIn K (.ref C3) (.ref C2) = some false)
    (ne3_2 : (Value.ref C3 == Value.ref C2) = false)
    (sb3_3 : PySem.W.subIn K (.ref C3) (.ref C3) = some true)
    (sb3_4 : PySem.W.subIn K (.ref C3) (.ref C4) = some false)
    (ne3_4 : (Value.ref C3 == Value.ref C4) = false)
    (sb3_5 : PySem.W.subIn K (.ref C3) (.ref C5) = some false)
    (ne3_5 : (Value.ref C3 == Value.ref C5) = false)
    (sb3_6 : PySem.W.subIn K (.ref C3) (.ref C6) = some false)
    (ne3_6 : (Value.ref C3 == Value.ref C6) = false)
    (v3 : PySem.W.subIn K (.ref C3) (.type "ValueError") = some true)
    (gc4 : PySem.W.nsIn K mainGlobals "NoThing" = some (some (.ref C4)))
    (kc4 : PySem.W.keepIn K (.ref C4) = true)
    (xc4 : PySem.W.excIn K C4 [.type "ValueError", .type "Exception", .type "BaseException", .type "object"] "ValueError.__new__" = true)
    (bc4 : PySem.W.subIn K (.ref C4) (.type "BaseException") = some true)
    (tc4 : PySem.W.typeIn K (.ref C4) = some (.type "type"))
    (hd4 : PySem.W.hasDictIn K C4 = true)
    (sb4_0 : PySem.W.subIn K (.ref C4) (.ref C0) = some true)
    (hg4 : PySem.W.findIn K (.ref C4) "__getattribute__" = some (some (.builtin "BaseException.__getattribute__")))
    (hk4 : PySem.W.findIn K (.ref C4) "__getattr__" = some none)
    (ha4 : PySem.W.findIn K (.ref C4) "__class__" = some (some (.builtin "object.__class__")))
    (hm4 : PySem.W.mroIn K C4 (.type "object") = some true)
    (sb4_1 : PySem.W.subIn K (.ref C4) (.ref C1) = some false)
    (ne4_1 : (Value.ref C4 == Value.ref C1) = false)
    (sb4_2 : PySem.W.subIn K (.ref C4) (.ref C2) = some false)
    (ne4_2 : (Value.ref C4 == Value.ref C2) = false)
    (sb4_3 : PySem.W.subIn K (.ref C4) (.ref C3) = some false)
    (ne4_3 : (Value.ref C4 == Value.ref C3) = false)
    (sb4_4 : PySem.W.subIn K (.ref C4) (.ref C4) = some true)
    (sb4_5 : PySem.W.subIn K (.ref C4) (.ref C5) = some false)
    (ne4_5 : (Value.ref C4 == Value.ref C5) = false)
    (sb4_6 : PySem.W.subIn K (.ref C4) (.ref C6) = some false)
    (ne4_6 : (Value.ref C4 == Value.ref C6) = false)
    (v4 : PySem.W.subIn K (.ref C4) (.type "ValueError") = some true)
    (gc5 : PySem.W.nsIn K mainGlobals "NoRow" = some (some (.ref C5)))
    (kc5 : PySem.W.keepIn K (.ref C5) = true)
    (xc5 : PySem.W.excIn K C5 [.type "ValueError", .type "Exception", .type "BaseException", .type "object"] "ValueError.__new__" = true)
    (bc5 : PySem.W.subIn K (.ref C5) (.type "BaseException") = some true)
    (tc5 : PySem.W.typeIn K (.ref C5) = some (.type "type"))
    (hd5 : PySem.W.hasDictIn K C5 = true)
    (sb5_0 : PySem.W.subIn K (.ref C5) (.ref C0) = some true)
    (hg5 : PySem.W.findIn K (.ref C5) "__getattribute__" = some (some (.builtin "BaseException.__getattribute__")))
    (hk5 : PySem.W.findIn K (.ref C5) "__getattr__" = some none)
    (ha5 : PySem.W.findIn K (.ref C5) "__class__" = some (some (.builtin "object.__class__")))
    (hm5 : PySem.W.mroIn K C5 (.type "object") = some true)
    (sb5_1 : PySem.W.subIn K (.ref C5) (.ref C1) = some false)
    (ne5_1 : (Value.ref C5 == Value.ref C1) = false)
    (sb5_2 : PySem.W.subIn K (.ref C5) (.ref C2) = some false)
    (ne5_2 : (Value.ref C5 == Value.ref C2) = false)
    (sb5_3 : PySem.W.subIn K (.ref C5) (.ref C3) = some false)
    (ne5_3 : (Value.ref C5 == Value.ref C3) = false)
    (sb5_4 : PySem.W.subIn K (.ref C5) (.ref C4) = some false)
    (ne5_4 : (Value.ref C5 == Value.ref C4) = false)
    (sb5_5 : PySem.W.subIn K (.ref C5) (.ref C5) = some true)
    (sb5_6 : PySem.W.subIn K (.ref C5) (.ref C6) = some false)
    (ne5_6 : (Value.ref C5 == Value.ref C6) = false)
    (v5 : PySem.W.subIn K (.ref C5) (.type "ValueError") = some true)
    (gc6 : PySem.W.nsIn K mainGlobals "NoText" = some (some (.ref C6)))
    (kc6 : PySem.W.keepIn K (.ref C6) = true)
    (bc6 : PySem.W.subIn K (.ref C6) (.type "BaseException") = some true)
    (tc6 : PySem.W.typeIn K (.ref C6) = some (.type "type"))
    (hd6 : PySem.W.hasDictIn K C6 = true)
    (sb6_0 : PySem.W.subIn K (.ref C6) (.ref C0) = some true)
    (xl6 : K.lookup C6 = some (PySem.excClassObj xnm xq C6 xN xbs [.ref C0, .type "ValueError", .type "Exception", .type "BaseException", .type "object"] true xsn xsub xab xcol xdd xk0 xk1 xk2 xk3 xk5 "ValueError.__new__"))
    (xsa6 : PySem.W.findIn K (.ref C6) "__setattr__" = some (some (.builtin "object.__setattr__")))
    (xkc0 : PySem.W.keepIn K (.ref C0) = true)
    (xrd0 : PySem.W.readsIn K C0 (.type "type") = true)
    (xga0 : PySem.W.specialIn K (.ref C0) "__getattribute__" = some (some (.builtin "type.__getattribute__")))
    (xin0 : PySem.W.findCls K (.ref C0) (.type "type") "__init__" = some (.val (.builtin "ValueError.__init__")))
    (xat6 : PySem.W.findIn K (.ref C6) "at" = some none)
    (hg6 : PySem.W.findIn K (.ref C6) "__getattribute__" = some (some (.builtin "BaseException.__getattribute__")))
    (hk6 : PySem.W.findIn K (.ref C6) "__getattr__" = some none)
    (ha6 : PySem.W.findIn K (.ref C6) "__class__" = some (some (.builtin "object.__class__")))
    (hm6 : PySem.W.mroIn K C6 (.type "object") = some true)
    (sb6_1 : PySem.W.subIn K (.ref C6) (.ref C1) = some false)
    (ne6_1 : (Value.ref C6 == Value.ref C1) = false)
    (sb6_2 : PySem.W.subIn K (.ref C6) (.ref C2) = some false)
    (ne6_2 : (Value.ref C6 == Value.ref C2) = false)
    (sb6_3 : PySem.W.subIn K (.ref C6) (.ref C3) = some false)
    (ne6_3 : (Value.ref C6 == Value.ref C3) = false)
    (sb6_4 : PySem.W.subIn K (.ref C6) (.ref C4) = some false)
    (ne6_4 : (Value.ref C6 == Value.ref C4) = false)
    (sb6_5 : PySem.W.subIn K (.ref C6) (.ref C5) = some false)
    (ne6_5 : (Value.ref C6 == Value.ref C5) = false)
    (sb6_6 : PySem.W.subIn K (.ref C6) (.ref C6) = some true)
    (v6 : PySem.W.subIn K (.ref C6) (.type "ValueError") = some true)
    (hn : PySem.W.specialIn K (.builtin "object.__class__") "__get__" = some (some (.builtin "getset_descriptor.__get__"))) (ht : PySem.W.takesIn K (.builtin "object.__class__") = some true) :
    ∃ (cl fns : List Addr) (fd : FuncData), (∀ (s : Shared) (v : Value), BindsTo s fd ⟨[v], []⟩ [("_law_script", v)]) ∧ ∀ base : Heap, K.In base → base.Ns mainGlobals mg → FnOk l.prog w K mg base (L2.CX l.prog w) 3 fa fd ["_law_script"] (spM (gT K cl fns) 1 m_law) := by
  have e := hfa.symm.trans (PySem.W.mg_of X G a3)
  cases e
  have T : Txt K mg [C0, C1, C2, C3, C4, C5, C6] [] := ⟨PySem.W.mg_none_of X G z0,
    PySem.W.mg_none_of X G z1,
    PySem.W.mg_none_of X G z2,
    PySem.W.mg_none_of X G z3,
    PySem.W.mg_none_of X G z4,
    PySem.W.mg_none_of X G z5,
    ⟨_, PySem.W.mg_of X G gc3, rfl⟩,
    ⟨_, PySem.W.mg_of X G gc5, rfl⟩,
    ⟨_, PySem.W.mg_of X G gc6, rfl⟩,
    ⟨_, PySem.W.mg_of X G gc4, rfl⟩,
    ⟨_, PySem.W.mg_of X G gc0, rfl⟩,
    ⟨_, PySem.W.mg_of X G gc1, rfl⟩,
    ⟨_, PySem.W.mg_of X G gc2, rfl⟩,
    ⟨_, rfl, PySem.W.mg_of X G gc3, kc3, xc3, bc3, tc3⟩,
    ⟨_, rfl, PySem.W.mg_of X G gc5, kc5, xc5, bc5, tc5⟩,
    ⟨_, rfl, PySem.W.mg_of X G gc4, kc4, xc4, bc4, tc4⟩,
    ⟨_, rfl, PySem.W.mg_of X G gc1, kc1, xc1, bc1, tc1⟩,
    ⟨_, rfl, PySem.W.mg_of X G gc2, kc2, xc2, bc2, tc2⟩,
    ⟨fun c C h1 h2 h => by
      have hc : c = 1 ∨ c = 2 ∨ c = 3 ∨ c = 4 ∨ c = 5 ∨ c = 6 := by omega
      rcases hc with rfl | rfl | rfl | rfl | rfl | rfl <;> cases h
      · exact ⟨hg1, hk1, bc1, hd1, ha1, hn, ht, hm1⟩
      · exact ⟨hg2, hk2, bc2, hd2, ha2, hn, ht, hm2⟩
      · exact ⟨hg3, hk3, bc3, hd3, ha3, hn, ht, hm3⟩
      · exact ⟨hg4, hk4, bc4, hd4, ha4, hn, ht, hm4⟩
      · exact ⟨hg5, hk5, bc5, hd5, ha5, hn, ht, hm5⟩
      · exact ⟨hg6, hk6, bc6, hd6, ha6, hn, ht, hm6⟩, fun c k C D h1 h2 h3 h h' => by
      have hc : c = 1 ∨ c = 2 ∨ c = 3 ∨ c = 4 ∨ c = 5 ∨ c = 6 := by omega
      have hk : k = 0 ∨ k = 1 ∨ k = 2 ∨ k = 3 ∨ k = 4 ∨ k = 5 ∨ k = 6 := by omega
      rcases hc with rfl | rfl | rfl | rfl | rfl | rfl <;> cases h <;> rcases hk with rfl | rfl | rfl | rfl | rfl | rfl | rfl <;> cases h'
      · exact kit_ref hd0 tc0 sb1_0 (.inl rfl)
      · exact kit_ref hd1 tc1 sb1_1 (.inl rfl)
      · exact kit_ref hd2 tc2 sb1_2 (.inr ne1_2)
      · exact kit_ref hd3 tc3 sb1_3 (.inr ne1_3)
      · exact kit_ref hd4 tc4 sb1_4 (.inr ne1_4)
      · exact kit_ref hd5 tc5 sb1_5 (.inr ne1_5)
      · exact kit_ref hd6 tc6 sb1_6 (.inr ne1_6)
      · exact kit_ref hd0 tc0 sb2_0 (.inl rfl)
      · exact kit_ref hd1 tc1 sb2_1 (.inr ne2_1)
      · exact kit_ref hd2 tc2 sb2_2 (.inl rfl)
      · exact kit_ref hd3 tc3 sb2_3 (.inr ne2_3)
      · exact kit_ref hd4 tc4 sb2_4 (.inr ne2_4)
      · exact kit_ref hd5 tc5 sb2_5 (.inr ne2_5)
      · exact kit_ref hd6 tc6 sb2_6 (.inr ne2_6)
      · exact kit_ref hd0 tc0 sb3_0 (.inl rfl)
      · exact kit_ref hd1 tc1 sb3_1 (.inr ne3_1)
      · exact kit_ref hd2 tc2 sb3_2 (.inr ne3_2)
      · exact kit_ref hd3 tc3 sb3_3 (.inl rfl)
      · exact kit_ref hd4 tc4 sb3_4 (.inr ne3_4)
      · exact kit_ref hd5 tc5 sb3_5 (.inr ne3_5)
      · exact kit_ref hd6 tc6 sb3_6 (.inr ne3_6)
      · exact kit_ref hd0 tc0 sb4_0 (.inl rfl)
      · exact kit_ref hd1 tc1 sb4_1 (.inr ne4_1)
      · exact kit_ref hd2 tc2 sb4_2 (.inr ne4_2)
      · exact kit_ref hd3 tc3 sb4_3 (.inr ne4_3)
      · exact kit_ref hd4 tc4 sb4_4 (.inl rfl)
      · exact kit_ref hd5 tc5 sb4_5 (.inr ne4_5)
      · exact kit_ref hd6 tc6 sb4_6 (.inr ne4_6)
      · exact kit_ref hd0 tc0 sb5_0 (.inl rfl)
      · exact kit_ref hd1 tc1 sb5_1 (.inr ne5_1)
      · exact kit_ref hd2 tc2 sb5_2 (.inr ne5_2)
      · exact kit_ref hd3 tc3 sb5_3 (.inr ne5_3)
      · exact kit_ref hd4 tc4 sb5_4 (.inr ne5_4)
      · exact kit_ref hd5 tc5 sb5_5 (.inl rfl)
      · exact kit_ref hd6 tc6 sb5_6 (.inr ne5_6)
      · exact kit_ref hd0 tc0 sb6_0 (.inl rfl)
      · exact kit_ref hd1 tc1 sb6_1 (.inr ne6_1)
      · exact kit_ref hd2 tc2 sb6_2 (.inr ne6_2)
      · exact kit_ref hd3 tc3 sb6_3 (.inr ne6_3)
      · exact kit_ref hd4 tc4 sb6_4 (.inr ne6_4)
      · exact kit_ref hd5 tc5 sb6_5 (.inr ne6_5)
      · exact kit_ref hd6 tc6 sb6_6 (.inl rfl), fun c C h1 h2 h => by
      have hc : c = 1 ∨ c = 2 ∨ c = 3 ∨ c = 4 ∨ c = 5 ∨ c = 6 := by omega
      rcases hc with rfl | rfl | rfl | rfl | rfl | rfl <;> cases h
      · exact kit_val v1
      · exact kit_val v2
      · exact kit_val v3
      · exact kit_val v4
      · exact kit_val v5
      · exact kit_val v6⟩,
    ⟨_, rfl, ⟨hg6, hk6, bc6, hd6⟩, xat6⟩⟩
  have F0 := fun_mk (st := s_NoText___init__) l0 c0 k0
  have B0 := F0.binds (ps := ["self", "at"]) fun _ _ _ _ _ _ us hl => match us, hl with | [_, _], _ => rfl
  have F1 := fun_mk (st := s_l_bag) l1 c1 k1
  have B1 := F1.binds (ps := ["_law_script"]) fun _ _ _ _ _ _ us hl => match us, hl with | [_], _ => rfl
  have F2 := fun_mk (st := s_l_pull) l2 c2 k2
  have B2 := F2.binds (ps := ["_law_bag_here", "_law_many"]) fun _ _ _ _ _ _ us hl => match us, hl with | [_, _], _ => rfl
  have F3 := fun_mk (st := s_law) l3 c3 k3
  refine ⟨[C0, C1, C2, C3, C4, C5, C6], [], PySem.W.fnOf "law" "law" (defArgs s_law) (defBody s_law) (defScope s_law) .none kV3 dc3 pm3 an3 cd3 ct3, fun s v => .of_eq rfl, fun base _ _ => ?_⟩
  have E0 := ok_NoText___init__ (P := l.prog) (w := w) (base := base) (cl := [C0, C1, C2, C3, C4, C5, C6]) (fns := []) F0 rfl (PySem.W.mg_of X G gc6) ⟨⟨_, _, _, _, _, _, _, _, _, _, _, _, _, _, _,  xl6, rfl⟩, xsa6, bc6, tc6, kc6⟩ a0 i0 B0 ⟨xkc0, xrd0, xga0, xin0⟩ (PySem.W.mg_of X G gc0) xat6
  have E1 := ok_l_bag (P := l.prog) (w := w) (base := base) T F1 (PySem.W.mg_of X G a1) B1 
  have E2 := ok_l_pull (P := l.prog) (w := w) (base := base) T F2 (PySem.W.mg_of X G a2) B2 
  exact ok_law T F3 (PySem.W.mg_of X G a3) E1 E2 E0
end LK

namespace LK
open PySem PySem.Spec L2 DM LM
local macro_rules | `(tactic| walk_at "w") => `(tactic| simp only [QV_v, QV_own, QV_bor, QI_d, QI_l, QO_d, QO_l, QO_ite, QO_A, QA_s, w_C, w_var, kA2_e, kB2_dd, kB2_ld, kB2_dl, kB2_ll, w_op2, kA1_d, w_op1, kArg_e, kArg2_d, kArg2_l, w_args0, w_args, kOpN_e, w_opN, kIt_e, kIt2_e, kIt3_e, w_items0, w_items, kTup_e, kLst_e, w_tup, w_lst, kB_e, w_bOf, kAnd_t, kAnd_f, kOr_t, kOr_f, kNot_e, w_bAnd, w_bOr, w_bNot, w_bYes, kEAnd_t, kEAnd_f, kEOr_t, kEOr_f, kENot_e, w_eAnd, w_eOr, w_eNot, kEIf_t, kEIf_f, w_eIf, kCall_e, w_call, okR_d, okR_l, okR_ex, kPart2_e, w_part0, w_part, kSl3_d, kSl3_l, kSl2_e, kSl_e, w_sl, kCh_e, kCh1_e, kCh2_t, kCh2_f, w_chain, seq_nx, seq_rt, seq_bk, seq_ct, seq_ex, kX_e, w_seq, w_nop, w_brk, w_cnt, kIf_t, kIf_f, w_if, kRet_d, kRet_l, w_ret, w_retN, QRV_v, QRV_own, w_retV, kDrop_e, w_drop, kSet_d, kSet_l, w_set, kSetS_d, kSetS_l, w_setS, QMv_e, w_move, QG_e, tg_name, tg_tup, tg_tup1, tg_tup2, tg_tup3, tg_tup4, tg_nil, tg_cons, ob_some, kAsg_d, w_asg, kPar_e, w_par, kSixN_e, kSixL_e, QSt_e, kSixO_e, kSixT_e, QSix_o, QSix_l, kSix_d, kSix_l, w_setix, kAppO_d, kAppO_l, QAppT_e, kAppT_d, kAppT_l, QApp_o, QApp_l, w_app, kExtO_l, QExt_o, QS_t, QS_l, QSL_e, QQ_b, QQ_v, w_qVar, kQE_l, kQE_d, w_qE, kQC_l, kQC_d, w_qC, kSeq_e, w_miSeq, kRev_e, w_miRev, kEnum_e, w_miEnum, kZip_e, kZip2_e, w_miZip, kR1_e, w_miRng1, kR2_e, kR3_e, rngD_len, rngD2_len, chk_t, chk_p, chk_s, isT_t, isT_p, isT_s, w_for, lp_nx, lp_rt, lp_bk, lp_ct, lp_ex, frzS_e, frzQ_o, frzQ_v, frzQ_b, frzQ_n, unfS_e, unfQ_o, unfQ_v, unfQ_b, unfQ_n, unf_nx, unf_rt, unf_bk, unf_ct, unf_ex, w_frz, w_comp, EnF_nx, EnF_d, EnF_l, EnF_ex, slot_d, slot_f, add_ii, add_ss, add_tt, add_ll, sub_ii, mul_ii, mul_li, div_ii, mod_ii, pow_ii, shl_ii, shr_ii, lt_ii, le_ii, gt_ii, ge_ii, neg_i, and_ii, or_ii, xor_ii, is_n, isnt_n, isNon_n, isNon_b, isNon_i, isNon_s, isNon_t, isNon_o, isNon_l, isNon_e, lstO_e, lstOf_l, lstOf_o, om_some, ix_t, ix_s, ix_l, ix_o, len_s, len_t, len_l, len_o, sum_l, all_l, any_l, max_ii, min_ii, max_l, min_l, tup_t, tup_l, tup_o, list_t, list_l, list_o, int_i, int_b, str_i, sl_t, sl_l, sl_s, eq_ii, ne_ii, eq_bb, ne_bb, isi_non_int, isi_non_bool, isi_non_str, isi_non_tuple, isi_non_list, isi_non_tl, isi_bl_int, isi_bl_bool, isi_bl_str, isi_bl_tuple, isi_bl_list, isi_bl_tl, isi_int_int, isi_int_bool, isi_int_str, isi_int_tuple, isi_int_list, isi_int_tl, isi_str_int, isi_str_bool, isi_str_str, isi_str_tuple, isi_str_list, isi_str_tl, isi_tup_int, isi_tup_bool, isi_tup_str, isi_tup_tuple, isi_tup_list, isi_tup_tl, isi_l_int, isi_l_bool, isi_l_str, isi_l_tuple, isi_l_list, isi_l_tl, ixN_00, ixN_1, ixN_2, ixN_3, atI_0, atI_1, atI_2, atI_3, intsOf_map, blsOf_map, List.set_cons_zero, List.set_cons_succ, List.getElem?_cons_zero, List.getElem?_cons_succ, List.replicate_succ, List.replicate_zero, List.length_cons, List.length_nil, Nat.zero_add, Nat.add_zero, Nat.reduceAdd, Nat.reduceSub, Nat.reduceLT, Nat.reduceLeDiff, Option.some.injEq, true_and, and_true, List.map_cons, List.map_nil, decide_true, decide_false, Bool.not_true, Bool.not_false, wipeE, QO_gd, startE_1, startE_2, startE_3, startE_4, fb_nx, fl_nx, fl_ct, fl_bk, fl_rt, fl_ex, cut_nx, cut_rt, cut_bk, cut_ct, cut_ex, w_raise, tr_nx, tr_rt, tr_bk, tr_ct, tr_ex, w_try, QCL_e, w_callL, kMt2_e, kMt_l, kMt_s, kMt_o, w_mt, if_true, QXT_e, kExtT_l, kExtT_d, QExt2_o, QExt2_l, exo_e, w_ext2, w_rng2, w_rng3, isB_bb, isntB_bb, beq_self_eq_true, w_ins0, QIns_o, kInsO_d, w_revE, kRevE_l, w_miEnumA, kEnumA_e, w_popAt, kPop_e, kPop2_e, sorted_e, divmod_e, w_lenSet, kLenSet_l, kRevA_l, kRevA_t, kRevA_o, w_revA, kZipM_e, kZipM2_e, w_miZipM, kAppD_e, kAppD2_e, w_appD])
local macro_rules | `(tactic| simp! only [$ls,*]) => `(tactic| simp only [QV_v, QV_own, QV_bor, QI_d, QI_l, QO_d, QO_l, QO_ite, QO_A, QA_s, w_C, w_var, kA2_e, kB2_dd, kB2_ld, kB2_dl, kB2_ll, w_op2, kA1_d, w_op1, kArg_e, kArg2_d, kArg2_l, w_args0, w_args, kOpN_e, w_opN, kIt_e, kIt2_e, kIt3_e, w_items0, w_items, kTup_e, kLst_e, w_tup, w_lst, kB_e, w_bOf, kAnd_t, kAnd_f, kOr_t, kOr_f, kNot_e, w_bAnd, w_bOr, w_bNot, w_bYes, kEAnd_t, kEAnd_f, kEOr_t, kEOr_f, kENot_e, w_eAnd, w_eOr, w_eNot, kEIf_t, kEIf_f, w_eIf, kCall_e, w_call, okR_d, okR_l, okR_ex, kPart2_e, w_part0, w_part, kSl3_d, kSl3_l, kSl2_e, kSl_e, w_sl, kCh_e, kCh1_e, kCh2_t, kCh2_f, w_chain, seq_nx, seq_rt, seq_bk, seq_ct, seq_ex, kX_e, w_seq, w_nop, w_brk, w_cnt, kIf_t, kIf_f, w_if, kRet_d, kRet_l, w_ret, w_retN, QRV_v, QRV_own, w_retV, kDrop_e, w_drop, kSet_d, kSet_l, w_set, kSetS_d, kSetS_l, w_setS, QMv_e, w_move, QG_e, tg_name, tg_tup, tg_tup1, tg_tup2, tg_tup3, tg_tup4, tg_nil, tg_cons, ob_some, kAsg_d, w_asg, kPar_e, w_par, kSixN_e, kSixL_e, QSt_e, kSixO_e, kSixT_e, QSix_o, QSix_l, kSix_d, kSix_l, w_setix, kAppO_d, kAppO_l, QAppT_e, kAppT_d, kAppT_l, QApp_o, QApp_l, w_app, kExtO_l, QExt_o, QS_t, QS_l, QSL_e, QQ_b, QQ_v, w_qVar, kQE_l, kQE_d, w_qE, kQC_l, kQC_d, w_qC, kSeq_e, w_miSeq, kRev_e, w_miRev, kEnum_e, w_miEnum, kZip_e, kZip2_e, w_miZip, kR1_e, w_miRng1, kR2_e, kR3_e, rngD_len, rngD2_len, chk_t, chk_p, chk_s, isT_t, isT_p, isT_s, w_for, lp_nx, lp_rt, lp_bk, lp_ct, lp_ex, frzS_e, frzQ_o, frzQ_v, frzQ_b, frzQ_n, unfS_e, unfQ_o, unfQ_v, unfQ_b, unfQ_n, unf_nx, unf_rt, unf_bk, unf_ct, unf_ex, w_frz, w_comp, EnF_nx, EnF_d, EnF_l, EnF_ex, slot_d, slot_f, add_ii, add_ss, add_tt, add_ll, sub_ii, mul_ii, mul_li, div_ii, mod_ii, pow_ii, shl_ii, shr_ii, lt_ii, le_ii, gt_ii, ge_ii, neg_i, and_ii, or_ii, xor_ii, is_n, isnt_n, isNon_n, isNon_b, isNon_i, isNon_s, isNon_t, isNon_o, isNon_l, isNon_e, lstO_e, lstOf_l, lstOf_o, om_some, ix_t, ix_s, ix_l, ix_o, len_s, len_t, len_l, len_o, sum_l, all_l, any_l, max_ii, min_ii, max_l, min_l, tup_t, tup_l, tup_o, list_t, list_l, list_o, int_i, int_b, str_i, sl_t, sl_l, sl_s, eq_ii, ne_ii, eq_bb, ne_bb, isi_non_int, isi_non_bool, isi_non_str, isi_non_tuple, isi_non_list, isi_non_tl, isi_bl_int, isi_bl_bool, isi_bl_str, isi_bl_tuple, isi_bl_list, isi_bl_tl, isi_int_int, isi_int_bool, isi_int_str, isi_int_tuple, isi_int_list, isi_int_tl, isi_str_int, isi_str_bool, isi_str_str, isi_str_tuple, isi_str_list, isi_str_tl, isi_tup_int, isi_tup_bool, isi_tup_str, isi_tup_tuple, isi_tup_list, isi_tup_tl, isi_l_int, isi_l_bool, isi_l_str, isi_l_tuple, isi_l_list, isi_l_tl, ixN_00, ixN_1, ixN_2, ixN_3, atI_0, atI_1, atI_2, atI_3, intsOf_map, blsOf_map, List.set_cons_zero, List.set_cons_succ, List.getElem?_cons_zero, List.getElem?_cons_succ, List.replicate_succ, List.replicate_zero, List.length_cons, List.length_nil, Nat.zero_add, Nat.add_zero, Nat.reduceAdd, Nat.reduceSub, Nat.reduceLT, Nat.reduceLeDiff, Option.some.injEq, true_and, and_true, List.map_cons, List.map_nil, decide_true, decide_false, Bool.not_true, Bool.not_false, wipeE, QO_gd, startE_1, startE_2, startE_3, startE_4, fb_nx, fl_nx, fl_ct, fl_bk, fl_rt, fl_ex, cut_nx, cut_rt, cut_bk, cut_ct, cut_ex, w_raise, tr_nx, tr_rt, tr_bk, tr_ct, tr_ex, w_try, QCL_e, w_callL, kMt2_e, kMt_l, kMt_s, kMt_o, w_mt, if_true, QXT_e, kExtT_l, kExtT_d, QExt2_o, QExt2_l, exo_e, w_ext2, w_rng2, w_rng3, isB_bb, isntB_bb, beq_self_eq_true, w_ins0, QIns_o, kInsO_d, w_revE, kRevE_l, w_miEnumA, kEnumA_e, w_popAt, kPop_e, kPop2_e, sorted_e, divmod_e, w_lenSet, kLenSet_l, kRevA_l, kRevA_t, kRevA_o, w_revA, kZipM_e, kZipM2_e, w_miZipM, kAppD_e, kAppD2_e, w_appD, $ls,*])
theorem law_true (ns : List Int) (hl : ns.length ≤ 63) : ∃ S', m_law [.d (.scr ns)] [] = .ok (.d (.bl true)) S' := by
  refine law_of (fun_w ?_)
  unfold mb_law
  walk_at "w"
  refine bag0_w hl fun S0 hb _ => ?_
  walk_at "w"
  have p6 : (10 : Int) ^ Int.toNat 6 = 1000000 := by decide
  refine ⟨cpow (by decide) (by decide) (by decide) (by decide), ?_⟩
  rw [p6]
  refine pull_w hb (by omega) (by omega) (by omega) fun n S1 n0 n1 b1 _ => ?_
  walk_at "w"
  have hlog : n.natAbs.log2 < 1920 := by
    have : n.natAbs.log2 ≤ n.natAbs := Nat.log2_le_self _
    by_cases h : n.natAbs = 0
    · rw [h]; decide
    · exact Nat.lt_trans ((Nat.log2_lt h).mpr (show n.natAbs < 2 ^ 20 by omega)) (by decide)
  have hlen : (Str.ofString "k").length + (Str.ofString (toString n)).length ≤ sizeLine := by
    have := PyProof.Rows.toString_length_le (v := n) (k := 6) n0 (by decide) (by omega)
    have e : (Str.ofString "k").length = 1 := by decide +kernel
    rw [e, sizeLine_eq]
    omega
  refine ⟨hlog, hlen, ?_⟩
  generalize hw : Str.ofString "k" ++ Str.ofString (toString n) = word
  simp! only [w_fld, w_sfld, kPutO_d, kPutO_l, w_meth, kMeth3_e, w_make, mk_e, WR_ok, w_appF, w_raiseA, kRaiseA_d, trA_nx, trA_rt, trA_ex, w_tryA, w_at, kAt_e, w_exc, kExc_e, w_excA, kExcA_d, w_miStr, kStr_e, tr_ex1, intA_str, intA_bl, intA_int]
  refine ⟨le_line (by omega), ⟨by decide, by decide⟩, ?_⟩
  refine for_inv (fun t es S => S = S1 ∧ ∃ s5 s6 s7, es = [.v (.scr ns), .v (.loc 1), .v (.int n), .v (.str word), .own [.exn 1 [], .exn 2 [], .exn 3 [], .exn 4 [], .exn 5 [], .exn 6 [.int n]], s5, s6, s7]) ⟨rfl, _, _, _, rfl⟩ (fun _ _ _ _ => trivial) (fun t x es S hx h => ?_) (fun es S h => ?_)
  · obtain ⟨rfl, ht⟩ := rngD_get hx
    have ht : t < 6 := ht
    obtain ⟨rfl, s5, s6, s7, rfl⟩ := h
    refine ⟨_, rfl, ?_⟩
    obtain ⟨x, c, hx, hc, hc6, hi, hv⟩ : ∃ x c, atI [.exn 1 [], .exn 2 [], .exn 3 [], .exn 4 [], .exn 5 [], .exn 6 [.int n]] (t : Int) = some x ∧ c = t + 1 ∧ c ≤ 6 ∧
        (∀ k, k ≤ 6 → isxF S [.d x, .d (.cls k)] = some (.d (.bl (subX c k)))) ∧ isxF S [.d x, .d (.ty "ValueError")] = some (.d (.bl true)) := by
      have hk : t = 0 ∨ t = 1 ∨ t = 2 ∨ t = 3 ∨ t = 4 ∨ t = 5 := by omega
      rcases hk with rfl | rfl | rfl | rfl | rfl | rfl
      · exact ⟨.exn 1 [], 1, rfl, rfl, by decide, fun k hk => isx_c ⟨by decide, by decide, hk⟩, isx_v (by decide)⟩
      · exact ⟨.exn 2 [], 2, rfl, rfl, by decide, fun k hk => isx_c ⟨by decide, by decide, hk⟩, isx_v (by decide)⟩
      · exact ⟨.exn 3 [], 3, rfl, rfl, by decide, fun k hk => isx_c ⟨by decide, by decide, hk⟩, isx_v (by decide)⟩
      · exact ⟨.exn 4 [], 4, rfl, rfl, by decide, fun k hk => isx_c ⟨by decide, by decide, hk⟩, isx_v (by decide)⟩
      · exact ⟨.exn 5 [], 5, rfl, rfl, by decide, fun k hk => isx_c ⟨by decide, by decide, hk⟩, isx_v (by decide)⟩
      · exact ⟨.exn 6 [.int n], 6, rfl, rfl, by decide, fun k hk => isx_c6 hk, isx_v6⟩
    have h0 := hi 0 (by decide)
    have h1 := hi 1 (by decide)
    have h2 := hi 2 (by decide)
    have h3 := hi 3 (by decide)
    have h4 := hi 4 (by decide)
    have h5 := hi 5 (by decide)
    have h6 := hi 6 (by decide)
    have s0 : subX c 0 = true := by unfold subX; simp
    simp! only [w_fld, w_sfld, kPutO_d, kPutO_l, w_meth, kMeth3_e, w_make, mk_e, WR_ok, w_appF, w_raiseA, kRaiseA_d, trA_nx, trA_rt, trA_ex, w_tryA, w_at, kAt_e, w_exc, kExc_e, w_excA, kExcA_d, w_miStr, kStr_e, tr_ex1, intA_str, intA_bl, intA_int, hx, h0, h1, h2, h3, h4, h5, h6, hv, s0]
    refine ⟨by decide, by decide, by decide, ⟨by decide, by decide⟩, ?_⟩
    refine comp_map (fun d => match d with
      | .int j => .bl (decide (j = (t : Int)))
      | _ => .non) (le_line (by decide)) trivial (fun i d hd => ?_) ?_
    · obtain ⟨rfl, hi⟩ := rngD_get hd
      refine ⟨_, rfl, ?_⟩
      walk_at "w"
    · have e : neF S (.l false ([.bl (subX c 1), .bl (subX c 2), .bl (subX c 3)] ++ [.bl (subX c 4), .bl (subX c 5), .bl (subX c 6)])) (.l false ((rngD (Int.toNat 6)).map (fun d => match d with
          | .int j => D.bl (decide (j = (t : Int)))
          | _ => .non))) = some (.d (.bl false)) := by
        subst hc
        have hk : t = 0 ∨ t = 1 ∨ t = 2 ∨ t = 3 ∨ t = 4 ∨ t = 5 := by omega
        rcases hk with rfl | rfl | rfl | rfl | rfl | rfl <;> rfl
      simp! only [w_fld, w_sfld, kPutO_d, kPutO_l, w_meth, kMeth3_e, w_make, mk_e, WR_ok, w_appF, w_raiseA, kRaiseA_d, trA_nx, trA_rt, trA_ex, w_tryA, w_at, kAt_e, w_exc, kExc_e, w_excA, kExcA_d, w_miStr, kStr_e, tr_ex1, intA_str, intA_bl, intA_int, e, hx, h0, hv, s0]
      exact ⟨_, _, _, rfl⟩
  · obtain ⟨rfl, s5, s6, s7, rfl⟩ := h
    have e5 : atI [D.exn 1 [], D.exn 2 [], D.exn 3 [], D.exn 4 [], D.exn 5 [], D.exn 6 [D.int n]] 5 = some (.exn 6 [.int n]) := rfl
    simp! only [w_fld, w_sfld, kPutO_d, kPutO_l, w_meth, kMeth3_e, w_make, mk_e, WR_ok, w_appF, w_raiseA, kRaiseA_d, trA_nx, trA_rt, trA_ex, w_tryA, w_at, kAt_e, w_exc, kExc_e, w_excA, kExcA_d, w_miStr, kStr_e, tr_ex1, intA_str, intA_bl, intA_int, e5]
end LK

open PySem PySem.W PyProof.Rows
set_option maxRecDepth 100000 in
set_option maxHeartbeats 0 in
theorem PySem.Challenge.cw_partbook_k49_refusals_apart_holds : PySem.Challenge.rw_partbook_k49_refusals_apart.Holds := by
  w_on; o_law; k_head; (case hw => w_witness2)
  k_fill
  refine DM.walk_M (l := PySem.Challenge.rw_partbook_k49_refusals_apart) (n := 63) (k := 3) (x := "_law_script") (m := LK.m_law) rfl (by decide) rfl ⟨rfl, by decide, by decide⟩ (fun w h Y => PySem.W.kIn_of Y) ?F LK.law_true
  case F =>
    intro w mg fa h KX G hmg
    refine' LK.all_mk KX G hmg ?i0 ?a0 ?l0 ?c0 ?k0 ?a1 ?l1 ?c1 ?k1 ?a2 ?l2 ?c2 ?k2 ?a3 ?l3 ?c3 ?k3 ?z0 ?z1 ?z2 ?z3 ?z4 ?z5 ?gc0 ?kc0 ?bc0 ?tc0 ?hd0 ?sb0_0 ?gc1 ?kc1 ?xc1 ?bc1 ?tc1 ?hd1 ?sb1_0 ?hg1 ?hk1 ?ha1 ?hm1 ?sb1_1 ?sb1_2 ?ne1_2 ?sb1_3 ?ne1_3 ?sb1_4 ?ne1_4 ?sb1_5 ?ne1_5 ?sb1_6 ?ne1_6 ?v1 ?gc2 ?kc2 ?xc2 ?bc2 ?tc2 ?hd2 ?sb2_0 ?hg2 ?hk2 ?ha2 ?hm2 ?sb2_1 ?ne2_1 ?sb2_2 ?sb2_3 ?ne2_3 ?sb2_4 ?ne2_4 ?sb2_5 ?ne2_5 ?sb2_6 ?ne2_6 ?v2 ?gc3 ?kc3 ?xc3 ?bc3 ?tc3 ?hd3 ?sb3_0 ?hg3 ?hk3 ?ha3 ?hm3 ?sb3_1 ?ne3_1 ?sb3_2 ?ne3_2 ?sb3_3 ?sb3_4 ?ne3_4 ?sb3_5 ?ne3_5 ?sb3_6 ?ne3_6 ?v3 ?gc4 ?kc4 ?xc4 ?bc4 ?tc4 ?hd4 ?sb4_0 ?hg4 ?hk4 ?ha4 ?hm4 ?sb4_1 ?ne4_1 ?sb4_2 ?ne4_2 ?sb4_3 ?ne4_3 ?sb4_4 ?sb4_5 ?ne4_5 ?sb4_6 ?ne4_6 ?v4 ?gc5 ?kc5 ?xc5 ?bc5 ?tc5 ?hd5 ?sb5_0 ?hg5 ?hk5 ?ha5 ?hm5 ?sb5_1 ?ne5_1 ?sb5_2 ?ne5_2 ?sb5_3 ?ne5_3 ?sb5_4 ?ne5_4 ?sb5_5 ?sb5_6 ?ne5_6 ?v5 ?gc6 ?kc6 ?bc6 ?tc6 ?hd6 ?sb6_0 ?xl6 ?xsa6 ?xkc0 ?xrd0 ?xga0 ?xin0 ?xat6 ?hg6 ?hk6 ?ha6 ?hm6 ?sb6_1 ?ne6_1 ?sb6_2 ?ne6_2 ?sb6_3 ?ne6_3 ?sb6_4 ?ne6_4 ?sb6_5 ?ne6_5 ?sb6_6 ?v6 ?hn ?ht
    (case gc0 => k_is)
    (case gc1 => k_is)
    (case gc2 => k_is)
    (case gc3 => k_is)
    (case gc4 => k_is)
    (case gc5 => k_is)
    (case gc6 => k_is)
    (case a0 => k_is)
    (case a1 => k_is)
    (case a2 => k_is)
    (case a3 => k_is)
    (case i0 => k_is)
    (case l0 => k_is)
    (case c0 => k_is)
    (case k0 => k_is)
    (case l1 => k_is)
    (case c1 => k_is)
    (case k1 => k_is)
    (case l2 => k_is)
    (case c2 => k_is)
    (case k2 => k_is)
    (case l3 => k_is)
    (case c3 => k_is)
    (case k3 => k_is)
    (case z0 => k_is)
    (case z1 => k_is)
    (case z2 => k_is)
    (case z3 => k_is)
    (case z4 => k_is)
    (case z5 => k_is)
    (case kc0 => k_is)
    (case bc0 => k_is)
    (case tc0 => k_is)
    (case hd0 => k_is)
    (case sb0_0 => first | rfl | k_is)
    (case kc1 => k_is)
    (case xc1 => k_exc)
    (case bc1 => k_is)
    (case tc1 => k_is)
    (case hd1 => k_is)
    (case sb1_0 => first | rfl | k_is)
    (case hg1 => k_is)
    (case hk1 => k_is)
    (case ha1 => k_is)
    (case hm1 => k_is)
    (case sb1_1 => first | rfl | k_is)
    (case sb1_2 => first | rfl | k_is)
    (case ne1_2 => first | rfl | decide | k_is)
    (case sb1_3 => first | rfl | k_is)
    (case ne1_3 => first | rfl | decide | k_is)
    (case sb1_4 => first | rfl | k_is)
    (case ne1_4 => first | rfl | decide | k_is)
    (case sb1_5 => first | rfl | k_is)
    (case ne1_5 => first | rfl | decide | k_is)
    (case sb1_6 => first | rfl | k_is)
    (case ne1_6 => first | rfl | decide | k_is)
    (case v1 => k_is)
    (case kc2 => k_is)
    (case xc2 => k_exc)
    (case bc2 => k_is)
    (case tc2 => k_is)
    (case hd2 => k_is)
    (case sb2_0 => first | rfl | k_is)
    (case hg2 => k_is)
    (case hk2 => k_is)
    (case ha2 => k_is)
    (case hm2 => k_is)
    (case sb2_1 => first | rfl | k_is)
    (case ne2_1 => first | rfl | decide | k_is)
    (case sb2_2 => first | rfl | k_is)
    (case sb2_3 => first | rfl | k_is)
    (case ne2_3 => first | rfl | decide | k_is)
    (case sb2_4 => first | rfl | k_is)
    (case ne2_4 => first | rfl | decide | k_is)
    (case sb2_5 => first | rfl | k_is)
    (case ne2_5 => first | rfl | decide | k_is)
    (case sb2_6 => first | rfl | k_is)
    (case ne2_6 => first | rfl | decide | k_is)
    (case v2 => k_is)
    (case kc3 => k_is)
    (case xc3 => k_exc)
    (case bc3 => k_is)
    (case tc3 => k_is)
    (case hd3 => k_is)
    (case sb3_0 => first | rfl | k_is)
    (case hg3 => k_is)
    (case hk3 => k_is)
    (case ha3 => k_is)
    (case hm3 => k_is)
    (case sb3_1 => first | rfl | k_is)
    (case ne3_1 => first | rfl | decide | k_is)
    (case sb3_2 => first | rfl | k_is)
    (case ne3_2 => first | rfl | decide | k_is)
    (case sb3_3 => first | rfl | k_is)
    (case sb3_4 => first | rfl | k_is)
    (case ne3_4 => first | rfl | decide | k_is)
    (case sb3_5 => first | rfl | k_is)
    (case ne3_5 => first | rfl | decide | k_is)
    (case sb3_6 => first | rfl | k_is)
    (case ne3_6 => first | rfl | decide | k_is)
    (case v3 => k_is)
    (case kc4 => k_is)
    (case xc4 => k_exc)
    (case bc4 => k_is)
    (case tc4 => k_is)
    (case hd4 => k_is)
    (case sb4_0 => first | rfl | k_is)
    (case hg4 => k_is)
    (case hk4 => k_is)
    (case ha4 => k_is)
    (case hm4 => k_is)
    (case sb4_1 => first | rfl | k_is)
    (case ne4_1 => first | rfl | decide | k_is)
    (case sb4_2 => first | rfl | k_is)
    (case ne4_2 => first | rfl | decide | k_is)
    (case sb4_3 => first | rfl | k_is)
    (case ne4_3 => first | rfl | decide | k_is)
    (case sb4_4 => first | rfl | k_is)
    (case sb4_5 => first | rfl | k_is)
    (case ne4_5 => first | rfl | decide | k_is)
    (case sb4_6 => first | rfl | k_is)
    (case ne4_6 => first | rfl | decide | k_is)
    (case v4 => k_is)
    (case kc5 => k_is)
    (case xc5 => k_exc)
    (case bc5 => k_is)
    (case tc5 => k_is)
    (case hd5 => k_is)
    (case sb5_0 => first | rfl | k_is)
    (case hg5 => k_is)
    (case hk5 => k_is)
    (case ha5 => k_is)
    (case hm5 => k_is)
    (case sb5_1 => first | rfl | k_is)
    (case ne5_1 => first | rfl | decide | k_is)
    (case sb5_2 => first | rfl | k_is)
    (case ne5_2 => first | rfl | decide | k_is)
    (case sb5_3 => first | rfl | k_is)
    (case ne5_3 => first | rfl | decide | k_is)
    (case sb5_4 => first | rfl | k_is)
    (case ne5_4 => first | rfl | decide | k_is)
    (case sb5_5 => first | rfl | k_is)
    (case sb5_6 => first | rfl | k_is)
    (case ne5_6 => first | rfl | decide | k_is)
    (case v5 => k_is)
    (case kc6 => k_is)
    (case bc6 => k_is)
    (case tc6 => k_is)
    (case hd6 => k_is)
    (case sb6_0 => first | rfl | k_is)
    (case xl6 => k_is)
    (case xsa6 => k_is)
    (case xkc0 => k_is)
    (case xrd0 => k_is)
    (case xga0 => k_is)
    (case xin0 => k_is)
    (case xat6 => k_is)
    (case hg6 => k_is)
    (case hk6 => k_is)
    (case ha6 => k_is)
    (case hm6 => k_is)
    (case sb6_1 => first | rfl | k_is)
    (case ne6_1 => first | rfl | decide | k_is)
    (case sb6_2 => first | rfl | k_is)
    (case ne6_2 => first | rfl | decide | k_is)
    (case sb6_3 => first | rfl | k_is)
    (case ne6_3 => first | rfl | decide | k_is)
    (case sb6_4 => first | rfl | k_is)
    (case ne6_4 => first | rfl | decide | k_is)
    (case sb6_5 => first | rfl | k_is)
    (case ne6_5 => first | rfl | decide | k_is)
    (case sb6_6 => first | rfl | k_is)
    (case v6 => k_is)
    (case hn => k_is)
    (case ht => k_is)
