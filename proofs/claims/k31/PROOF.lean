import PyProof.Rows.All
import Wide.All
import OpenK.AllK
import Wide.FinOn
import HandS.ForMost
import HandS.ForExc
import HandS.Wide
import HandS.IsInst
import HandS.Zip
import HandS.CallSlots
import HandS.CallLocal
import HandS.TupLe
import HandS.TupMul
import HandS.Conv
import HandS.TupAny
import HandS.Rev
import HandS.Exc
import HandS.ExcOwn
import HandS.ExcIs
import KE.GoesZip
import KE.GoesMore
import KE.GoesEnum
import HandS.Deep
import KE.KExcIs
import KE.DataFind
import HandS.Style
import PyProof.ReprRoads
import HandS.More
import HandS.SortInts
import HandS.TryOnly
import HandS.Dict
import KE.DataMinMax
import KE.SortData
import HandS.SetKeys
import KE.DataMinKey
import KE.KDictWalk
import HandS.SortKw
import HandS.SetFor
import HandS.Strs
import HandS.TupLen
import KE.KDictDisplayH
import KE.KDictSum
import HandS.Text
import KE.KDictZip
import HandS.MapObj
import HandS.ExcValue
import HandS.TupSets
import HandS.ExcInit
import HandS.ExcField
import HandS.Iter
import HandS.StrMore
import PySem.Challenge.RW_partbook_k31_best_books
set_option Elab.async false
set_option linter.all false
set_option maxRecDepth 100000
set_option maxHeartbeats 4000000
set_option autoImplicit false
namespace L2
open PySem PySem.Spec PyProof.Rows
def ExK (oe : Obj) (a : Addr) : HO := .frz oe (.ext fun h => h.get? a = some oe)
theorem track {X : Cx} {pins : List (Addr × Obj)} {σ : St} {H : Hp} {s : Shared} {a : Addr} {oe : Obj} {vs : Array Value} (I : Inv X pins σ H s) (he : s.heap.get? a = some oe) (hd : oe.data = .fields vs) (na : H a = none)
    (h0 : X.s_0.heap.get? a = none) (nL : a ≠ X.env.locals) (np : ∀ p ∈ X.pn ++ pins, p.1 ≠ a) : Inv X pins σ (upd H a (ExK oe a)) s := by
  have ne : ∀ b o, H b = some o → b ≠ a := fun b o e z => by rw [z, na] at e; cases e
  refine ⟨I.ok, I.os, I.bare, ⟨I.base.keep, I.base.slot, fun b o e n hx => ?_, I.base.there, fun b xs e => ?_, fun b o u e => ?_, fun b ps e => ?_⟩, I.loc, I.cell, ?_, fun y c e => ?_, fun p hp => ?_, fun b ob e => ?_, I.len⟩
  · rw [upd_ne (fun z => by rw [z, h0] at e; cases e)]
    exact I.base.free b o e n hx
  · have q := I.base.tups b xs e
    rw [upd_ne (ne _ _ q)]; exact q
  · have q := I.base.frzs b o u e
    rw [upd_ne (ne _ _ q)]; exact q
  · obtain ⟨more, q⟩ := I.base.tbls b ps e
    rw [upd_ne (ne _ _ q)]; exact ⟨more, q⟩
  · rw [upd_ne (Ne.symm nL)]; exact I.free
  · obtain ⟨v, hc⟩ := I.cell y c e
    rw [upd_ne (fun z => by
      obtain ⟨o, hs, q⟩ := hc
      rw [z, he] at hs
      cases hs
      rw [hd] at q
      cases q)]
    exact I.freeC y c e
  · obtain ⟨h1, h2, h3, h4, h5⟩ := I.pin p hp
    exact ⟨h1, by rw [upd_ne (np p hp)]; exact h2, h3, h4, h5⟩
  · by_cases hb : b = a
    · subst hb
      rw [upd_same] at e
      cases e
      exact ⟨he, he, ⟨_, he⟩, fun h1 h2 q k => k _ q⟩
    · rw [upd_ne hb] at e
      refine ObjOk.stay (I.hok b ob e) (fun _ _ _ z => z) (fun b' q => ?_) (fun b' xs q => ?_)
      · rw [upd_ne (ne _ _ q)]; exact q
      · rw [upd_ne (ne _ _ q)]; exact q
def wKeep (K : PySem.W.Frag) (c : Value) (i j : Nat) (Wout : WX) (D : Ends) : WX := fun cls d σ H =>
  ∃ b, PySem.W.exmOne K cls c = some b ∧ (b = true → ∀ a oe, H a = none → Zc cls d oe → (∃ vs, oe.data = .fields vs) → D.nx (((σ.set i (some (.ref a))).set j (some (.ref a))).set i none) (upd H a (ExK oe a))) ∧ (b = false → Wout cls d σ H)
section
variable {X : Cx} {x n y : Str} {c : Value} {i j : Nat} {body : List Stmt} {np pos pos' yp ep ap : Pos} {tb : WX → TS} {Wout : WX}
theorem ps_try_keep (hs : X.stack = X.env :: X.outer) (hf : X.env.frame = some X.env.locals) (hx : X.ex = []) (hN : X.N.Nodup) (hi : X.N[i]? = some n) (hj : X.N[j]? = some y) (hln : X.env.kindOf n = some .local) (hly : X.env.scope.names.lookup y = some .local) (hc : Names X x c) (tk : Takes X Wout)
    (hdn : (n == ("__debug__" : Str)) = false) (hcn : (n == ("__classdict__" : Str)) = false)
    (hb : ∀ (W : WX) (pn : List (Addr × Obj)) (xe : Value → Shared → Prop), Takes (X.tr pn xe) W → PassesOwn (model X.prog X.w) X.A X.env xe → PSs (X.tr pn xe) body (tb W)) :
    PS X (.Try body [.ExceptHandler (some (.Name x np)) (some n) [.Assign [.Name y yp] (.Name n ep) ap] pos'] [] [] pos) (fun D σ H => tb (wKeep X.K c i j Wout D) D σ H) := by
  refine ⟨fun pins s σ H D I h => ?_⟩
  have ok := I.ok
  have hfr : X.A.frames = some (X.env :: X.outer) := by rw [ok.frames, hs]
  have hloc : Loc X.env.scope n := .inl hln
  refine wpAny_Try_except ?_
  refine wpAny_mono ((hb (wKeep X.K c i j Wout D) (X.pn ++ pins) (fun e s₁ => wpAny (model X.prog X.w) X.A (noteFrame e X.env) (fun _ s₂ => wpAny (model X.prog X.w) X.A (setFlight e none) (fun _ s₃ =>
    wpAny (model X.prog X.w) X.A (handleBy e X.env [.ExceptHandler (some (.Name x np)) (some n) [.Assign [.Name y yp] (.Name n ep) ap] pos']) (SP X pins D) X.xe s₃) X.xe s₂) X.xe s₁) (fun u s' xx => ?_) PassesOwn.looking).run [] s σ H D (I.toTry _) h) (fun f s1 hsp => ?_) (fun e s1 he => he)
  · -- the catch
    obtain ⟨a, B, sI, pins', σ', H', cls, d, rfl, J', nb, up, sky, na, os, ag, b, hb1, hyes, hno⟩ := xx
    have J : Inv X pins σ' H' sI := J'.ofTry ok
    have sky' : Sky B (X.env :: X.outer) a (Zc cls d) X.env.locals s'.heap := by rw [← hs]; exact sky
    have bn : B.get? a = none := by
      rcases sky' with ⟨_, q, _⟩ | ⟨_, q, _⟩ | ⟨_, q, _⟩ <;> exact q
    show wpAny (model X.prog X.w) X.A (noteFrame (.ref a) X.env) _ _ _
    refine Sky.land Zc.steady hfr hf sky' fun h3 fl3 up3 => ?_
    have J3 : Inv X pins σ' H' { s' with heap := h3 } := J.landed nb fl3.1 (up.trans up3) os ag
    obtain ⟨oe3, vs3, he3, hz3, hd3⟩ := fl3.there
    have notFr : ∀ {h : Heap} {o : Obj} {vs : Array Value}, h.FunFrames B (X.env :: X.outer) → h.get? a = some o → o.data = .fields vs → a ∉ frs (X.env :: X.outer) := fun {h o vs} ff e dd hm => by
      obtain ⟨_, o', e', hnf⟩ := ff.mem hm
      rw [e] at e'; cases e'
      exact hnf _ dd
    have nfr := notFr fl3.2.2.1 he3 hd3
    have sIn : sI.heap.get? a = none := by
      cases z : sI.heap.get? a with
      | none => rfl
      | some o =>
        have := nb a o z (by rw [hs]; exact nfr)
        rw [bn] at this; cases this
    have s0n : X.s_0.heap.get? a = none := by
      cases z : X.s_0.heap.get? a with
      | none => rfl
      | some o =>
        obtain ⟨o', q⟩ := J.base.there a o z (by rw [hx]; simp)
        rw [sIn] at q; cases q
    have npin : ∀ p ∈ X.pn ++ pins, p.1 ≠ a := fun p hp z => by
      have := (J.pin p hp).1
      rw [z, sIn] at this; cases this
    have nL : a ≠ X.env.locals := fun z => nfr (List.mem_filterMap.mpr ⟨X.env, List.mem_cons_self, by rw [hf, z]⟩)
    have nF : a ∉ X.fs := fun hm => by
      obtain ⟨e, he, q⟩ := List.mem_filterMap.mp hm
      exact nfr (List.mem_filterMap.mpr ⟨e, List.mem_cons_of_mem _ he, q⟩)
    have S3 := J3.suite he3 hd3 na nL nF
    refine wpAny_handleBy_cons (codeAny_handlers_test ?_) (by intro q; cases q)
    have LT : PySem.W.Looks (model X.prog X.w) h3 (typeOf (.ref a)) cls := fun A Q E s k q => wpAny_typeOf_ref (k _ _ he3) (by rw [hz3.1]; exact q)
    have LM := PySem.W.exm_one (M := model X.prog X.w) (J3.kIn) LT hb1
    have test : ∀ {Q : Value → Shared → Prop} {E : Value → Shared → Prop}, Q c { s' with heap := h3 } → wpAny (model X.prog X.w) (X.A.mark (some (.ref a))) (eval (.Name x np) X.env) Q E { s' with heap := h3 } := fun {Q E} q => by
      obtain ⟨hg, hdbg, hm | ⟨hm, hv, hnn⟩⟩ := hc
      · exact ld_glob (X := X.suite a ((a, oe3) :: (X.pn ++ pins))) S3 hg hm q hdbg
      · exact ld_blt (X := X.suite a ((a, oe3) :: (X.pn ++ pins))) S3 hg hm hv q hnn hdbg
    refine test (LM.here ?_)
    cases b with
    | true =>
      refine codeAny_handlers_suite_as ?_
      refine HandSPX.lands_againZ fl3 fun h4 fl4 up4 => ?_
      have J4 : Inv X pins σ' H' { s' with heap := h4 } := J.landed nb fl4.1 ((up.trans up3).trans up4) os ag
      obtain ⟨oe4, vs4, he4, hz4, hd4⟩ := fl4.there
      have S4 := J4.suite he4 hd4 na nL nF
      refine store_ok (X := X.suite a ((a, oe4) :: (X.pn ++ pins))) (v := .ref a) S4 hN hi hloc rfl (fun s5 S5 => ?_) (.inr hln)
      have hsl : i < σ'.length := by
        rw [J.len]; exact (List.getElem?_eq_some_iff.mp hi).1
      have su : PSs (X.suite a ((a, oe4) :: (X.pn ++ pins))) [.Assign [.Name y yp] (.Name n ep) ap] _ := pss_one (ps_set (i := j) hN hj (.inl hly) (pe_var (i := i) hi (.inl hln) hdn hcn) rfl (.inr hly))
      refine wpAny_mono (su.run [] s5 _ H' { nx := fun σ6 H6 => σ6 = (σ'.set i (some (.ref a))).set j (some (.ref a)) ∧ H6 = H', rt := fun _ _ => False, bk := fun _ _ => False, ct := fun _ _ => False } S5 ⟨.ref a, List.getElem?_set_self hsl, rfl, rfl⟩) (fun f s6 hsp => ?_) (fun _ _ z => False.elim z)
      cases f with
      | next =>
        obtain ⟨σ6, H6, S6, e6, e7⟩ := hsp
        subst e6
        subst e7
        have pin6 := S6.pin (a, oe4) (List.mem_append_left _ List.mem_cons_self)
        have T6 := track (S6.unsuite ok) pin6.1 hd4 pin6.2.1 s0n nL npin
        exact gone_ok T6 hN hi hln fun s7 J7 => ⟨_, _, J7, hyes rfl a oe4 na hz4 ⟨_, hd4⟩⟩
      | brk => obtain ⟨_, _, _, q⟩ := hsp; exact q.elim
      | cont => obtain ⟨_, _, _, q⟩ := hsp; exact q.elim
      | ret u => obtain ⟨_, _, _, _, _, q⟩ := hsp; exact q.elim
    | false =>
      show wpAny _ X.A (handleBy (.ref a) X.env []) _ _ _
      refine wpAny_handleBy_nil ?_
      obtain ⟨k1, k2, k3, oe, vs, T, oT, ts', he, hz, hd, h1, hr⟩ := id fl3
      unfold PySem.passOn
      refine wpAny_bind (wpAny_field he hd h1 ?_)
      rw [if_neg (show ¬ ((Value.ref T == Value.none) = true) from by simp)]
      have fin : wpAny (model X.prog X.w) X.A (setFlight (.ref a) X.env.frame) (fun _ s4 => wpAny (model X.prog X.w) X.A (throw (.ref a) : Sem Flow) (SP X pins D) X.xe s4) X.xe { s' with heap := h3 } := by
        rw [hf]
        refine HandSPX.setFlight_upZ fl3 fun h4 hh4 up4 => wpAny_throw (tk _ _ ?_)
        exact ⟨a, B, sI, pins, σ', H', cls, d, rfl, J, nb, (up.trans up3).trans up4, .inr (.inr (by rw [hs]; exact hh4)), na, os, ag, hno rfl⟩
      first
        | exact wpAny_bind (wpAny_pure (wpAny_bind fin))
        | exact wpAny_bind fin
  · cases f with
    | next =>
      obtain ⟨σ', H', J', q⟩ := hsp
      exact wpAny_execs_nil ⟨σ', H', J'.ofTry ok, q⟩
    | brk =>
      obtain ⟨σ', H', J', q⟩ := hsp
      exact ⟨σ', H', J'.ofTry ok, q⟩
    | cont =>
      obtain ⟨σ', H', J', q⟩ := hsp
      exact ⟨σ', H', J'.ofTry ok, q⟩
    | ret u =>
      obtain ⟨v, σ', H', J', r, q⟩ := hsp
      exact ⟨v, σ', H', J'.ofTry ok, r, q⟩
end
end L2

namespace DM
open PySem PySem.Spec L2

inductive D where
  | non | bl (b : Bool) | int (i : Int) | str (x : Str) | tup (xs : List D) | loc (n : Nat) | ty (n : String) | cls (n : Nat) | fn (n : Nat) | exn (c : Nat) (p : List D) | scr (xs : List Int)
inductive O where
  | lst (xs : List D) | dic (t : Bool) (kvs : List (List Key × D)) | ins (t : Bool) (kvs : List (List Key × D)) | obj (c : Nat) (fs : List (Str × D))
abbrev Store := List O
inductive RV where
  | d (x : D) | l (fresh : Bool) (xs : List D)
inductive Res (T : Type) where
  | ok (a : T) (S : Store) | ex (c : Nat) (p : List D) (S : Store) | bad
inductive Slot where
  | no | v (x : D) | own (xs : List D) | bor (xs : List D)
abbrev Env := List Slot

structure GT where
  K : PySem.W.Frag
  cls : List Addr
  fns : List Addr
  exf : Nat → List D → Addr → Hp → Prop

def KT (H : Hp) (a : Addr) (vs : List V) : Prop := ∃ o : Obj, H a = some (.frz o (.tup vs)) ∧ o.dict = none
def ScrAt (K : PySem.W.Frag) (H : Hp) (a : Addr) (ns : List Int) : Prop := (∃ o, H a = some (.frz o (.lst (ns.map V.int)))) ∨ ∀ H', SqL K H' a (ns.map V.int)
mutual
inductive Rep (G : GT) (ρ : List Addr) (H : Hp) : D → V → Prop
  | non : Rep G ρ H .non .non
  | bl (b : Bool) : Rep G ρ H (.bl b) (.bl b)
  | int (i : Int) : Rep G ρ H (.int i) (.int i)
  | str (x : Str) : Rep G ρ H (.str x) (.str x)
  | tup {a : Addr} {vs : List V} {ds : List D} (h : KT H a vs) (r : Reps G ρ H ds vs) : Rep G ρ H (.tup ds) (.ref a)
  | loc {n : Nat} {a : Addr} (h : ρ[n]? = some a) : Rep G ρ H (.loc n) (.ref a)
  | ty (n : String) : Rep G ρ H (.ty n) (.ty n)
  | cls {n : Nat} {a : Addr} (h : G.cls[n]? = some a) : Rep G ρ H (.cls n) (.ref a)
  | fn {n : Nat} {a : Addr} (h : G.fns[n]? = some a) : Rep G ρ H (.fn n) (.ref a)
  | scr {ns : List Int} {a : Addr} (h : ScrAt G.K H a ns) : Rep G ρ H (.scr ns) (.ref a)
  | exn {c : Nat} {C a : Addr} {oe : Obj} (hC : G.cls[c]? = some C) (h : H a = some (ExK oe a)) (z : Zc (.ref C) none oe) (f : ∃ vs, oe.data = .fields vs) : Rep G ρ H (.exn c []) (.ref a)
  | exo {c : Nat} {C a dx : Addr} {oe : Obj} {d : D} {v : V} (hC : G.cls[c]? = some C) (h : H a = some (ExK oe a)) (z : Zc (.ref C) (some dx) oe) (f : ∃ vs, oe.data = .fields vs) (hd : H dx = some (.xd [(("at" : Str), v)])) (r : Rep G ρ H d v) : Rep G ρ H (.exn c [d]) (.ref a)
inductive Reps (G : GT) (ρ : List Addr) (H : Hp) : List D → List V → Prop
  | nil : Reps G ρ H [] []
  | cons {d : D} {ds : List D} {v : V} {vs : List V} (h : Rep G ρ H d v) (t : Reps G ρ H ds vs) : Reps G ρ H (d :: ds) (v :: vs)
end

structure TK (ρ : List Addr) (H : Hp) (ρ' : List Addr) (H' : Hp) : Prop where
  pre : ∃ t, ρ' = ρ ++ t
  tup : ∀ a xs, H a = some (.tup xs) → H' a = some (.tup xs)
  frz : ∀ a o u, H a = some (.frz o u) → H' a = some (.frz o u)
  xd : ∀ a fs, H a = some (.xd fs) → H' a = some (.xd fs)
theorem TK.refl (ρ : List Addr) (H : Hp) : TK ρ H ρ H := ⟨⟨[], by simp⟩, fun _ _ h => h, fun _ _ _ h => h, fun _ _ h => h⟩
theorem TK.trans {ρ ρ1 ρ2 : List Addr} {H H1 H2 : Hp} (a : TK ρ H ρ1 H1) (b : TK ρ1 H1 ρ2 H2) : TK ρ H ρ2 H2 := by
  obtain ⟨t, rfl⟩ := a.pre
  obtain ⟨u, rfl⟩ := b.pre
  exact ⟨⟨t ++ u, by simp⟩, fun x xs h => b.tup x xs (a.tup x xs h), fun x o u h => b.frz x o u (a.frz x o u h), fun x fs h => b.xd x fs (a.xd x fs h)⟩
theorem TK.same {ρ : List Addr} {H H' : Hp} (h : ∀ a o, H a = some o → H' a = some o) : TK ρ H ρ H' := ⟨⟨[], by simp⟩, fun a _ e => h a _ e, fun a _ _ e => h a _ e, fun a _ e => h a _ e⟩
theorem TK.new {ρ : List Addr} {H : Hp} {a : Addr} {y : HO} (n : H a = none) : TK ρ H (ρ ++ [a]) (upd H a y) := by
  have k : ∀ b o, H b = some o → upd H a y b = some o := fun b o e => by rw [upd_ne (fun z => by rw [z, n] at e; cases e)]; exact e
  exact ⟨⟨[a], rfl⟩, fun b xs e => k b _ e, fun b o u e => k b _ e, fun b fs e => k b _ e⟩
theorem KT.mono {ρ ρ' : List Addr} {H H' : Hp} {a : Addr} {xs : List V} (h : KT H a xs) (k : TK ρ H ρ' H') : KT H' a xs := let ⟨o, e, n⟩ := h; ⟨o, k.frz _ _ _ e, n⟩
theorem KT.sq {K : PySem.W.Frag} {H : Hp} {a : Addr} {xs : List V} (h : KT H a xs) : SqT K H a xs := let ⟨o, e, _⟩ := h; .inl (.inr ⟨o, e⟩)
theorem KT.new {H : Hp} {a : Addr} {xs : List V} {o : Obj} (n : o.dict = none) : KT (upd H a (.frz o (.tup xs))) a xs := ⟨o, upd_same, n⟩
theorem TK.at_ {ρ ρ' : List Addr} {H H' : Hp} {n : Nat} {a : Addr} (k : TK ρ H ρ' H') (h : ρ[n]? = some a) : ρ'[n]? = some a := by
  obtain ⟨t, rfl⟩ := k.pre
  rw [List.getElem?_append_left (List.getElem?_eq_some_iff.mp h).1]
  exact h

section
variable {G : GT} {ρ ρ' : List Addr} {H H' : Hp}
mutual
theorem Rep.mono (k : TK ρ H ρ' H') : ∀ {d : D} {v : V}, Rep G ρ H d v → Rep G ρ' H' d v
  | _, _, .non => .non
  | _, _, .bl b => .bl b
  | _, _, .int i => .int i
  | _, _, .str x => .str x
  | _, _, .tup h r => .tup (h.mono k) (Reps.mono k r)
  | _, _, .loc h => .loc (k.at_ h)
  | _, _, .ty n => .ty n
  | _, _, .cls h => .cls h
  | _, _, .fn h => .fn h
  | _, _, .scr h => .scr (h.elim (fun ⟨o, e⟩ => .inl ⟨o, k.frz _ _ _ e⟩) .inr)
  | _, _, .exn hC h z f => .exn hC (k.frz _ _ _ h) z f
  | _, _, .exo hC h z f hd r => .exo hC (k.frz _ _ _ h) z f (k.xd _ _ hd) (Rep.mono k r)
theorem Reps.mono (k : TK ρ H ρ' H') : ∀ {ds : List D} {vs : List V}, Reps G ρ H ds vs → Reps G ρ' H' ds vs
  | _, _, .nil => .nil
  | _, _, .cons h t => .cons (Rep.mono k h) (Reps.mono k t)
end
theorem Reps.len {ds : List D} {vs : List V} (r : Reps G ρ H ds vs) : ds.length = vs.length := by
  induction ds generalizing vs with
  | nil => cases r; rfl
  | cons d ds ih => cases r with | cons h t => simp [ih t]
theorem Reps.get {ds : List D} {vs : List V} (r : Reps G ρ H ds vs) : ∀ {i : Nat} {d : D}, ds[i]? = some d → ∃ v, vs[i]? = some v ∧ Rep G ρ H d v := by
  induction ds generalizing vs with
  | nil => intro i d h; simp at h
  | cons e ds ih =>
    cases r with
    | cons h t =>
      intro i d hd
      cases i with
      | zero => simp at hd; subst hd; exact ⟨_, rfl, h⟩
      | succ i => simpa using ih t (i := i) (d := d) (by simpa using hd)
theorem Reps.append {ds es : List D} {vs ws : List V} (r : Reps G ρ H ds vs) (q : Reps G ρ H es ws) : Reps G ρ H (ds ++ es) (vs ++ ws) := by
  induction ds generalizing vs with
  | nil => cases r; exact q
  | cons d ds ih => cases r with | cons h t => exact .cons h (ih t)
theorem Reps.one {d : D} {v : V} (h : Rep G ρ H d v) : Reps G ρ H [d] [v] := .cons h .nil
theorem Reps.set {ds : List D} {vs : List V} (r : Reps G ρ H ds vs) {d : D} {v : V} (h : Rep G ρ H d v) : ∀ i, Reps G ρ H (ds.set i d) (vs.set i v) := by
  induction ds generalizing vs with
  | nil => intro i; cases r; exact .nil
  | cons e ds ih =>
    cases r with
    | cons q t =>
      intro i
      cases i with
      | zero => exact .cons h t
      | succ i => exact .cons q (ih t i)
theorem Reps.take {ds : List D} {vs : List V} (r : Reps G ρ H ds vs) : ∀ n, Reps G ρ H (ds.take n) (vs.take n) := by
  induction ds generalizing vs with
  | nil => intro n; cases r; simp; exact .nil
  | cons e ds ih =>
    cases r with
    | cons q t =>
      intro n
      cases n with
      | zero => exact .nil
      | succ n => exact .cons q (ih t n)
theorem Reps.drop {ds : List D} {vs : List V} (r : Reps G ρ H ds vs) : ∀ n, Reps G ρ H (ds.drop n) (vs.drop n) := by
  induction ds generalizing vs with
  | nil => intro n; cases r; simp; exact .nil
  | cons e ds ih =>
    cases r with
    | cons q t =>
      intro n
      cases n with
      | zero => exact .cons q t
      | succ n => exact ih t n
theorem Reps.reverse {ds : List D} {vs : List V} (r : Reps G ρ H ds vs) : Reps G ρ H ds.reverse vs.reverse := by
  induction ds generalizing vs with
  | nil => cases r; exact .nil
  | cons e ds ih =>
    cases r with
    | cons q t =>
      rw [List.reverse_cons, List.reverse_cons]
      exact (ih t).append (.one q)
end

def OR (G : GT) (ρ : List Addr) (H : Hp) : O → Addr → Prop
  | .lst ds, a => ∃ vs, H a = some (.lst vs) ∧ Reps G ρ H ds vs
  | .dic true kvs, a => ∃ us : List (List Key × V), H a = some (.dT us) ∧ kvs.map (·.1) = us.map (·.1) ∧ Reps G ρ H (kvs.map (·.2)) (us.map (·.2))
  | .dic false kvs, a => ∃ us : List (Key × V), H a = some (.dK us) ∧ kvs.map (·.1) = us.map (fun q => [q.1]) ∧ Reps G ρ H (kvs.map (·.2)) (us.map (·.2))
  | .ins true kvs, a => ∃ (o : Obj) (us : List (List Key × V)), H a = some (.frz o (.dT us)) ∧ kvs.map (·.1) = us.map (·.1) ∧ Reps G ρ H (kvs.map (·.2)) (us.map (·.2))
  | .ins false kvs, a => ∃ (o : Obj) (us : List (Key × V)), H a = some (.frz o (.dK us)) ∧ kvs.map (·.1) = us.map (fun q => [q.1]) ∧ Reps G ρ H (kvs.map (·.2)) (us.map (·.2))
  | .obj c fs, a => ∃ (C dx : Addr) (us : List (Str × V)), G.cls[c]? = some C ∧ H a = some (.ins C dx us) ∧ fs.map (·.1) = us.map (·.1) ∧ Reps G ρ H (fs.map (·.2)) (us.map (·.2))
structure VS (G : GT) (P : Hp) (ρ : List Addr) (H : Hp) (S : Store) : Prop where
  len : ρ.length = S.length
  nd : ρ.Nodup
  st : ∀ (n : Nat) (a : Addr) (o : O), ρ[n]? = some a → S[n]? = some o → OR G ρ H o a
  pr : ∀ a o, P a = some o → H a = some o ∧ a ∉ ρ
theorem OR.mem {G : GT} {ρ : List Addr} {H : Hp} {o : O} {a : Addr} (h : OR G ρ H o a) : ∃ x, H a = some x ∧ True := by
  cases o with
  | lst ds => obtain ⟨vs, e, _⟩ := h; exact ⟨_, e, trivial⟩
  | dic t kvs => cases t with
    | true => obtain ⟨us, e, _⟩ := h; exact ⟨_, e, trivial⟩
    | false => obtain ⟨us, e, _⟩ := h; exact ⟨_, e, trivial⟩
  | ins t kvs => cases t with
    | true => obtain ⟨o, us, e, _⟩ := h; exact ⟨_, e, trivial⟩
    | false => obtain ⟨o, us, e, _⟩ := h; exact ⟨_, e, trivial⟩
  | obj c fs => obtain ⟨C, dx, us, _, e, _⟩ := h; exact ⟨_, e, trivial⟩
theorem OR.next {G : GT} {ρ ρ' : List Addr} {H H' : Hp} {o : O} {a : Addr} (h : OR G ρ H o a) (k : TK ρ H ρ' H') (e : H' a = H a) : OR G ρ' H' o a := by
  cases o with
  | lst ds => obtain ⟨vs, x, r⟩ := h; exact ⟨vs, by rw [e]; exact x, r.mono k⟩
  | dic t kvs => cases t with
    | true => obtain ⟨us, x, y, r⟩ := h; exact ⟨us, by rw [e]; exact x, y, r.mono k⟩
    | false => obtain ⟨us, x, y, r⟩ := h; exact ⟨us, by rw [e]; exact x, y, r.mono k⟩
  | ins t kvs => cases t with
    | true => obtain ⟨o, us, x, y, r⟩ := h; exact ⟨o, us, by rw [e]; exact x, y, r.mono k⟩
    | false => obtain ⟨o, us, x, y, r⟩ := h; exact ⟨o, us, by rw [e]; exact x, y, r.mono k⟩
  | obj c fs => obtain ⟨C, dx, us, z, x, y, r⟩ := h; exact ⟨C, dx, us, z, by rw [e]; exact x, y, r.mono k⟩
section
variable {G : GT} {P P' : Hp} {ρ ρ' : List Addr} {H H' : Hp} {S S' : Store}
theorem VS.tracked (s : VS G P ρ H S) {a : Addr} (h : a ∈ ρ) : ∃ x, H a = some x ∧ True := by
  obtain ⟨n, hn⟩ := List.getElem?_of_mem h
  have hl : n < S.length := by rw [← s.len]; exact (List.getElem?_eq_some_iff.mp hn).1
  exact (s.st n a S[n] hn (List.getElem?_eq_getElem hl)).mem
theorem VS.free (s : VS G P ρ H S) {a : Addr} (h : H a = none) : a ∉ ρ ∧ P a = none := by
  refine ⟨fun m => ?_, ?_⟩
  · obtain ⟨vs, e, _⟩ := s.tracked m
    rw [h] at e; cases e
  · cases q : P a with
    | none => rfl
    | some o => have z := (s.pr a o q).1; rw [h] at z; cases z
theorem VS.less (s : VS G P' ρ H S) (h : ∀ a o, P a = some o → P' a = some o) : VS G P ρ H S := ⟨s.len, s.nd, s.st, fun a o e => s.pr a o (h a o e)⟩
theorem VS.grow (s : VS G P ρ H S) (h : ∀ a o, H a = some o → H' a = some o) : VS G P ρ H' S := by
  refine ⟨s.len, s.nd, fun n a o e1 e2 => ?_, fun a o e => ⟨h a o (s.pr a o e).1, (s.pr a o e).2⟩⟩
  have q := s.st n a o e1 e2
  obtain ⟨x, ex, _⟩ := q.mem
  exact q.next (TK.same h) (by rw [ex]; exact h _ _ ex)
theorem tk_updl {a : Addr} {vs ws : List V} (h : H a = some (.lst vs)) : TK ρ H ρ (upd H a (.lst ws)) := by
  refine ⟨⟨[], by simp⟩, fun b xs e => ?_, fun b o u e => ?_, fun b fs e => ?_⟩
  · rw [upd_ne (ne_of e h (by intro z; cases z))]; exact e
  · rw [upd_ne (ne_of e h (by intro z; cases z))]; exact e
  · rw [upd_ne (ne_of e h (by intro z; cases z))]; exact e
theorem VS.updO {a : Addr} {vs ws : List V} (s : VS G P ρ H S) (h : H a = some (.lst vs)) (hr : a ∉ ρ) (hp : P a = none) : VS G P ρ (upd H a (.lst ws)) S := by
  refine ⟨s.len, s.nd, fun n b o e1 e2 => ?_, fun b o e => ?_⟩
  · have q := s.st n b o e1 e2
    have hb : b ≠ a := fun z => hr (z ▸ List.mem_of_getElem? e1)
    exact q.next (tk_updl h) (upd_ne hb)
  · have hb : b ≠ a := fun z => by rw [z, hp] at e; cases e
    rw [upd_ne hb]
    exact s.pr b o e
theorem VS.updS {a : Addr} {n : Nat} {vs ws : List V} {ds : List D} (s : VS G P ρ H S) (hn : ρ[n]? = some a) (h : H a = some (.lst vs)) (r : Reps G ρ (upd H a (.lst ws)) ds ws) : VS G P ρ (upd H a (.lst ws)) (S.set n (.lst ds)) := by
  refine ⟨by rw [List.length_set]; exact s.len, s.nd, fun m b o e1 e2 => ?_, fun b o e => ?_⟩
  · by_cases hm : m = n
    · subst hm
      rw [hn] at e1
      have eb : a = b := Option.some.inj e1
      subst eb
      have hl : m < S.length := by rw [← s.len]; exact (List.getElem?_eq_some_iff.mp hn).1
      rw [List.getElem?_set_self hl] at e2
      cases e2
      exact ⟨ws, upd_same, r⟩
    · rw [List.getElem?_set_ne (Ne.symm hm)] at e2
      have q := s.st m b o e1 e2
      have hb : b ≠ a := fun z => hm (by
        subst z
        have h1 := (List.getElem?_eq_some_iff.mp e1)
        have h2 := (List.getElem?_eq_some_iff.mp hn)
        exact (List.getElem_inj s.nd).mp (h1.2.trans h2.2.symm))
      exact q.next (tk_updl h) (upd_ne hb)
  · obtain ⟨q1, q2⟩ := s.pr b o e
    have hb : b ≠ a := fun z => q2 (z ▸ List.mem_of_getElem? hn)
    rw [upd_ne hb]
    exact ⟨q1, q2⟩
theorem VS.share {a : Addr} {vs : List V} {ds : List D} (s : VS G P ρ H S) (h : H a = some (.lst vs)) (r : Reps G ρ H ds vs) (hr : a ∉ ρ) (hp : P a = none) : VS G P (ρ ++ [a]) H (S ++ [.lst ds]) := by
  have tk : TK ρ H (ρ ++ [a]) H := ⟨⟨[a], rfl⟩, fun _ _ e => e, fun _ _ _ e => e, fun _ _ e => e⟩
  refine ⟨by simp [s.len], ?_, fun n b o e1 e2 => ?_, fun b o e => ⟨(s.pr b o e).1, ?_⟩⟩
  · rw [List.nodup_append]
    refine ⟨s.nd, by simp, fun x hx y hy => ?_⟩
    have : y = a := by simpa using hy
    subst this
    exact fun z => hr (z ▸ hx)
  · by_cases hn : n < ρ.length
    · rw [List.getElem?_append_left hn] at e1
      rw [List.getElem?_append_left (by rw [← s.len]; exact hn)] at e2
      have q := s.st n b o e1 e2
      exact q.next tk rfl
    · have hn' : n = ρ.length := by
        have := (List.getElem?_eq_some_iff.mp e1).1
        simp at this
        omega
      subst hn'
      rw [List.getElem?_append_right (Nat.le_refl _)] at e1
      rw [s.len, List.getElem?_append_right (Nat.le_refl _)] at e2
      simp at e1 e2
      subst e1 e2
      exact ⟨vs, h, r.mono tk⟩
  · intro m
    rcases List.mem_append.mp m with m | m
    · exact (s.pr b o e).2 m
    · have : b = a := by simpa using m
      subst this
      rw [hp] at e; cases e
end

def RR (G : GT) (P : Hp) (ρ : List Addr) (H : Hp) : RV → V → Prop
  | .d x, v => Rep G ρ H x v
  | .l true ds, v => ∃ a vs, v = .ref a ∧ H a = some (.lst vs) ∧ Reps G ρ H ds vs ∧ a ∉ ρ ∧ P a = none
  | .l false ds, v => ∃ a vs, v = .ref a ∧ P a = some (.lst vs) ∧ Reps G ρ H ds vs
inductive RRs (G : GT) (P : Hp) (ρ : List Addr) (H : Hp) : List RV → List V → Prop
  | nil : RRs G P ρ H [] []
  | cons {r : RV} {rs : List RV} {v : V} {vs : List V} (h : RR G P ρ H r v) (t : RRs G P ρ H rs vs) : RRs G P ρ H (r :: rs) (v :: vs)
def RX (G : GT) (ρ : List Addr) (H : Hp) (c : Nat) (p : List D) (cls : Value) (d : Option Addr) : Prop :=
  ∃ C, c ≤ 6 ∧ G.cls[c]? = some C ∧ cls = .ref C ∧ ((p = [] ∧ d = none) ∨ ∃ x dx v, p = [x] ∧ d = some dx ∧ H dx = some (.xd [("at", v)]) ∧ Rep G ρ H x v)
def Aft (G : GT) (E : XK) (P : Hp) (ρ : List Addr) (H : Hp) (r : Res RV) (Q : VK) : Prop :=
  match r with
  | .ok r S' => ∀ v ρ' H', VS G P ρ' H' S' → TK ρ H ρ' H' → RR G P ρ' H' r v → Q v H'
  | .ex c p S' => ∀ cls d ρ' H', VS G P ρ' H' S' → TK ρ H ρ' H' → RX G ρ' H' c p cls d → E cls d H'
  | .bad => False
def AftB (G : GT) (E : XK) (P : Hp) (ρ : List Addr) (H : Hp) (r : Res Bool) (Q : Bool → Hp → Prop) : Prop :=
  match r with
  | .ok b S' => ∀ ρ' H', VS G P ρ' H' S' → TK ρ H ρ' H' → Q b H'
  | .ex c p S' => ∀ cls d ρ' H', VS G P ρ' H' S' → TK ρ H ρ' H' → RX G ρ' H' c p cls d → E cls d H'
  | .bad => False
structure ES (G : GT) (P : Hp) (ρ : List Addr) (H : Hp) (σ : St) (es : Env) : Prop where
  len : σ.length = es.length
  val : ∀ (i : Nat) d, es[i]? = some (.v d) → ∃ x, σ[i]? = some (some x) ∧ Rep G ρ H d x
  lst : ∀ (i : Nat) ds, (es[i]? = some (.own ds) ∨ es[i]? = some (.bor ds)) → ∃ a vs, σ[i]? = some (some (.ref a)) ∧ P a = some (.lst vs) ∧ Reps G ρ H ds vs
abbrev ME := Env → Store → Res RV
abbrev MB := Env → Store → Res Bool
def rdE (G : GT) (W : WX) (m : ME) : TE := fun σ H Q => ∃ P ρ es S, VS G P ρ H S ∧ ES G P ρ H σ es ∧ Aft G (fun cls d H' => W cls d σ H') P ρ H (m es S) Q
def rdB (G : GT) (W : WX) (m : MB) : TT := fun σ H Q => ∃ P ρ es S, VS G P ρ H S ∧ ES G P ρ H σ es ∧ AftB G (fun cls d H' => W cls d σ H') P ρ H (m es S) Q
structure SE (G : GT) (W : WX) (X : Cx) (e : Expr) (m : ME) : Prop where
  k : X.K = G.K
  pe : PE X e (rdE G W m)
structure SB (G : GT) (W : WX) (X : Cx) (e : Expr) (m : MB) : Prop where
  k : X.K = G.K
  pt : PT X e (rdB G W m)
structure SBW (G : GT) (W : WX) (X : Cx) (e : Expr) (m : MB) : Prop where
  k : X.K = G.K
  pw : PW X e (rdB G W m)

section
variable {X : Cx} {e : Expr} {t t' : TE} {b b' : TT}
theorem PE.of (h : PE X e t) (k : ∀ σ H Q, t' σ H Q → t σ H Q) : PE X e t' := ⟨fun pins s σ H Q I q => h.run pins s σ H Q I (k σ H Q q)⟩
theorem PT.of (h : PT X e b) (k : ∀ σ H Q, b' σ H Q → b σ H Q) : PT X e b' := ⟨fun pins s σ H Q I q => h.run pins s σ H Q I (k σ H Q q)⟩
theorem PW.of (h : PW X e b) (k : ∀ σ H Q, b' σ H Q → b σ H Q) : PW X e b' := ⟨fun wh pins s σ H Q I q => h.run wh pins s σ H Q I (k σ H Q q)⟩
end

section
variable {G : GT} {P P' : Hp} {ρ ρ' : List Addr} {H H' : Hp} {S S' : Store} {σ : St} {es : Env} {E : XK}
theorem ES.next (q : ES G P ρ H σ es) (k : TK ρ H ρ' H') : ES G P ρ' H' σ es :=
  ⟨q.len, fun i d e => let ⟨x, h1, h2⟩ := q.val i d e; ⟨x, h1, h2.mono k⟩, fun i ds e => let ⟨a, vs, h1, h2, h3⟩ := q.lst i ds e; ⟨a, vs, h1, h2, h3.mono k⟩⟩
theorem ES.more (q : ES G P ρ H σ es) (s : ∀ a o, P a = some o → P' a = some o) : ES G P' ρ H σ es :=
  ⟨q.len, q.val, fun i ds e => let ⟨a, vs, h1, h2, h3⟩ := q.lst i ds e; ⟨a, vs, h1, s _ _ h2, h3⟩⟩
theorem Aft.next {r : Res RV} {Q : VK} (k : TK ρ H ρ' H') (h : Aft G E P ρ H r Q) : Aft G E P ρ' H' r Q := by
  cases r with
  | ok r S' => exact fun v ρ2 H2 s2 k2 rr => h v ρ2 H2 s2 (k.trans k2) rr
  | ex c p S' => exact fun cls d ρ2 H2 s2 k2 rx => h cls d ρ2 H2 s2 (k.trans k2) rx
  | bad => exact h
theorem AftB.next {r : Res Bool} {Q : Bool → Hp → Prop} (k : TK ρ H ρ' H') (h : AftB G E P ρ H r Q) : AftB G E P ρ' H' r Q := by
  cases r with
  | ok r S' => exact fun ρ2 H2 s2 k2 => h ρ2 H2 s2 (k.trans k2)
  | ex c p S' => exact fun cls d ρ2 H2 s2 k2 rx => h cls d ρ2 H2 s2 (k.trans k2) rx
  | bad => exact h
theorem RR.mono {r : RV} {v : V} (k : TK ρ H ρ' H') (h : RR G P ρ H r v) (hf : ∀ ds, r ≠ .l true ds) : RR G P ρ' H' r v := by
  cases r with
  | d x => exact Rep.mono k h
  | l f ds =>
    cases f with
    | true => exact absurd rfl (hf ds)
    | false => obtain ⟨a, vs, e, h1, h2⟩ := h; exact ⟨a, vs, e, h1, h2.mono k⟩
end
end DM

namespace DM
open PySem PySem.Spec L2

inductive OV where
  | d (x : D) | l (xs : List D)
def OV.rv : OV → RV
  | .d x => .d x
  | .l xs => .l true xs
def RV.weak : RV → RV
  | .d x => .d x
  | .l _ xs => .l false xs
def OP (G : GT) (ρ : List Addr) (H : Hp) : OV → V → Hp → Prop
  | .d x, v, H' => (∀ a o, H a = some o → H' a = some o) ∧ Rep G ρ H' x v
  | .l ds, v, H' => (∀ a o, H a = some o → H' a = some o) ∧ ∃ a vs, v = .ref a ∧ H a = none ∧ H' a = some (.lst vs) ∧ Reps G ρ H' ds vs
def SO2 (G : GT) (r : R2) (f : Store → RV → RV → Option OV) : Prop := ∀ P ρ H S r1 r2 x y (Q : VK) ov, VS G P ρ H S → RR G P ρ H r1 x → RR G P ρ H r2 y → f S r1 r2 = some ov → (∀ v H', OP G ρ H ov v H' → Q v H') → r x y H Q
def SO1 (G : GT) (r : V → Hp → VK → Prop) (f : Store → RV → Option OV) : Prop := ∀ P ρ H S r1 x (Q : VK) ov, VS G P ρ H S → RR G P ρ H r1 x → f S r1 = some ov → (∀ v H', OP G ρ H ov v H' → Q v H') → r x H Q
def SON (G : GT) (r : List V → Hp → VK → Prop) (f : Store → List RV → Option OV) : Prop := ∀ P ρ H S rs vs (Q : VK) ov, VS G P ρ H S → RRs G P ρ H rs vs → f S rs = some ov → (∀ v H', OP G ρ H ov v H' → Q v H') → r vs H Q

section
variable {G : GT} {P P' : Hp} {ρ ρ' : List Addr} {H H' : Hp} {S S' : Store} {σ : St} {es : Env} {E : XK} {Q : VK}
theorem protect {r : RV} {v : V} (s : VS G P ρ H S) (h : RR G P ρ H r v) : ∃ P', (∀ a o, P a = some o → P' a = some o) ∧ VS G P' ρ H S ∧ RR G P' ρ H r.weak v := by
  cases r with
  | d x => exact ⟨P, fun _ _ e => e, s, h⟩
  | l f ds =>
    cases f with
    | false => exact ⟨P, fun _ _ e => e, s, h⟩
    | true =>
      obtain ⟨a, vs, rfl, h1, h2, h3, h4⟩ := h
      refine ⟨upd P a (.lst vs), fun b o e => ?_, ⟨s.len, s.nd, s.st, fun b o e => ?_⟩, a, vs, rfl, upd_same, h2⟩
      · rw [upd_ne (fun z => by rw [z, h4] at e; cases e)]; exact e
      · by_cases hb : b = a
        · subst hb; rw [upd_same] at e; cases e; exact ⟨h1, h3⟩
        · rw [upd_ne hb] at e; exact s.pr b o e
theorem RR.weak_mono {r : RV} {v : V} (k : TK ρ H ρ' H') (h : RR G P ρ H r.weak v) : RR G P ρ' H' r.weak v := by
  refine RR.mono k h fun ds z => ?_
  cases r <;> cases z
theorem RR.more {r : RV} {v : V} (h : RR G P ρ H r.weak v) (s : ∀ a o, P a = some o → P' a = some o) : RR G P' ρ H r.weak v := by
  cases r with
  | d x => exact h
  | l f ds => obtain ⟨a, vs, e, h1, h2⟩ := h; exact ⟨a, vs, e, s _ _ h1, h2⟩
theorem op_end {ov : OV} (s : VS G P' ρ H S) (hp : ∀ a o, P a = some o → P' a = some o) (h : Aft G E P ρ H (.ok ov.rv S) Q) : ∀ v H', OP G ρ H ov v H' → Q v H' := by
  intro v H' op
  cases ov with
  | d x =>
    obtain ⟨g, r⟩ := op
    exact h v ρ H' ((s.less hp).grow g) (TK.same g) r
  | l ds =>
    obtain ⟨g, a, vs, rfl, n, e, r⟩ := op
    have f := s.free n
    refine h (.ref a) ρ H' ((s.less hp).grow g) (TK.same g) ⟨a, vs, rfl, e, r, f.1, ?_⟩
    cases q : P a with
    | none => rfl
    | some o => rw [hp a o q] at f; exact absurd f.2 (by simp)
end

def eC (x : D) : ME := fun _ S => .ok (.d x) S
def eVar (i : Nat) : ME := fun es S => match es[i]? with
  | some (.v x) => .ok (.d x) S
  | some (.own ds) => .ok (.l false ds) S
  | some (.bor ds) => .ok (.l false ds) S
  | _ => .bad
def Res.bind {T U : Type} (r : Res T) (f : T → Store → Res U) : Res U := match r with
  | .ok a S => f a S
  | .ex c p S => .ex c p S
  | .bad => .bad
def ofO (o : Option OV) (S : Store) : Res RV := match o with
  | some ov => .ok ov.rv S
  | none => .bad
def eOp2 (f : Store → RV → RV → Option OV) (a b : ME) : ME := fun es S => (a es S).bind fun x S1 => (b es S1).bind fun y S2 => ofO (f S2 x.weak y.weak) S2
def eOp1 (f : Store → RV → Option OV) (a : ME) : ME := fun es S => (a es S).bind fun x S1 => ofO (f S1 x.weak) S1
def eArgs : List ME → Env → Store → Res (List RV)
  | [], _, S => .ok [] S
  | m :: ms, es, S => (m es S).bind fun r S1 => (eArgs ms es S1).bind fun rs S2 => .ok (r.weak :: rs) S2
def eOpN (f : Store → List RV → Option OV) (ms : List ME) : ME := fun es S => (eArgs ms es S).bind fun rs S1 => ofO (f S1 rs) S1
def item (r : RV) (S : Store) : Res D := match r with
  | .d x => .ok x S
  | .l true ds => .ok (.loc S.length) (S ++ [.lst ds])
  | .l false _ => .bad
def eItems : List ME → Env → Store → Res (List D)
  | [], _, S => .ok [] S
  | m :: ms, es, S => ((m es S).bind item).bind fun d S1 => (eItems ms es S1).bind fun ds S2 => .ok (d :: ds) S2
open Classical in
noncomputable def eTup (ms : List ME) : ME := fun es S => (eItems ms es S).bind fun ds S1 => if ds.length ≤ sizeLine then .ok (.d (.tup ds)) S1 else .bad
open Classical in
noncomputable def eLst (ms : List ME) : ME := fun es S => (eItems ms es S).bind fun ds S1 => if ds.length ≤ sizeLine then .ok (.l true ds) S1 else .bad
def bOf (m : ME) : MB := fun es S => (m es S).bind fun r S1 => match r with
  | .d (.bl b) => .ok b S1
  | _ => .bad
def bAnd (a b : MB) : MB := fun es S => (a es S).bind fun x S1 => if x = true then b es S1 else .ok false S1
def bOr (a b : MB) : MB := fun es S => (a es S).bind fun x S1 => if x = true then .ok true S1 else b es S1
def bNot (a : MB) : MB := fun es S => (a es S).bind fun x S1 => .ok (!x) S1
def eAnd (a b : ME) : ME := fun es S => (a es S).bind fun r S1 => match r with
  | .d (.bl true) => b es S1
  | .d (.bl false) => .ok (.d (.bl false)) S1
  | _ => .bad
def eOr (a b : ME) : ME := fun es S => (a es S).bind fun r S1 => match r with
  | .d (.bl false) => b es S1
  | .d (.bl true) => .ok (.d (.bl true)) S1
  | _ => .bad
def eNot (a : ME) : ME := fun es S => (a es S).bind fun r S1 => match r with
  | .d (.bl b) => .ok (.d (.bl (!b))) S1
  | _ => .bad
def eIf (t : MB) (a b : ME) : ME := fun es S => (t es S).bind fun x S1 => if x = true then a es S1 else b es S1

section
variable {G : GT} {W : WX} {X : Cx} {a b c : Expr} {ma mb mc : ME} {pos : Pos}
theorem se_var {i : Nat} {x : Str} {pos : Pos} (k : X.K = G.K) (hN : X.N[i]? = some x) (hv : Vis X.env.scope x) (hd : (x == ("__debug__" : Str)) = false := by decide) (hcd : (x == ("__classdict__" : Str)) = false := by decide) : SE G W X (.Name x pos) (eVar i) := by
  refine ⟨k, PE.of (pe_var hN hv hd hcd) fun σ H Q h => ?_⟩
  obtain ⟨P, ρ, es, S, s, q, h⟩ := h
  unfold eVar at h
  split at h
  · rename_i x e
    obtain ⟨v, h1, h2⟩ := q.val i x e
    exact ⟨v, h1, h v ρ H s (TK.refl _ _) h2⟩
  · rename_i ds e
    obtain ⟨a, vs, h1, h2, h3⟩ := q.lst i ds (.inl e)
    exact ⟨.ref a, h1, h (.ref a) ρ H s (TK.refl _ _) ⟨a, vs, rfl, h2, h3⟩⟩
  · rename_i ds e
    obtain ⟨a, vs, h1, h2, h3⟩ := q.lst i ds (.inr e)
    exact ⟨.ref a, h1, h (.ref a) ρ H s (TK.refl _ _) ⟨a, vs, rfl, h2, h3⟩⟩
  · exact h.elim
theorem se_of {x : D} {v : V} (k : X.K = G.K) (h : PE X a (tC v)) (r : ∀ ρ H, Rep G ρ H x v) : SE G W X a (eC x) := by
  refine ⟨k, PE.of h fun σ H Q h => ?_⟩
  obtain ⟨P, ρ, es, S, s, q, h⟩ := h
  exact h v ρ H s (TK.refl _ _) (r ρ H)
theorem se_int {i j pos} (k : X.K = G.K) : SE G W X (.Constant (.int i) j pos) (eC (.int i)) := se_of k pe_int fun _ _ => .int i
theorem se_bl {i j pos} (k : X.K = G.K) : SE G W X (.Constant (.bool i) j pos) (eC (.bl i)) := se_of k pe_bl fun _ _ => .bl i
theorem se_non {j pos} (k : X.K = G.K) : SE G W X (.Constant .none j pos) (eC .non) := se_of k pe_non fun _ _ => .non
theorem se_str {i j pos} (k : X.K = G.K) : SE G W X (.Constant (.str i) j pos) (eC (.str i)) := se_of k pe_str fun _ _ => .str i
theorem se_ty {x : Str} {n : String} {pos} (k : X.K = G.K) (hg : Gl X x) (hm : X.mg x = none) (hv : bootBuiltins x = some (.type n)) (hn : x ≠ "__name__" := by decide) (hd : (x == ("__debug__" : Str)) = false := by decide) : SE G W X (.Name x pos) (eC (.ty n)) :=
  se_of k (pe_bltn (v := .ty n) hg hm hv rfl hn hd) fun _ _ => .ty n
theorem se_cls {x : Str} {n : Nat} {C : Addr} {pos} (k : X.K = G.K) (hg : Gl X x) (hm : X.mg x = some (.ref C)) (hc : G.cls[n]? = some C) (hd : (x == ("__debug__" : Str)) = false := by decide) : SE G W X (.Name x pos) (eC (.cls n)) :=
  se_of k (pe_glob (v := .ref C) hg hm rfl hd) fun _ _ => .cls hc
theorem se_fn {x : Str} {n : Nat} {C : Addr} {pos} (k : X.K = G.K) (hg : Gl X x) (hm : X.mg x = some (.ref C)) (hc : G.fns[n]? = some C) (hd : (x == ("__debug__" : Str)) = false := by decide) : SE G W X (.Name x pos) (eC (.fn n)) :=
  se_of k (pe_glob (v := .ref C) hg hm rfl hd) fun _ _ => .fn hc
theorem se_gint {x : Str} {i : Int} {t : Tok} {pos} (k : X.K = G.K) (hg : Gl X x) (hm : X.mg x = some (.int i t)) (hd : (x == ("__debug__" : Str)) = false := by decide) : SE G W X (.Name x pos) (eC (.int i)) :=
  se_of k (pe_glob (v := .int i) hg hm ⟨_, rfl⟩ hd) fun _ _ => .int i
theorem rdE_then {σ : St} {H : Hp} {Q : VK} {P : Hp} {ρ : List Addr} {es : Env} {S : Store} {f : RV → Store → Res RV} {R : VK} (s : VS G P ρ H S) (q : ES G P ρ H σ es) (h : Aft G (fun cls d H' => W cls d σ H') P ρ H ((ma es S).bind f) Q)
    (k : ∀ r S1 v ρ1 H1, ma es S = .ok r S1 → VS G P ρ1 H1 S1 → TK ρ H ρ1 H1 → RR G P ρ1 H1 r v → Aft G (fun cls d H' => W cls d σ H') P ρ1 H1 (f r S1) Q → R v H1) : rdE G W ma σ H R := by
  refine ⟨P, ρ, es, S, s, q, ?_⟩
  cases e : ma es S with
  | ok r S1 =>
    rw [e] at h
    exact fun v ρ1 H1 s1 k1 r1 => k r S1 v ρ1 H1 e s1 k1 r1 (Aft.next k1 h)
  | ex c p S1 =>
    rw [e] at h
    exact h
  | bad =>
    rw [e] at h
    exact h
theorem rdE_thenB {σ : St} {H : Hp} {Q : Bool → Hp → Prop} {P : Hp} {ρ : List Addr} {es : Env} {S : Store} {f : RV → Store → Res Bool} {R : VK} (s : VS G P ρ H S) (q : ES G P ρ H σ es) (h : AftB G (fun cls d H' => W cls d σ H') P ρ H ((ma es S).bind f) Q)
    (k : ∀ r S1 v ρ1 H1, ma es S = .ok r S1 → VS G P ρ1 H1 S1 → TK ρ H ρ1 H1 → RR G P ρ1 H1 r v → AftB G (fun cls d H' => W cls d σ H') P ρ1 H1 (f r S1) Q → R v H1) : rdE G W ma σ H R := by
  refine ⟨P, ρ, es, S, s, q, ?_⟩
  cases e : ma es S with
  | ok r S1 =>
    rw [e] at h
    exact fun v ρ1 H1 s1 k1 r1 => k r S1 v ρ1 H1 e s1 k1 r1 (AftB.next k1 h)
  | ex c p S1 =>
    rw [e] at h
    exact h
  | bad =>
    rw [e] at h
    exact h
theorem rdB_then {σ : St} {H : Hp} {Q : VK} {P : Hp} {ρ : List Addr} {es : Env} {S : Store} {m : MB} {f : Bool → Store → Res RV} {R : Bool → Hp → Prop} (s : VS G P ρ H S) (q : ES G P ρ H σ es) (h : Aft G (fun cls d H' => W cls d σ H') P ρ H ((m es S).bind f) Q)
    (k : ∀ r S1 ρ1 H1, m es S = .ok r S1 → VS G P ρ1 H1 S1 → TK ρ H ρ1 H1 → Aft G (fun cls d H' => W cls d σ H') P ρ1 H1 (f r S1) Q → R r H1) : rdB G W m σ H R := by
  refine ⟨P, ρ, es, S, s, q, ?_⟩
  cases e : m es S with
  | ok r S1 =>
    rw [e] at h
    exact fun ρ1 H1 s1 k1 => k r S1 ρ1 H1 e s1 k1 (Aft.next k1 h)
  | ex c p S1 =>
    rw [e] at h
    exact h
  | bad =>
    rw [e] at h
    exact h
theorem rdB_thenB {σ : St} {H : Hp} {Q : Bool → Hp → Prop} {P : Hp} {ρ : List Addr} {es : Env} {S : Store} {m : MB} {f : Bool → Store → Res Bool} {R : Bool → Hp → Prop} (s : VS G P ρ H S) (q : ES G P ρ H σ es) (h : AftB G (fun cls d H' => W cls d σ H') P ρ H ((m es S).bind f) Q)
    (k : ∀ r S1 ρ1 H1, m es S = .ok r S1 → VS G P ρ1 H1 S1 → TK ρ H ρ1 H1 → AftB G (fun cls d H' => W cls d σ H') P ρ1 H1 (f r S1) Q → R r H1) : rdB G W m σ H R := by
  refine ⟨P, ρ, es, S, s, q, ?_⟩
  cases e : m es S with
  | ok r S1 =>
    rw [e] at h
    exact fun ρ1 H1 s1 k1 => k r S1 ρ1 H1 e s1 k1 (AftB.next k1 h)
  | ex c p S1 =>
    rw [e] at h
    exact h
  | bad =>
    rw [e] at h
    exact h
theorem Aft.more {P P' : Hp} {ρ : List Addr} {H : Hp} {E : XK} {r : Res RV} {Q : VK} (hp : ∀ a o, P a = some o → P' a = some o) (hr : ∀ rv S', r = .ok rv S' → ∀ ds, rv ≠ .l false ds) (h : Aft G E P ρ H r Q) : Aft G E P' ρ H r Q := by
  have sub0 : ∀ a, P' a = none → P a = none := fun a e => by
    cases q : P a with
    | none => rfl
    | some o => rw [hp a o q] at e; cases e
  cases r with
  | ok rv S' =>
    intro v ρ' H' s k rr
    refine h v ρ' H' (s.less hp) k ?_
    cases rv with
    | d x => exact rr
    | l f ds =>
      cases f with
      | true => obtain ⟨a, vs, e, h1, h2, h3, h4⟩ := rr; exact ⟨a, vs, e, h1, h2, h3, sub0 a h4⟩
      | false => exact absurd rfl (hr _ _ rfl ds)
  | ex c p S' => exact fun cls d ρ' H' s k rx => h cls d ρ' H' (s.less hp) k rx
  | bad => exact h
theorem bind_rv {r : Res RV} {f : RV → Store → Res RV} (h : ∀ a S rv S', f a S = .ok rv S' → ∀ ds, rv ≠ .l false ds) : ∀ rv S', r.bind f = .ok rv S' → ∀ ds, rv ≠ .l false ds := by
  intro rv S' e
  cases r with
  | ok a S => exact h a S rv S' e
  | ex c p S => cases e
  | bad => cases e
theorem ofO_rv {o : Option OV} {S : Store} : ∀ rv S', ofO o S = .ok rv S' → ∀ ds, rv ≠ .l false ds := by
  intro rv S' e ds z
  cases o with
  | none => cases e
  | some ov =>
    subst z
    cases ov <;> (unfold ofO OV.rv at e; simp at e)

theorem op2_core {r : R2} {f : Store → RV → RV → Option OV} (hs : SO2 G r f) {σ : St} {H : Hp} {Q : VK} (h : rdE G W (eOp2 f ma mb) σ H Q) : rdE G W ma σ H fun x H1 => rdE G W mb σ H1 fun y H2 => r x y H2 Q := by
  obtain ⟨P, ρ, es, S, s, q, h⟩ := h
  refine rdE_then s q h fun r1 S1 v ρ1 H1 e1 s1 k1 rr h => ?_
  obtain ⟨P1, hp, s1', rr1⟩ := protect s1 rr
  refine rdE_then s1' ((q.next k1).more hp) (Aft.more hp (bind_rv fun _ _ => ofO_rv) h) fun r2 S2 w ρ2 H2 e2 s2 k2 rr2 h2 => ?_
  obtain ⟨P2, hp2, s2', rr2'⟩ := protect s2 rr2
  cases e : f S2 r1.weak r2.weak with
  | none => rw [e] at h2; exact h2.elim
  | some ov =>
    rw [e] at h2
    exact hs P2 ρ2 H2 S2 r1.weak r2.weak v w Q ov s2' (RR.more (RR.weak_mono k2 rr1) hp2) rr2' e (op_end s2' hp2 h2)
theorem op1_core {r : V → Hp → VK → Prop} {f : Store → RV → Option OV} (hs : SO1 G r f) {σ : St} {H : Hp} {Q : VK} (h : rdE G W (eOp1 f ma) σ H Q) : rdE G W ma σ H fun x H1 => r x H1 Q := by
  obtain ⟨P, ρ, es, S, s, q, h⟩ := h
  refine rdE_then s q h fun r1 S1 v ρ1 H1 e1 s1 k1 rr h => ?_
  obtain ⟨P1, hp, s1', rr1⟩ := protect s1 rr
  cases e : f S1 r1.weak with
  | none => rw [e] at h; exact h.elim
  | some ov =>
    rw [e] at h
    exact hs P1 ρ1 H1 S1 r1.weak v Q ov s1' rr1 e (op_end s1' hp h)
theorem se_op2 {op : Operator} {r : R2} {f : Store → RV → RV → Option OV} (ho : OpR X (binaryOp op) r) (hs : SO2 G r f) (ha : SE G W X a ma) (hb : SE G W X b mb) : SE G W X (.BinOp a op b pos) (eOp2 f ma mb) :=
  ⟨ha.k, PE.of (pe_op ho ha.pe hb.pe) fun _ _ _ h => op2_core hs h⟩
theorem se_cmp {op : CmpOp} {r : R2} {f : Store → RV → RV → Option OV} (ho : OpR X (compareOp op) r) (hs : SO2 G r f) (ha : SE G W X a ma) (hb : SE G W X b mb) (hm : behindInMarks op b = false) : SE G W X (.Compare a [op] [b] pos) (eOp2 f ma mb) :=
  ⟨ha.k, PE.of (pe_cmpR ho ha.pe hb.pe hm) fun _ _ _ h => op2_core hs h⟩
theorem se_un {op : UnaryOp} {r : V → Hp → VK → Prop} {f : Store → RV → Option OV} (ho : UnR X (unaryOp op) r) (hs : SO1 G r f) (ha : SE G W X a ma) : SE G W X (.UnaryOp op a pos) (eOp1 f ma) :=
  ⟨ha.k, PE.of (pe_un ho ha.pe) fun _ _ _ h => op1_core hs h⟩
theorem se_ix {r : R2} {f : Store → RV → RV → Option OV} (ho : IxR X r) (hs : SO2 G r f) (ha : SE G W X a ma) (hb : SE G W X b mb) (hp : PlainIx b) : SE G W X (.Subscript a b pos) (eOp2 f ma mb) :=
  ⟨ha.k, PE.of (pe_ix ho ha.pe hb.pe hp) fun _ _ _ h => op2_core hs h⟩

structure SA (G : GT) (W : WX) (X : Cx) (as : List Expr) (ms : List ME) : Prop where
  k : X.K = G.K
  pa : PA X as (fun σ H Q => ∃ P ρ es S, VS G P ρ H S ∧ ES G P ρ H σ es ∧ (match eArgs ms es S with
    | .ok rs S' => ∀ vs P' ρ' H', (∀ a o, P a = some o → P' a = some o) → VS G P' ρ' H' S' → TK ρ H ρ' H' → RRs G P' ρ' H' rs vs → Q vs H'
    | .ex c p S' => ∀ cls d ρ' H', VS G P ρ' H' S' → TK ρ H ρ' H' → RX G ρ' H' c p cls d → W cls d σ H'
    | .bad => False))
structure SI (G : GT) (W : WX) (X : Cx) (as : List Expr) (ms : List ME) : Prop where
  k : X.K = G.K
  pa : PA X as (fun σ H Q => ∃ P ρ es S, VS G P ρ H S ∧ ES G P ρ H σ es ∧ (match eItems ms es S with
    | .ok ds S' => ∀ vs ρ' H', VS G P ρ' H' S' → TK ρ H ρ' H' → Reps G ρ' H' ds vs → Q vs H'
    | .ex c p S' => ∀ cls d ρ' H', VS G P ρ' H' S' → TK ρ H ρ' H' → RX G ρ' H' c p cls d → W cls d σ H'
    | .bad => False))
theorem PA.of {as : List Expr} {t t' : TA} (h : PA X as t) (k : ∀ σ H Q, t' σ H Q → t σ H Q) : PA X as t' := ⟨fun pos pins s σ H Q I q => h.run pos pins s σ H Q I (k σ H Q q)⟩
theorem sa_nil (k : X.K = G.K) : SA G W X [] [] := by
  refine ⟨k, PA.of pa_nil fun σ H Q h => ?_⟩
  obtain ⟨P, ρ, es, S, s, q, h⟩ := h
  exact h [] P ρ H (fun _ _ e => e) s (TK.refl _ _) .nil
theorem si_nil (k : X.K = G.K) : SI G W X [] [] := by
  refine ⟨k, PA.of pa_nil fun σ H Q h => ?_⟩
  obtain ⟨P, ρ, es, S, s, q, h⟩ := h
  exact h [] ρ H s (TK.refl _ _) .nil
theorem sa_cons {as : List Expr} {ms : List ME} (ha : SE G W X a ma) (hr : SA G W X as ms) (hs : starEach (a :: as) X.env = (false, eval a X.env) :: starEach as X.env := by rfl) : SA G W X (a :: as) (ma :: ms) := by
  refine ⟨ha.k, PA.of (pa_cons ha.pe hr.pa hs) fun σ H Q h => ?_⟩
  obtain ⟨P, ρ, es, S, s, q, h⟩ := h
  refine ⟨P, ρ, es, S, s, q, ?_⟩
  unfold eArgs at h
  cases e : ma es S with
  | bad => rw [e] at h; exact h
  | ex c p S1 => rw [e] at h; exact h
  | ok r S1 =>
    rw [e] at h
    intro v ρ1 H1 s1 k1 rr
    obtain ⟨P1, hp, s1', rr1⟩ := protect s1 rr
    refine ⟨P1, ρ1, es, S1, s1', (q.next k1).more hp, ?_⟩
    dsimp only [Res.bind] at h
    cases e2 : eArgs ms es S1 with
    | bad => rw [e2] at h; exact h
    | ex c p S2 =>
      rw [e2] at h
      exact fun cls d ρ2 H2 s2 k2 rx => h cls d ρ2 H2 (s2.less hp) (k1.trans k2) rx
    | ok rs S2 =>
      rw [e2] at h
      intro vs P2 ρ2 H2 hp2 s2 k2 rrs
      exact h (v :: vs) P2 ρ2 H2 (fun a o z => hp2 a o (hp a o z)) s2 (k1.trans k2) (.cons (RR.more (RR.weak_mono k2 rr1) hp2) rrs)
theorem item_ok {P : Hp} {ρ : List Addr} {H : Hp} {S S1 : Store} {r : RV} {v : V} {d : D} (s : VS G P ρ H S) (h : RR G P ρ H r v) (e : item r S = .ok d S1) : ∃ ρ1, VS G P ρ1 H S1 ∧ TK ρ H ρ1 H ∧ Rep G ρ1 H d v := by
  cases r with
  | d x =>
    cases e
    exact ⟨ρ, s, TK.refl _ _, h⟩
  | l f ds =>
    cases f with
    | false => cases e
    | true =>
      cases e
      obtain ⟨a, vs, rfl, h1, h2, h3, h4⟩ := h
      have tk : TK ρ H (ρ ++ [a]) H := ⟨⟨[a], rfl⟩, fun _ _ e => e, fun _ _ _ e => e, fun _ _ e => e⟩
      refine ⟨ρ ++ [a], s.share h1 h2 h3 h4, tk, .loc ?_⟩
      rw [← s.len, List.getElem?_append_right (Nat.le_refl _), Nat.sub_self]
      rfl
theorem item_ex {r : RV} {S S' : Store} {c : Nat} {p : List D} : item r S ≠ .ex c p S' := by
  intro e
  cases r with
  | d x => cases e
  | l f ds => cases f <;> cases e
theorem si_cons {as : List Expr} {ms : List ME} (ha : SE G W X a ma) (hr : SI G W X as ms) (hs : starEach (a :: as) X.env = (false, eval a X.env) :: starEach as X.env := by rfl) : SI G W X (a :: as) (ma :: ms) := by
  refine ⟨ha.k, PA.of (pa_cons ha.pe hr.pa hs) fun σ H Q h => ?_⟩
  obtain ⟨P, ρ, es, S, s, q, h⟩ := h
  refine ⟨P, ρ, es, S, s, q, ?_⟩
  unfold eItems at h
  cases e : ma es S with
  | bad => rw [e] at h; exact h
  | ex c p S1 => rw [e] at h; exact h
  | ok r S1 =>
    rw [e] at h
    intro v ρ1 H1 s1 k1 rr
    dsimp only [Res.bind] at h
    cases e1 : item r S1 with
    | bad => rw [e1] at h; exact h.elim
    | ex c p S2 => exact (item_ex e1).elim
    | ok d S2 =>
      rw [e1] at h
      obtain ⟨ρ2, s2, k2, rd⟩ := item_ok s1 rr e1
      refine ⟨P, ρ2, es, S2, s2, q.next (k1.trans k2), ?_⟩
      dsimp only at h
      cases e2 : eItems ms es S2 with
      | bad => rw [e2] at h; exact h
      | ex c p S3 =>
        rw [e2] at h
        exact fun cls d ρ3 H3 s3 k3 rx => h cls d ρ3 H3 s3 ((k1.trans k2).trans k3) rx
      | ok ds S3 =>
        rw [e2] at h
        intro vs ρ3 H3 s3 k3 rs
        exact h (v :: vs) ρ3 H3 s3 ((k1.trans k2).trans k3) (.cons (rd.mono k3) rs)
theorem opN_core {r : List V → Hp → VK → Prop} {f : Store → List RV → Option OV} {as : List Expr} {ms : List ME} (hs : SON G r f) (ha : SA G W X as ms) {e : Expr} (hc : ∀ t, PA X as t → PE X e (tCB r t)) : SE G W X e (eOpN f ms) := by
  refine ⟨ha.k, PE.of (hc _ ha.pa) fun σ H Q h => ?_⟩
  obtain ⟨P, ρ, es, S, s, q, h⟩ := h
  refine ⟨P, ρ, es, S, s, q, ?_⟩
  unfold eOpN at h
  cases e : eArgs ms es S with
  | bad => rw [e] at h; exact h
  | ex c p S1 => rw [e] at h; exact h
  | ok rs S1 =>
    rw [e] at h
    intro vs P' ρ' H' hp s' k' rrs
    dsimp only [Res.bind] at h
    cases e1 : f S1 rs with
    | none => rw [e1] at h; exact h.elim
    | some ov =>
      rw [e1] at h
      exact hs P' ρ' H' S1 rs vs Q ov s' rrs e1 (op_end s' hp (Aft.next k' h))
theorem se_callB {x : Str} {p pos : Pos} {id : String} {r : List V → Hp → VK → Prop} {f : Store → List RV → Option OV} {as : List Expr} {ms : List ME} (hc : CallR X (.builtin id) r) (hs : SON G r f) (hg : Gl X x) (hm : X.mg x = none) (hv : bootBuiltins x = some (.builtin id)) (ha : SA G W X (a :: as) ms)
    (hn : x ≠ "__name__" := by decide) (hdb : (x == ("__debug__" : Str)) = false := by decide) (he : starEach (a :: as) X.env = (false, eval a X.env) :: starEach as X.env := by rfl) (hpl : (backTo pos (starEach as X.env)).any (·.1) = false := by rfl) : SE G W X (.Call (.Name x p) (a :: as) [] pos) (eOpN f ms) :=
  opN_core hs ha fun _ h => pe_callB hc hg hm hv h hn hdb he hpl
theorem se_callTy {x : Str} {p pos : Pos} {T : String} {r : List V → Hp → VK → Prop} {f : Store → List RV → Option OV} {as : List Expr} {ms : List ME} (hc : CallR X (.type T) r) (hs : SON G r f) (hg : Gl X x) (hm : X.mg x = none) (hv : bootBuiltins x = some (.type T)) (ha : SA G W X (a :: as) ms)
    (hn : x ≠ "__name__" := by decide) (hdb : (x == ("__debug__" : Str)) = false := by decide) (he : starEach (a :: as) X.env = (false, eval a X.env) :: starEach as X.env := by rfl) (hpl : (backTo pos (starEach as X.env)).any (·.1) = false := by rfl) : SE G W X (.Call (.Name x p) (a :: as) [] pos) (eOpN f ms) :=
  opN_core hs ha fun _ h => pe_callTy hc hg hm hv h hn hdb he hpl

def tTupK (t : TA) : TE := fun σ H Q => t σ H fun xs H1 => xs.length ≤ sizeLine ∧ ∀ p o, H1 p = none → Obj.dict o = none → Q (.ref p) (upd H1 p (.frz o (.tup xs)))
theorem laidK {X : Cx} {pins : List (Addr × Obj)} {σ : St} {H : Hp} {s : Shared} {xs : List V} {us : List Value} {tk : Nat} (I : Inv X pins σ H s) (z : xs.length ≤ sizeLine) (r : Vals xs us) :
    Inv X pins σ (upd H s.heap.objs.size (.frz { cls := .type "tuple", data := .seq us.toArray } (.tup xs))) { s with heap := s.heap.push { cls := .type "tuple", data := .seq us.toArray }, toks := tk } :=
  I.laid (t' := tk) (fun _ _ e => Heap.get?_push_of_some _ e) (Nat.le_refl _) ⟨Heap.get?_push_size _ rfl, z, us, r, ⟨_, Heap.get?_push_size _ rfl, rfl, _, rfl⟩⟩
theorem pe_tupK {X : Cx} {es : List Expr} {t : TA} {pos : Pos} {x1} (h : PA X es t) : PE X (.Tuple es x1 pos) (tTupK t) := by
  refine ⟨fun pins s σ H Q I hq => wpAny_Tuple_spliced (thn (h.run pos pins s σ H _ I hq) ?_)⟩
  rintro us s1 ⟨xs, H1, I1, r, z, q⟩
  exact ⟨by rw [← r.length]; exact z, .ref _, _, laidK (tk := s1.toks) I1 z r, rfl, q _ _ (I1.hok.fresh (Nat.le_refl _)) rfl⟩
theorem se_tup {as : List Expr} {ms : List ME} {k1} (ha : SI G W X as ms) : SE G W X (.Tuple as k1 pos) (eTup ms) := by
  refine ⟨ha.k, PE.of (pe_tupK ha.pa) fun σ H Q h => ?_⟩
  obtain ⟨P, ρ, es, S, s, q, h⟩ := h
  refine ⟨P, ρ, es, S, s, q, ?_⟩
  unfold eTup at h
  cases e : eItems ms es S with
  | bad => rw [e] at h; exact h
  | ex c p S1 => rw [e] at h; exact h
  | ok ds S1 =>
    rw [e] at h
    intro vs ρ' H' s' k' rs
    dsimp only [Res.bind] at h
    by_cases hz : ds.length ≤ sizeLine
    · rw [if_pos hz] at h
      refine ⟨by rw [← rs.len]; exact hz, fun p o hp ho => ?_⟩
      have g : ∀ b u, H' b = some u → upd H' p (.frz o (.tup vs)) b = some u := fun b u z => by rw [upd_ne (ne_of_none z hp)]; exact z
      exact h (.ref p) ρ' _ (s'.grow g) (k'.trans (TK.same g)) (.tup (KT.new ho) (rs.mono (TK.same g)))
    · rw [if_neg hz] at h; exact h.elim
theorem se_lst {as : List Expr} {ms : List ME} (ha : SI G W X as ms) : SE G W X (.List as pos) (eLst ms) := by
  refine ⟨ha.k, PE.of (pe_lst ha.pa) fun σ H Q h => ?_⟩
  obtain ⟨P, ρ, es, S, s, q, h⟩ := h
  refine ⟨P, ρ, es, S, s, q, ?_⟩
  unfold eLst at h
  cases e : eItems ms es S with
  | bad => rw [e] at h; exact h
  | ex c p S1 => rw [e] at h; exact h
  | ok ds S1 =>
    rw [e] at h
    intro vs ρ' H' s' k' rs
    dsimp only [Res.bind] at h
    by_cases hz : ds.length ≤ sizeLine
    · rw [if_pos hz] at h
      refine ⟨by rw [← rs.len]; exact hz, fun p hp => ?_⟩
      have g : ∀ a o, H' a = some o → upd H' p (.lst vs) a = some o := fun a o z => by rw [upd_ne (ne_of_none z hp)]; exact z
      exact h (.ref p) ρ' _ (s'.grow g) (k'.trans (TK.same g)) ⟨p, vs, rfl, upd_same, rs.mono (TK.same g), s'.free hp⟩
    · rw [if_neg hz] at h; exact h.elim

theorem rd_bOf {m : ME} {σ : St} {H : Hp} {Q : Bool → Hp → Prop} {R : VK} (h : rdB G W (bOf m) σ H Q) (k : ∀ b H1, Q b H1 → R (.bl b) H1) : rdE G W m σ H R := by
  obtain ⟨P, ρ, es, S, s, q, h⟩ := h
  refine rdE_thenB s q h fun r S1 v ρ1 H1 e1 s1 k1 rr h => ?_
  cases r with
  | l f ds => exact h.elim
  | d x =>
    cases x with
    | bl b =>
      cases rr
      exact k b H1 (h ρ1 H1 s1 (TK.refl _ _))
    | _ => exact h.elim
theorem sb_val (ha : SE G W X a ma) (he : ∀ whole, isTrue a X.env whole = (do let v ← whole; standAt a.pos; holding [v] (truthy v)) := by intro _; rfl) : SB G W X a (bOf ma) :=
  ⟨ha.k, PT.of (pt_val ha.pe he) fun _ _ _ h => rd_bOf h fun b H1 q => ⟨b, rfl, q⟩⟩
theorem sb_not {m : MB} (ha : SB G W X a m) : SB G W X (.UnaryOp .Not a pos) (bNot m) := by
  refine ⟨ha.k, PT.of (pt_not ha.pt) fun σ H Q h => ?_⟩
  obtain ⟨P, ρ, es, S, s, q, h⟩ := h
  exact rdB_thenB s q h fun r S1 ρ1 H1 e1 s1 k1 h => h ρ1 H1 s1 (TK.refl _ _)
theorem sbw_and1 {m : MB} (ha : SB G W X a m) : SBW G W X (.BoolOp .And [a] pos) m := ⟨ha.k, pw_and1 ha.pt⟩
theorem sbw_or1 {m : MB} (ha : SB G W X a m) : SBW G W X (.BoolOp .Or [a] pos) m := ⟨ha.k, pw_or1 ha.pt⟩
theorem sbw_and {m n : MB} {rest : List Expr} (ha : SB G W X a m) (hb : SBW G W X (.BoolOp .And (b :: rest) pos) n) : SBW G W X (.BoolOp .And (a :: b :: rest) pos) (bAnd m n) := by
  refine ⟨ha.k, PW.of (pw_and ha.pt hb.pw) fun σ H Q h => ?_⟩
  obtain ⟨P, ρ, es, S, s, q, h⟩ := h
  refine rdB_thenB s q h fun r S1 ρ1 H1 e1 s1 k1 h => ?_
  cases r with
  | true => exact ⟨P, ρ1, es, S1, s1, q.next k1, h⟩
  | false => exact h ρ1 H1 s1 (TK.refl _ _)
theorem sbw_or {m n : MB} {rest : List Expr} (ha : SB G W X a m) (hb : SBW G W X (.BoolOp .Or (b :: rest) pos) n) : SBW G W X (.BoolOp .Or (a :: b :: rest) pos) (bOr m n) := by
  refine ⟨ha.k, PW.of (pw_or ha.pt hb.pw) fun σ H Q h => ?_⟩
  obtain ⟨P, ρ, es, S, s, q, h⟩ := h
  refine rdB_thenB s q h fun r S1 ρ1 H1 e1 s1 k1 h => ?_
  cases r with
  | false => exact ⟨P, ρ1, es, S1, s1, q.next k1, h⟩
  | true => exact h ρ1 H1 s1 (TK.refl _ _)
theorem sb_w {m : MB} (h : SBW G W X a m) : SB G W X a m := ⟨h.k, h.pw.pt⟩
theorem se_one {op} {m : ME} (ha : SE G W X a m) : SE G W X (.BoolOp op [a] pos) m := ⟨ha.k, pe_one ha.pe⟩
theorem se_and {m n : ME} {rest : List Expr} (ha : SE G W X a m) (hb : SE G W X (.BoolOp .And (b :: rest) pos) n) : SE G W X (.BoolOp .And (a :: b :: rest) pos) (eAnd m n) := by
  refine ⟨ha.k, PE.of (pe_and ha.pe hb.pe) fun σ H Q h => ?_⟩
  obtain ⟨P, ρ, es, S, s, q, h⟩ := h
  refine rdE_then s q h fun r S1 v ρ1 H1 e1 s1 k1 rr h => ?_
  cases r with
  | l f ds => exact h.elim
  | d x =>
    cases x with
    | bl b =>
      cases rr
      cases b with
      | true => exact ⟨true, rfl, P, ρ1, es, S1, s1, q.next k1, h⟩
      | false => exact ⟨false, rfl, h (.bl false) ρ1 H1 s1 (TK.refl _ _) (.bl false)⟩
    | _ => exact h.elim
theorem se_not {m : ME} (ha : SE G W X a m) : SE G W X (.UnaryOp .Not a pos) (eNot m) := by
  refine ⟨ha.k, PE.of (pe_not ha.pe) fun σ H Q h => ?_⟩
  obtain ⟨P, ρ, es, S, s, q, h⟩ := h
  refine rdE_then s q h fun r S1 v ρ1 H1 e1 s1 k1 rr h => ?_
  cases r with
  | l f ds => exact h.elim
  | d x =>
    cases x with
    | bl b =>
      cases rr
      exact ⟨b, rfl, h (.bl (!b)) ρ1 H1 s1 (TK.refl _ _) (.bl _)⟩
    | _ => exact h.elim
theorem se_if {t : MB} (ht : SB G W X c t) (ha : SE G W X a ma) (hb : SE G W X b mb) : SE G W X (.IfExp c a b pos) (eIf t ma mb) := by
  refine ⟨ha.k, PE.of (pe_ifExp ht.pt ha.pe hb.pe) fun σ H Q h => ?_⟩
  obtain ⟨P, ρ, es, S, s, q, h⟩ := h
  refine rdB_then s q h fun r S1 ρ1 H1 e1 s1 k1 h => ?_
  cases r with
  | true => exact ⟨P, ρ1, es, S1, s1, q.next k1, h⟩
  | false => exact ⟨P, ρ1, es, S1, s1, q.next k1, h⟩
end
end DM

namespace DM
open PySem PySem.Spec L2

inductive SR where
  | nx (es : Env) (S : Store) | rt (r : RV) (S : Store) | bk (es : Env) (S : Store) | ct (es : Env) (S : Store) | ex (c : Nat) (p : List D) (es : Env) (S : Store) | bad
abbrev MS := Env → Store → SR
structure SS (G : GT) (P : Hp) (ρ : List Addr) (H : Hp) (σ : St) (es : Env) : Prop where
  len : σ.length = es.length
  val : ∀ (i : Nat) d, es[i]? = some (.v d) → ∃ x, σ[i]? = some (some x) ∧ Rep G ρ H d x
  bor : ∀ (i : Nat) ds, es[i]? = some (.bor ds) → ∃ a vs, σ[i]? = some (some (.ref a)) ∧ P a = some (.lst vs) ∧ Reps G ρ H ds vs
  own : ∀ (i : Nat) ds, es[i]? = some (.own ds) → ∃ a vs, σ[i]? = some (some (.ref a)) ∧ H a = some (.lst vs) ∧ Reps G ρ H ds vs ∧ a ∉ ρ ∧ P a = none
  dis : ∀ (i j : Nat) ds es' a, es[i]? = some (.own ds) → es[j]? = some (.own es') → σ[i]? = some (some (.ref a)) → σ[j]? = some (some (.ref a)) → i = j
structure TKS (ρ : List Addr) (H : Hp) (σ : St) (es : Env) (ρ' : List Addr) (H' : Hp) (σ' : St) (es' : Env) : Prop where
  tk : TK ρ H ρ' H'
  bor : ∀ (j : Nat) ds, es'[j]? = some (.bor ds) → es[j]? = some (.bor ds) ∧ σ'[j]? = σ[j]?
theorem TKS.refl (ρ : List Addr) (H : Hp) (σ : St) (es : Env) : TKS ρ H σ es ρ H σ es := ⟨TK.refl _ _, fun _ _ e => ⟨e, rfl⟩⟩
theorem TKS.trans {ρ ρ1 ρ2 : List Addr} {H H1 H2 : Hp} {σ σ1 σ2 : St} {es es1 es2 : Env} (a : TKS ρ H σ es ρ1 H1 σ1 es1) (b : TKS ρ1 H1 σ1 es1 ρ2 H2 σ2 es2) : TKS ρ H σ es ρ2 H2 σ2 es2 :=
  ⟨a.tk.trans b.tk, fun j ds e => let ⟨h1, h2⟩ := b.bor j ds e; let ⟨h3, h4⟩ := a.bor j ds h1; ⟨h3, h2.trans h4⟩⟩
theorem TKS.of {ρ ρ1 : List Addr} {H H1 : Hp} {σ : St} {es : Env} (a : TK ρ H ρ1 H1) : TKS ρ H σ es ρ1 H1 σ es := ⟨a, fun _ _ e => ⟨e, rfl⟩⟩
def AftS (G : GT) (W : WX) (P : Hp) (ρ : List Addr) (H : Hp) (σ : St) (es : Env) (r : SR) (D : Ends) : Prop :=
  match r with
  | .nx es' S' => ∀ σ' ρ' H', VS G P ρ' H' S' → SS G P ρ' H' σ' es' → TKS ρ H σ es ρ' H' σ' es' → D.nx σ' H'
  | .rt r S' => (∀ ds, r ≠ .l false ds) ∧ ∀ v ρ' H', VS G P ρ' H' S' → TK ρ H ρ' H' → RR G P ρ' H' r v → D.rt v H'
  | .bk es' S' => ∀ σ' ρ' H', VS G P ρ' H' S' → SS G P ρ' H' σ' es' → TKS ρ H σ es ρ' H' σ' es' → D.bk σ' H'
  | .ct es' S' => ∀ σ' ρ' H', VS G P ρ' H' S' → SS G P ρ' H' σ' es' → TKS ρ H σ es ρ' H' σ' es' → D.ct σ' H'
  | .ex c p es' S' => ∀ cls d σ' ρ' H', VS G P ρ' H' S' → SS G P ρ' H' σ' es' → TKS ρ H σ es ρ' H' σ' es' → RX G ρ' H' c p cls d → W cls d σ' H'
  | .bad => False
def rdS (G : GT) (W : WX) (m : MS) : TS := fun D σ H => ∃ P ρ es S, VS G P ρ H S ∧ SS G P ρ H σ es ∧ AftS G W P ρ H σ es (m es S) D
structure SP1 (G : GT) (W : WX) (X : Cx) (st : Stmt) (m : MS) : Prop where
  k : X.K = G.K
  ps : PS X st (rdS G W m)
structure SPs (G : GT) (W : WX) (X : Cx) (sts : List Stmt) (m : MS) : Prop where
  k : X.K = G.K
  pss : PSs X sts (rdS G W m)
theorem PS.of {X : Cx} {st : Stmt} {t t' : TS} (h : PS X st t) (k : ∀ D σ H, t' D σ H → t D σ H) : PS X st t' := ⟨fun pins s σ H D I q => h.run pins s σ H D I (k D σ H q)⟩
theorem PSs.of {X : Cx} {st : List Stmt} {t t' : TS} (h : PSs X st t) (k : ∀ D σ H, t' D σ H → t D σ H) : PSs X st t' := ⟨fun pins s σ H D I q => h.run pins s σ H D I (k D σ H q)⟩

section
variable {G : GT} {W : WX} {P P' : Hp} {ρ ρ' ρ1 : List Addr} {H H' H1 : Hp} {S S' : Store} {σ σ' σ1 : St} {es es' es1 : Env} {D : Ends}
theorem AftS.next {r : SR} (k : TKS ρ H σ es ρ1 H1 σ1 es1) (h : AftS G W P ρ H σ es r D) : AftS G W P ρ1 H1 σ1 es1 r D := by
  cases r with
  | nx es' S' => exact fun σ' ρ' H' s q t => h σ' ρ' H' s q (k.trans t)
  | bk es' S' => exact fun σ' ρ' H' s q t => h σ' ρ' H' s q (k.trans t)
  | ct es' S' => exact fun σ' ρ' H' s q t => h σ' ρ' H' s q (k.trans t)
  | ex c p es' S' => exact fun cls d σ' ρ' H' s q t rx => h cls d σ' ρ' H' s q (k.trans t) rx
  | rt r S' => exact ⟨h.1, fun v ρ' H' s t rr => h.2 v ρ' H' s (k.tk.trans t) rr⟩
  | bad => exact h
theorem none_sub (hp : ∀ a o, P a = some o → P' a = some o) {a : Addr} (e : P' a = none) : P a = none := by
  cases q : P a with
  | none => rfl
  | some o => rw [hp a o q] at e; cases e
theorem SS.less (q : SS G P ρ H σ es) (hp : ∀ a o, P a = some o → P' a = some o) (k : TKS ρ H σ es ρ' H' σ' es') (q' : SS G P' ρ' H' σ' es') : SS G P ρ' H' σ' es' := by
  refine ⟨q'.len, q'.val, fun i ds e => ?_, fun i ds e => ?_, q'.dis⟩
  · obtain ⟨h1, h2⟩ := k.bor i ds e
    obtain ⟨a, vs, e1, e2, e3⟩ := q.bor i ds h1
    exact ⟨a, vs, h2.trans e1, e2, e3.mono k.tk⟩
  · obtain ⟨a, vs, e1, e2, e3, e4, e5⟩ := q'.own i ds e
    exact ⟨a, vs, e1, e2, e3, e4, none_sub hp e5⟩
theorem RR.less {r : RV} {v : V} (hp : ∀ a o, P a = some o → P' a = some o) (hr : ∀ ds, r ≠ .l false ds) (h : RR G P' ρ H r v) : RR G P ρ H r v := by
  cases r with
  | d x => exact h
  | l f ds =>
    cases f with
    | true => obtain ⟨a, vs, e, h1, h2, h3, h4⟩ := h; exact ⟨a, vs, e, h1, h2, h3, none_sub hp h4⟩
    | false => exact absurd rfl (hr ds)
theorem AftS.more {r : SR} (q : SS G P ρ H σ es) (hp : ∀ a o, P a = some o → P' a = some o) (h : AftS G W P ρ H σ es r D) : AftS G W P' ρ H σ es r D := by
  cases r with
  | nx es' S' => exact fun σ' ρ' H' s q' t => h σ' ρ' H' (s.less hp) (q.less hp t q') t
  | bk es' S' => exact fun σ' ρ' H' s q' t => h σ' ρ' H' (s.less hp) (q.less hp t q') t
  | ct es' S' => exact fun σ' ρ' H' s q' t => h σ' ρ' H' (s.less hp) (q.less hp t q') t
  | ex c p es' S' => exact fun cls d σ' ρ' H' s q' t rx => h cls d σ' ρ' H' (s.less hp) (q.less hp t q') t rx
  | rt r S' => exact ⟨h.1, fun v ρ' H' s t rr => h.2 v ρ' H' (s.less hp) t (RR.less hp h.1 rr)⟩
  | bad => exact h

def IsOwn (σ : St) (es : Env) (a : Addr) : Prop := ∃ (i : Nat) (ds : List DM.D), es[i]? = some (Slot.own ds) ∧ σ[i]? = some (some (V.ref a))
open Classical in
noncomputable def plus (P H : Hp) (σ : St) (es : Env) : Hp := fun a => if IsOwn σ es a then H a else P a
theorem plus_own {a : Addr} (h : IsOwn σ es a) : plus P H σ es a = H a := if_pos h
theorem plus_not {a : Addr} (h : ¬ IsOwn σ es a) : plus P H σ es a = P a := if_neg h
theorem SS.sub (q : SS G P ρ H σ es) : ∀ a o, P a = some o → plus P H σ es a = some o := fun a o e => by
  rw [plus_not]
  · exact e
  · rintro ⟨i, ds, h1, h2⟩
    obtain ⟨b, vs, e1, e2, e3, e4, e5⟩ := q.own i ds h1
    rw [h2] at e1
    cases e1
    rw [e] at e5; cases e5
theorem SS.vs (q : SS G P ρ H σ es) (s : VS G P ρ H S) : VS G (plus P H σ es) ρ H S := by
  refine ⟨s.len, s.nd, s.st, fun a o e => ?_⟩
  by_cases h : IsOwn σ es a
  · rw [plus_own h] at e
    obtain ⟨i, ds, h1, h2⟩ := h
    obtain ⟨b, vs, e1, e2, e3, e4, e5⟩ := q.own i ds h1
    rw [h2] at e1
    cases e1
    exact ⟨e, e4⟩
  · rw [plus_not h] at e
    exact s.pr a o e
theorem SS.toES (q : SS G P ρ H σ es) : ES G (plus P H σ es) ρ H σ es := by
  refine ⟨q.len, q.val, fun i ds e => ?_⟩
  rcases e with e | e
  · obtain ⟨a, vs, e1, e2, e3, e4, e5⟩ := q.own i ds e
    exact ⟨a, vs, e1, by rw [plus_own ⟨i, ds, e, e1⟩]; exact e2, e3⟩
  · obtain ⟨a, vs, e1, e2, e3⟩ := q.bor i ds e
    exact ⟨a, vs, e1, q.sub _ _ e2, e3⟩
theorem SS.next (q : SS G P ρ H σ es) (s : VS G (plus P H σ es) ρ' H' S') (k : TK ρ H ρ' H') : SS G P ρ' H' σ es := by
  refine ⟨q.len, fun i d e => ?_, fun i ds e => ?_, fun i ds e => ?_, q.dis⟩
  · obtain ⟨x, h1, h2⟩ := q.val i d e
    exact ⟨x, h1, h2.mono k⟩
  · obtain ⟨a, vs, e1, e2, e3⟩ := q.bor i ds e
    exact ⟨a, vs, e1, e2, e3.mono k⟩
  · obtain ⟨a, vs, e1, e2, e3, e4, e5⟩ := q.own i ds e
    have p : plus P H σ es a = some (.lst vs) := by rw [plus_own ⟨i, ds, e, e1⟩]; exact e2
    exact ⟨a, vs, e1, (s.pr _ _ p).1, e3.mono k, (s.pr _ _ p).2, e5⟩
def bindS {T : Type} (r : Res T) (es : Env) (f : T → Store → SR) : SR := match r with
  | .ok a S => f a S
  | .ex c p S => .ex c p es S
  | .bad => .bad
theorem st_thenS {ma : ME} {f : RV → Store → SR} {R : VK} (s : VS G P ρ H S) (q : SS G P ρ H σ es) (h : AftS G W P ρ H σ es (bindS (ma es S) es f) D)
    (k : ∀ r S1 v ρ1 H1, VS G (plus P H σ es) ρ1 H1 S1 → SS G P ρ1 H1 σ es → TK ρ H ρ1 H1 → RR G (plus P H σ es) ρ1 H1 r v → AftS G W P ρ1 H1 σ es (f r S1) D → R v H1) : rdE G W ma σ H R := by
  refine ⟨_, ρ, es, S, q.vs s, q.toES, ?_⟩
  cases e : ma es S with
  | ok r S1 =>
    rw [e] at h
    exact fun v ρ1 H1 s1 k1 rr => k r S1 v ρ1 H1 s1 (q.next s1 k1) k1 rr (AftS.next (TKS.of k1) h)
  | ex c p S1 =>
    rw [e] at h
    exact fun cls d ρ1 H1 s1 k1 rx => h cls d σ ρ1 H1 (s1.less q.sub) (q.next s1 k1) (TKS.of k1) rx
  | bad => rw [e] at h; exact h.elim
theorem st_thenB {mb : MB} {f : Bool → Store → SR} {R : Bool → Hp → Prop} (s : VS G P ρ H S) (q : SS G P ρ H σ es) (h : AftS G W P ρ H σ es (bindS (mb es S) es f) D)
    (k : ∀ r S1 ρ1 H1, VS G (plus P H σ es) ρ1 H1 S1 → SS G P ρ1 H1 σ es → TK ρ H ρ1 H1 → AftS G W P ρ1 H1 σ es (f r S1) D → R r H1) : rdB G W mb σ H R := by
  refine ⟨_, ρ, es, S, q.vs s, q.toES, ?_⟩
  cases e : mb es S with
  | ok r S1 =>
    rw [e] at h
    exact fun ρ1 H1 s1 k1 => k r S1 ρ1 H1 s1 (q.next s1 k1) k1 (AftS.next (TKS.of k1) h)
  | ex c p S1 =>
    rw [e] at h
    exact fun cls d ρ1 H1 s1 k1 rx => h cls d σ ρ1 H1 (s1.less q.sub) (q.next s1 k1) (TKS.of k1) rx
  | bad => rw [e] at h; exact h.elim

theorem get_set {T : Type} {l : List T} {i j : Nat} {a b : T} (h : (l.set i a)[j]? = some b) : (i = j ∧ i < l.length ∧ a = b) ∨ (i ≠ j ∧ l[j]? = some b) := by
  rw [List.getElem?_set] at h
  by_cases hij : i = j
  · rw [if_pos hij] at h
    by_cases hl : i < l.length
    · rw [if_pos hl] at h; exact .inl ⟨hij, hl, Option.some.inj h⟩
    · rw [if_neg hl] at h; cases h
  · rw [if_neg hij] at h; exact .inr ⟨hij, h⟩
theorem SS.setV (q : SS G P ρ H σ es) {i : Nat} {d : DM.D} {x : V} (r : Rep G ρ H d x) : SS G P ρ H (σ.set i (some x)) (es.set i (.v d)) := by
  have sg : ∀ (j : Nat), i ≠ j → (σ.set i (some x))[j]? = σ[j]? := fun j h => by rw [List.getElem?_set_ne h]
  refine ⟨by simp [q.len], fun j e h => ?_, fun j ds h => ?_, fun j ds h => ?_, fun j k ds es' a h1 h2 h3 h4 => ?_⟩
  · rcases get_set h with ⟨rfl, hl, e1⟩ | ⟨hn, h⟩
    · cases e1
      exact ⟨x, by rw [List.getElem?_set_self (by rw [q.len]; exact hl)], r⟩
    · rw [sg j hn]; exact q.val j e h
  · rcases get_set h with ⟨rfl, hl, e1⟩ | ⟨hn, h⟩
    · cases e1
    · rw [sg j hn]; exact q.bor j ds h
  · rcases get_set h with ⟨rfl, hl, e1⟩ | ⟨hn, h⟩
    · cases e1
    · rw [sg j hn]; exact q.own j ds h
  · rcases get_set h1 with ⟨rfl, hl, e1⟩ | ⟨hn, h1⟩
    · cases e1
    · rcases get_set h2 with ⟨rfl, hl, e1⟩ | ⟨hn2, h2⟩
      · cases e1
      · rw [sg j hn] at h3
        rw [sg k hn2] at h4
        exact q.dis j k ds es' a h1 h2 h3 h4
theorem SS.setN (q : SS G P ρ H σ es) {i : Nat} {x : Option V} : SS G P ρ H (σ.set i x) (es.set i .no) := by
  have sg : ∀ (j : Nat), i ≠ j → (σ.set i x)[j]? = σ[j]? := fun j h => by rw [List.getElem?_set_ne h]
  refine ⟨by simp [q.len], fun j e h => ?_, fun j ds h => ?_, fun j ds h => ?_, fun j k ds es' a h1 h2 h3 h4 => ?_⟩
  · rcases get_set h with ⟨rfl, hl, e1⟩ | ⟨hn, h⟩
    · cases e1
    · rw [sg j hn]; exact q.val j e h
  · rcases get_set h with ⟨rfl, hl, e1⟩ | ⟨hn, h⟩
    · cases e1
    · rw [sg j hn]; exact q.bor j ds h
  · rcases get_set h with ⟨rfl, hl, e1⟩ | ⟨hn, h⟩
    · cases e1
    · rw [sg j hn]; exact q.own j ds h
  · rcases get_set h1 with ⟨rfl, hl, e1⟩ | ⟨hn, h1⟩
    · cases e1
    · rcases get_set h2 with ⟨rfl, hl, e1⟩ | ⟨hn2, h2⟩
      · cases e1
      · rw [sg j hn] at h3
        rw [sg k hn2] at h4
        exact q.dis j k ds es' a h1 h2 h3 h4
theorem SS.setO (q : SS G P ρ H σ es) {i : Nat} {ds : List DM.D} {a : Addr} {vs : List V} (h1 : H a = some (.lst vs)) (r : Reps G ρ H ds vs) (h2 : a ∉ ρ) (h3 : P a = none) (h4 : ∀ (j : Nat) es', j ≠ i → es[j]? = some (.own es') → σ[j]? ≠ some (some (.ref a))) :
    SS G P ρ H (σ.set i (some (.ref a))) (es.set i (.own ds)) := by
  have sg : ∀ (j : Nat), i ≠ j → (σ.set i (some (.ref a)))[j]? = σ[j]? := fun j h => by rw [List.getElem?_set_ne h]
  refine ⟨by simp [q.len], fun j e h => ?_, fun j ds h => ?_, fun j ds h => ?_, fun j k ds es' b e1 e2 e3 e4 => ?_⟩
  · rcases get_set h with ⟨rfl, hl, e1⟩ | ⟨hn, h⟩
    · cases e1
    · rw [sg j hn]; exact q.val j e h
  · rcases get_set h with ⟨rfl, hl, e1⟩ | ⟨hn, h⟩
    · cases e1
    · rw [sg j hn]; exact q.bor j ds h
  · rcases get_set h with ⟨rfl, hl, e1⟩ | ⟨hn, h⟩
    · cases e1
      exact ⟨a, vs, by rw [List.getElem?_set_self (by rw [q.len]; exact hl)], h1, r, h2, h3⟩
    · rw [sg j hn]; exact q.own j ds h
  · rcases get_set e1 with ⟨rfl, hl, z1⟩ | ⟨hn, e1⟩
    · rcases get_set e2 with ⟨rfl, hl2, z2⟩ | ⟨hn2, e2⟩
      · rfl
      · rw [List.getElem?_set_self (by rw [q.len]; exact hl)] at e3
        cases e3
        rw [sg k hn2] at e4
        exact absurd e4 (h4 k es' (Ne.symm hn2) e2)
    · rcases get_set e2 with ⟨rfl, hl2, z2⟩ | ⟨hn2, e2⟩
      · rw [List.getElem?_set_self (by rw [q.len]; exact hl2)] at e4
        cases e4
        rw [sg j hn] at e3
        exact absurd e3 (h4 j ds (Ne.symm hn) e1)
      · rw [sg j hn] at e3
        rw [sg k hn2] at e4
        exact q.dis j k ds es' b e1 e2 e3 e4
theorem tks_set {i : Nat} {x : Option V} {d : Slot} (hd : ∀ ds, d ≠ .bor ds) : TKS ρ H σ es ρ H (σ.set i x) (es.set i d) := by
  refine ⟨TK.refl _ _, fun j ds h => ?_⟩
  rcases get_set h with ⟨rfl, hl, e1⟩ | ⟨hn, h⟩
  · exact absurd e1 (hd ds)
  · exact ⟨h, by rw [List.getElem?_set_ne hn]⟩
theorem SS.updO (q : SS G P ρ H σ es) {i : Nat} {ds es' : List DM.D} {a : Addr} {vs ws : List V} (hi : es[i]? = some (.own ds)) (ha : σ[i]? = some (some (.ref a))) (hH : H a = some (.lst vs)) (r : Reps G ρ H es' ws) : SS G P ρ (upd H a (.lst ws)) σ (es.set i (.own es')) := by
  have tk : TK ρ H ρ (upd H a (.lst ws)) := tk_updl hH
  obtain ⟨b, vs', e1, e2, e3, e4, e5⟩ := q.own i ds hi
  rw [ha] at e1
  cases e1
  refine ⟨by simp [q.len], fun j e h => ?_, fun j ds h => ?_, fun j ds h => ?_, fun j k ds1 ds2 c h1 h2 h3 h4 => ?_⟩
  · rcases get_set h with ⟨rfl, hl, z⟩ | ⟨hn, h⟩
    · cases z
    · obtain ⟨x, y1, y2⟩ := q.val j e h
      exact ⟨x, y1, y2.mono tk⟩
  · rcases get_set h with ⟨rfl, hl, z⟩ | ⟨hn, h⟩
    · cases z
    · obtain ⟨c, us, y1, y2, y3⟩ := q.bor j ds h
      exact ⟨c, us, y1, y2, y3.mono tk⟩
  · rcases get_set h with ⟨rfl, hl, z⟩ | ⟨hn, h⟩
    · cases z
      exact ⟨a, ws, ha, upd_same, r.mono tk, e4, e5⟩
    · obtain ⟨c, us, y1, y2, y3, y4, y5⟩ := q.own j ds h
      have hc : c ≠ a := fun z => hn (q.dis i j _ _ a hi h ha (z ▸ y1))
      exact ⟨c, us, y1, by rw [upd_ne hc]; exact y2, y3.mono tk, y4, y5⟩
  · have f : ∀ (j : Nat) (x : List DM.D), (es.set i (.own es'))[j]? = some (.own x) → ∃ y, es[j]? = some (.own y) := fun j x h => by
      rcases get_set h with ⟨rfl, hl, z⟩ | ⟨hn, h⟩
      · exact ⟨ds, hi⟩
      · exact ⟨x, h⟩
    obtain ⟨y1, z1⟩ := f j _ h1
    obtain ⟨y2, z2⟩ := f k _ h2
    exact q.dis j k y1 y2 c z1 z2 h3 h4
theorem SS.updS (q : SS G P ρ H σ es) {a : Addr} {vs ws : List V} (hr : a ∈ ρ) (hH : H a = some (.lst vs)) : SS G P ρ (upd H a (.lst ws)) σ es := by
  have tk : TK ρ H ρ (upd H a (.lst ws)) := tk_updl hH
  refine ⟨q.len, fun j e h => ?_, fun j ds h => ?_, fun j ds h => ?_, q.dis⟩
  · obtain ⟨x, y1, y2⟩ := q.val j e h
    exact ⟨x, y1, y2.mono tk⟩
  · obtain ⟨c, us, y1, y2, y3⟩ := q.bor j ds h
    exact ⟨c, us, y1, y2, y3.mono tk⟩
  · obtain ⟨c, us, y1, y2, y3, y4, y5⟩ := q.own j ds h
    have hc : c ≠ a := fun z => y4 (z ▸ hr)
    exact ⟨c, us, y1, by rw [upd_ne hc]; exact y2, y3.mono tk, y4, y5⟩
theorem SS.mono (q : SS G P ρ H σ es) (k : TK ρ H ρ' H) (hr : ∀ a, IsOwn σ es a → a ∉ ρ') : SS G P ρ' H σ es := by
  refine ⟨q.len, fun i d e => ?_, fun i ds e => ?_, fun i ds e => ?_, q.dis⟩
  · obtain ⟨x, h1, h2⟩ := q.val i d e
    exact ⟨x, h1, h2.mono k⟩
  · obtain ⟨a, vs, e1, e2, e3⟩ := q.bor i ds e
    exact ⟨a, vs, e1, e2, e3.mono k⟩
  · obtain ⟨a, vs, e1, e2, e3, e4, e5⟩ := q.own i ds e
    exact ⟨a, vs, e1, e2, e3.mono k, hr a ⟨i, ds, e, e1⟩, e5⟩
end

def sSeq (a b : MS) : MS := fun es S => match a es S with
  | .nx es' S' => b es' S'
  | r => r
def sNop : MS := fun es S => .nx es S
def sIf (t : MB) (a b : MS) : MS := fun es S => bindS (t es S) es fun x S1 => if x = true then a es S1 else b es S1
def sRet (m : ME) : MS := fun es S => bindS (m es S) es fun r S1 => match r with
  | .l false _ => .bad
  | r => .rt r S1
def sRetN : MS := fun _ S => .rt (.d .non) S
def sRetV (i : Nat) : MS := fun es S => match es[i]? with
  | some (.v x) => .rt (.d x) S
  | some (.own ds) => .rt (.l true ds) S
  | _ => .bad
def sBrk : MS := fun es S => .bk es S
def sCnt : MS := fun es S => .ct es S
def sDrop (m : ME) : MS := fun es S => bindS (m es S) es fun _ S1 => .nx es S1
def sSet (i : Nat) (m : ME) : MS := fun es S => bindS (m es S) es fun r S1 => match r with
  | .d x => .nx (es.set i (.v x)) S1
  | .l true ds => .nx (es.set i (.own ds)) S1
  | .l false _ => .bad
def sSetS (i : Nat) (m : ME) : MS := fun es S => bindS ((m es S).bind item) es fun x S1 => .nx (es.set i (.v x)) S1
def sMove (i j : Nat) : MS := fun es S => match es[j]? with
  | some (.own ds) => .nx ((es.set j .no).set i (.own ds)) S
  | _ => .bad
section
variable {G : GT} {W : WX} {X : Cx} {a b c e : Expr} {ma mb : ME} {pos : Pos} {st : Stmt} {rest : List Stmt} {m n : MS}
theorem sp_nil (k : X.K = G.K) : SPs G W X [] sNop := by
  refine ⟨k, PSs.of pss_nil fun D σ H h => ?_⟩
  obtain ⟨P, ρ, es, S, s, q, h⟩ := h
  exact h σ ρ H s q (TKS.refl _ _ _ _)
theorem sp_one (h : SP1 G W X st m) : SPs G W X [st] m := ⟨h.k, pss_one h.ps⟩
theorem seq_core {D : Ends} {σ : St} {H : Hp} (h : rdS G W (sSeq m n) D σ H) : rdS G W m { D with nx := rdS G W n D } σ H := by
  obtain ⟨P, ρ, es, S, s, q, h⟩ := h
  refine ⟨P, ρ, es, S, s, q, ?_⟩
  unfold sSeq at h
  cases z : m es S with
  | nx es' S' =>
    rw [z] at h
    exact fun σ' ρ' H' s' q' t => ⟨P, ρ', es', S', s', q', AftS.next t h⟩
  | rt r S' => rw [z] at h; exact h
  | bk es' S' => rw [z] at h; exact h
  | ct es' S' => rw [z] at h; exact h
  | ex c p es' S' => rw [z] at h; exact h
  | bad => rw [z] at h; exact h
theorem sp_cons (h1 : SP1 G W X st m) (h2 : SPs G W X rest n) : SPs G W X (st :: rest) (sSeq m n) := ⟨h1.k, PSs.of (pss_cons h1.ps h2.pss) fun D σ H h => seq_core h⟩
theorem sp_cnt (k : X.K = G.K) : SP1 G W X (.Continue pos) sCnt := by
  refine ⟨k, PS.of ps_continue fun D σ H h => ?_⟩
  obtain ⟨P, ρ, es, S, s, q, h⟩ := h
  exact h σ ρ H s q (TKS.refl _ _ _ _)
theorem sp_if {t : MB} {as bs : List Stmt} (ht : SB G W X c t) (ha : SPs G W X as m) (hb : SPs G W X bs n) : SP1 G W X (.If c as bs pos) (sIf t m n) := by
  refine ⟨ht.k, PS.of (ps_if ht.pt ha.pss hb.pss) fun D σ H h => ?_⟩
  obtain ⟨P, ρ, es, S, s, q, h⟩ := h
  refine st_thenB s q h fun r S1 ρ1 H1 s1 q1 k1 h => ?_
  cases r with
  | true => exact ⟨P, ρ1, es, S1, s1.less q.sub, q1, h⟩
  | false => exact ⟨P, ρ1, es, S1, s1.less q.sub, q1, h⟩
theorem sp_ret (ha : SE G W X a ma) : SP1 G W X (.Return (some a) pos) (sRet ma) := by
  refine ⟨ha.k, PS.of (ps_ret ha.pe) fun D σ H h => ?_⟩
  obtain ⟨P, ρ, es, S, s, q, h⟩ := h
  refine st_thenS s q h fun r S1 v ρ1 H1 s1 q1 k1 rr h => ?_
  cases r with
  | d x => exact h.2 v ρ1 H1 (s1.less q.sub) (TK.refl _ _) rr
  | l f ds =>
    cases f with
    | true => exact h.2 v ρ1 H1 (s1.less q.sub) (TK.refl _ _) (RR.less q.sub (fun _ z => by cases z) rr)
    | false => exact h.elim
theorem sp_retV {i : Nat} {x : Str} {p2 : Pos} (k : X.K = G.K) (hN : X.N[i]? = some x) (hv : Vis X.env.scope x) (hd : (x == ("__debug__" : Str)) = false := by decide) (hcd : (x == ("__classdict__" : Str)) = false := by decide) : SP1 G W X (.Return (some (.Name x p2)) pos) (sRetV i) := by
  refine ⟨k, PS.of (ps_ret (pe_var hN hv hd hcd)) fun D σ H h => ?_⟩
  obtain ⟨P, ρ, es, S, s, q, h⟩ := h
  unfold sRetV at h
  split at h
  · rename_i x e
    obtain ⟨v, h1, h2⟩ := q.val i x e
    exact ⟨v, h1, h.2 v ρ H s (TK.refl _ _) h2⟩
  · rename_i ds e
    obtain ⟨a, vs, h1, h2, h3, h4, h5⟩ := q.own i ds e
    exact ⟨.ref a, h1, h.2 (.ref a) ρ H s (TK.refl _ _) ⟨a, vs, rfl, h2, h3, h4, h5⟩⟩
  · exact h.elim
theorem sp_drop (ha : SE G W X a ma) (hs : swapsWith a none pos.line X.env = pure false := by rfl) : SP1 G W X (.Expr a pos) (sDrop ma) := by
  refine ⟨ha.k, PS.of (ps_expr ha.pe hs) fun D σ H h => ?_⟩
  obtain ⟨P, ρ, es, S, s, q, h⟩ := h
  exact st_thenS s q h fun r S1 v ρ1 H1 s1 q1 k1 rr h => h σ ρ1 H1 (s1.less q.sub) q1 (TKS.refl _ _ _ _)
theorem own_ne {P : Hp} {ρ : List Addr} {H : Hp} {σ : St} {es : Env} {a : Addr} (q : SS G P ρ H σ es) (h : plus P H σ es a = none) : ¬ IsOwn σ es a := fun z => by
  rw [plus_own z] at h
  obtain ⟨i, ds, h1, h2⟩ := z
  obtain ⟨b, vs, e1, e2, _⟩ := q.own i ds h1
  rw [h2] at e1
  cases e1
  rw [h] at e2; cases e2
theorem set_core {i : Nat} {D : Ends} {σ : St} {H : Hp} (h : rdS G W (sSet i ma) D σ H) : tAsg (rdE G W ma) (gName i) D σ H := by
  obtain ⟨P, ρ, es, S, s, q, h⟩ := h
  refine st_thenS s q h fun r S1 v ρ1 H1 s1 q1 k1 rr h => ?_
  cases r with
  | d x => exact h (σ.set i (some v)) ρ1 H1 (s1.less q.sub) (q1.setV rr) (tks_set fun _ z => by cases z)
  | l f ds =>
    cases f with
    | false => exact h.elim
    | true =>
      obtain ⟨a, vs, rfl, h1, h2, h3, h4⟩ := rr
      have no := own_ne q h4
      exact h (σ.set i (some (.ref a))) ρ1 H1 (s1.less q.sub) (q1.setO h1 h2 h3 (none_sub q.sub h4) fun j es' _ hj z => no ⟨j, es', hj, z⟩) (tks_set fun _ z => by cases z)
theorem sp_set {i : Nat} {x : Str} {pos' : Pos} (ha : SE G W X a ma) (hN : X.N.Nodup) (hi : X.N[i]? = some x) (hx : Loc X.env.scope x) (hs : swapsWith a (some (.Name x pos')) pos.line X.env = pure false := by rfl) (hf : X.fn x = true ∨ X.env.scope.names.lookup x = some .local := by first | exact .inl rfl | exact .inr rfl | assumption) :
    SP1 G W X (.Assign [.Name x pos'] a pos) (sSet i ma) := ⟨ha.k, PS.of (ps_set hN hi hx ha.pe hs hf) fun D σ H h => set_core h⟩
theorem setS_core {i : Nat} {D : Ends} {σ : St} {H : Hp} (h : rdS G W (sSetS i ma) D σ H) : tAsg (rdE G W ma) (gName i) D σ H := by
  obtain ⟨P, ρ, es, S, s, q, h⟩ := h
  have h' : AftS G W P ρ H σ es (bindS (ma es S) es fun r S1 => bindS (item r S1) es fun x S2 => .nx (es.set i (.v x)) S2) D := by
    unfold sSetS at h
    cases e : ma es S with
    | ok r S1 => rw [e] at h; exact h
    | ex c p S1 => rw [e] at h; exact h
    | bad => rw [e] at h; exact h
  refine st_thenS s q h' fun r S1 v ρ1 H1 s1 q1 k1 rr h => ?_
  cases e : item r S1 with
  | bad => rw [e] at h; exact h.elim
  | ex c p S2 => exact (item_ex e).elim
  | ok d S2 =>
    rw [e] at h
    obtain ⟨ρ2, s2, k2, rd⟩ := item_ok s1 rr e
    have q2 : SS G P ρ2 H1 σ es := q.next s2 (k1.trans k2)
    exact h (σ.set i (some v)) ρ2 H1 (s2.less q.sub) (q2.setV rd) ((TKS.of k2).trans (tks_set fun _ z => by cases z))
theorem sp_setS {i : Nat} {x : Str} {pos' : Pos} (ha : SE G W X a ma) (hN : X.N.Nodup) (hi : X.N[i]? = some x) (hx : Loc X.env.scope x) (hs : swapsWith a (some (.Name x pos')) pos.line X.env = pure false := by rfl) (hf : X.fn x = true ∨ X.env.scope.names.lookup x = some .local := by first | exact .inl rfl | exact .inr rfl | assumption) :
    SP1 G W X (.Assign [.Name x pos'] a pos) (sSetS i ma) := ⟨ha.k, PS.of (ps_set hN hi hx ha.pe hs hf) fun D σ H h => setS_core h⟩
end
end DM

namespace DM
open PySem PySem.Spec L2

abbrev MG := D → Env → Option Env
abbrev MGs := List D → Env → Option Env
def tgName (i : Nat) : MG := fun x es => some (es.set i (.v x))
def tgNil : MGs := fun ds es => match ds with
  | [] => some es
  | _ => none
def tgCons (g : MG) (gs : MGs) : MGs := fun ds es => match ds with
  | d :: ds => (g d es).bind fun es1 => gs ds es1
  | [] => none
def tgTup (n : Nat) (gs : MGs) : MG := fun x es => match x with
  | .tup ds => if ds.length = n then gs ds es else none
  | _ => none
structure Stored (G : GT) (ix : List Nat) (ρ : List Addr) (H : Hp) (σ : St) (es : Env) (σ' : St) (es' : Env) : Prop where
  ss : ∀ P, SS G P ρ H σ es → SS G P ρ H σ' es'
  ee : ∀ P, ES G P ρ H σ es → ES G P ρ H σ' es'
  tk : TKS ρ H σ es ρ H σ' es'
  wp : ∀ vs : List Nat, (∀ i ∈ ix, i ∈ vs) → wipe σ' vs = wipe σ vs
def SG (G : GT) (X : Cx) (tg : Expr) (ix : List Nat) (mg : MG) : Prop := ∃ t : TG, PG X tg t ∧ ∀ ρ H σ es es' x v (Q : St → Hp → Prop), Rep G ρ H x v → mg x es = some es' → (∀ σ', Stored G ix ρ H σ es σ' es' → Q σ' H) → t v σ H Q
theorem wipe_get {σ : St} : ∀ (vs : List Nat) (j : Nat), (wipe σ vs)[j]? = if j ∈ vs then (if j < σ.length then some none else none) else σ[j]?
  | [], j => by simp [wipe]
  | v :: vs, j => by
    show ((wipe σ vs).set v none)[j]? = _
    rw [List.getElem?_set, wipe_length]
    by_cases h : v = j
    · subst h
      simp
    · rw [if_neg h, wipe_get vs j]
      simp [Ne.symm h]
theorem wipe_set {σ : St} {i : Nat} {x : Option V} {vs : List Nat} (h : i ∈ vs) : wipe (σ.set i x) vs = wipe σ vs := by
  apply List.ext_getElem?
  intro j
  rw [wipe_get, wipe_get, List.length_set, List.getElem?_set]
  by_cases hj : j ∈ vs
  · simp [hj]
  · have : i ≠ j := fun z => hj (z ▸ h)
    simp [hj, this]
theorem ES.setV {G : GT} {P : Hp} {ρ : List Addr} {H : Hp} {σ : St} {es : Env} (q : ES G P ρ H σ es) {i : Nat} {d : D} {x : V} (r : Rep G ρ H d x) : ES G P ρ H (σ.set i (some x)) (es.set i (.v d)) := by
  have sg : ∀ (j : Nat), i ≠ j → (σ.set i (some x))[j]? = σ[j]? := fun j h => by rw [List.getElem?_set_ne h]
  refine ⟨by simp [q.len], fun j e h => ?_, fun j ds h => ?_⟩
  · rcases get_set h with ⟨rfl, hl, e1⟩ | ⟨hn, h⟩
    · cases e1
      exact ⟨x, by rw [List.getElem?_set_self (by rw [q.len]; exact hl)], r⟩
    · rw [sg j hn]; exact q.val j e h
  · rcases h with h | h
    · rcases get_set h with ⟨rfl, hl, e1⟩ | ⟨hn, h⟩
      · cases e1
      · rw [sg j hn]; exact q.lst j ds (.inl h)
    · rcases get_set h with ⟨rfl, hl, e1⟩ | ⟨hn, h⟩
      · cases e1
      · rw [sg j hn]; exact q.lst j ds (.inr h)
section
variable {G : GT} {X : Cx} {e : Expr} {rest : List Expr} {ix ixs : List Nat} {mg : MG} {mgs : MGs} {pos : Pos}
def OG (G : GT) (ix : List Nat) (g : TG) (mg : MG) : Prop := ∀ ρ H σ es es' x v (Q : St → Hp → Prop), Rep G ρ H x v → mg x es = some es' → (∀ σ', Stored G ix ρ H σ es σ' es' → Q σ' H) → g v σ H Q
def OGs (G : GT) (ix : List Nat) (g : TGs) (mg : MGs) : Prop := ∀ ρ H σ es es' xs vs (Q : St → Hp → Prop), Reps G ρ H xs vs → mg xs es = some es' → (∀ σ', Stored G ix ρ H σ es σ' es' → Q σ' H) → g vs σ H Q
theorem og_name {i : Nat} : OG G [i] (gName i) (tgName i) := fun ρ H σ es es' x v Q r e h => by
  cases e
  exact h _ ⟨fun P q => q.setV r, fun P q => q.setV r, tks_set (fun _ z => by cases z), fun vs hv => wipe_set (hv i (by simp))⟩
theorem ogs_nil : OGs G [] gNil tgNil := fun ρ H σ es es' xs vs Q r e h => by
  cases r with
  | cons _ _ => cases e
  | nil =>
    cases e
    exact ⟨rfl, h σ ⟨fun _ q => q, fun _ q => q, TKS.refl _ _ _ _, fun _ _ => rfl⟩⟩
theorem ogs_cons {t : TG} {u : TGs} (ok : OG G ix t mg) (oks : OGs G ixs u mgs) : OGs G (ix ++ ixs) (gCons t u) (tgCons mg mgs) := fun ρ H σ es es' xs vs Q r e h => by
  cases r with
  | nil => cases e
  | cons r rs =>
    rename_i d ds v vs
    unfold tgCons at e
    dsimp only at e
    cases z : mg d es with
    | none => rw [z] at e; cases e
    | some es1 =>
      rw [z] at e
      refine ⟨v, vs, rfl, ok ρ H σ es es1 d v _ r z fun σ1 st1 => ?_⟩
      refine oks ρ H σ1 es1 es' ds vs _ rs e fun σ2 st2 => ?_
      exact h σ2 ⟨fun P q => st2.ss P (st1.ss P q), fun P q => st2.ee P (st1.ee P q), st1.tk.trans st2.tk, fun ws hw => (st2.wp ws fun i m => hw i (List.mem_append_right _ m)).trans (st1.wp ws fun i m => hw i (List.mem_append_left _ m))⟩
theorem og_tup {n : Nat} {t : TGs} {K : PySem.W.Frag} (kG : K = G.K) (ok : OGs G ix t mgs) : OG G ix (gTup K n t) (tgTup n mgs) := fun ρ H σ es es' x v Q r e h => by
  unfold tgTup at e
  split at e
  · rename_i ds
    cases r with
    | tup hq rs =>
      by_cases hl : ds.length = n
      · rw [if_pos hl] at e
        rw [kG]
        exact ⟨_, _, rfl, hq.sq, by rw [← rs.len]; exact hl, ok ρ H σ es es' ds _ Q rs e h⟩
      · rw [if_neg hl] at e; cases e
  · cases e
theorem sg_of {g : TG} (pg : PG X e g) (og : OG G ix g mg) : SG G X e ix mg := ⟨g, pg, og⟩
end

inductive SK where
  | p | t | s (n : Nat)
def SeqAt (G : GT) (P : Hp) (ρ : List Addr) (H : Hp) (S : Store) : SK → List D → Addr → Prop
  | .p, ds, a => ∃ vs, P a = some (.lst vs) ∧ Reps G ρ H ds vs
  | .t, ds, a => ∃ vs, KT H a vs ∧ Reps G ρ H ds vs
  | .s n, ds, a => ρ[n]? = some a ∧ S[n]? = some (.lst ds)
def chk : SK → List D → Store → Prop
  | .s n, ds, S => S[n]? = some (.lst ds)
  | _, _, _ => True
def isT : SK → Bool
  | .t => true
  | _ => false
section
variable {G : GT} {P P' : Hp} {ρ ρ' : List Addr} {H H' : Hp} {S S' : Store} {k : SK} {ds : List D} {a : Addr}
theorem SeqAt.next (h : SeqAt G P ρ H S k ds a) (hp : ∀ a o, P a = some o → P' a = some o) (tk : TK ρ H ρ' H') (c : chk k ds S') : SeqAt G P' ρ' H' S' k ds a := by
  cases k with
  | p => obtain ⟨vs, e, r⟩ := h; exact ⟨vs, hp _ _ e, r.mono tk⟩
  | t => obtain ⟨vs, e, r⟩ := h; exact ⟨vs, e.mono tk, r.mono tk⟩
  | s n => exact ⟨tk.at_ h.1, c⟩
theorem SeqAt.list (h : SeqAt G P ρ H S k ds a) (s : VS G P ρ H S) (ht : isT k = false) : ∃ vs, H a = some (.lst vs) ∧ Reps G ρ H ds vs := by
  cases k with
  | p => obtain ⟨vs, e, r⟩ := h; exact ⟨vs, (s.pr _ _ e).1, r⟩
  | t => cases ht
  | s n => exact s.st n a _ h.1 h.2
theorem SeqAt.tuple (h : SeqAt G P ρ H S k ds a) (ht : isT k = true) : ∃ vs, SqT G.K H a vs ∧ Reps G ρ H ds vs := by
  cases k with
  | p => cases ht
  | t => obtain ⟨vs, e, r⟩ := h; exact ⟨vs, e.sq, r⟩
  | s n => cases ht
end
def Drv (G : GT) (P : Hp) (ρ0 : List Addr) (H0 : Hp) (J : L2.It) (xs : List D) (ck : Store → Prop) : Prop := ∀ (i : Nat) ρ H S, VS G P ρ H S → TK ρ0 H0 ρ H → ck S →
  (i = xs.length → J.stop i H) ∧ ∀ d, xs[i]? = some d → J.go i H ∧ ∀ x H', J.yld i H x H' → (∀ a o, H a = some o → H' a = some o) ∧ Rep G ρ H' d x
theorem Rep.same {G : GT} {ρ : List Addr} {H H' : Hp} {d : D} {v : V} (r : Rep G ρ H d v) (h : ∀ a o, H a = some o → H' a = some o) : Rep G ρ H' d v := r.mono (TK.same h)
section
variable {G : GT} {P : Hp} {ρ : List Addr} {H : Hp} {S : Store} {k : SK} {ds : List D} {a : Addr}
theorem drv_list (h : SeqAt G P ρ H S k ds a) (ht : isT k = false) : Drv G P ρ H (Itl G.K a) ds (chk k ds) := by
  intro i ρ1 H1 S1 s1 k1 c1
  obtain ⟨vs, e, r⟩ := (h.next (fun _ _ e => e) k1 c1).list s1 ht
  have sq : SqL G.K H1 a vs := SqL.of e
  refine ⟨fun hi => ⟨vs, sq, by rw [hi, r.len]; exact Nat.le_refl _⟩, fun d hd => ?_⟩
  obtain ⟨v, hv, rv⟩ := r.get hd
  refine ⟨⟨vs, v, sq, hv⟩, fun x H' hy => ?_⟩
  obtain ⟨rfl, f⟩ := hy
  have : x = v := Option.some.inj ((f vs sq).symm.trans hv)
  subst this
  exact ⟨fun _ _ e => e, rv⟩
theorem drv_tup (h : SeqAt G P ρ H S k ds a) (ht : isT k = true) : Drv G P ρ H (Itt G.K a) ds (chk k ds) := by
  intro i ρ1 H1 S1 s1 k1 c1
  obtain ⟨vs, sq, r⟩ := (h.next (fun _ _ e => e) k1 c1).tuple ht
  refine ⟨fun hi => ⟨vs, sq, by rw [hi, r.len]; exact Nat.le_refl _⟩, fun d hd => ?_⟩
  obtain ⟨v, hv, rv⟩ := r.get hd
  refine ⟨⟨vs, v, sq, hv⟩, fun x H' hy => ?_⟩
  obtain ⟨rfl, f⟩ := hy
  have : x = v := Option.some.inj ((f vs sq).symm.trans hv)
  subst this
  exact ⟨fun _ _ e => e, rv⟩
theorem drv_rng {lo : Int} {n : Nat} : Drv G P ρ H (Itr lo n) ((List.range n).map fun (i : Nat) => D.int (lo + (i : Int))) (fun _ => True) := by
  intro i ρ1 H1 S1 s1 k1 c1
  refine ⟨fun hi => ?_, fun d hd => ?_⟩
  · rw [List.length_map, List.length_range] at hi
    show n ≤ i
    omega
  · rw [List.getElem?_map] at hd
    have hl : i < n := by
      by_cases h : i < n
      · exact h
      · rw [List.getElem?_eq_none (by simpa using h)] at hd; cases hd
    rw [List.getElem?_range hl] at hd
    cases hd
    refine ⟨hl, fun x H' hy => ?_⟩
    obtain ⟨rfl, rfl⟩ := hy
    exact ⟨fun _ _ e => e, .int _⟩
def zipD (xs ys : List D) : List D := List.zipWith (fun x y => D.tup [x, y]) xs ys
def enumD (xs : List D) : List D := xs.zipIdx.map fun p => D.tup [.int (p.2 : Nat), p.1]
end

abbrev MI := Env → Store → Res (List D × (Store → Prop))
abbrev MQ := Env → Store → Res (List D × SK)
abbrev RL := Hp → List Addr → Hp → St → Env → Prop
def ofSeq (x : D) (S : Store) : Res (List D × SK) := match x with
  | .tup ds => .ok (ds, .t) S
  | .loc n => match S[n]? with
    | some (.lst ds) => .ok (ds, .s n) S
    | _ => .bad
  | _ => .bad
def qVar (i : Nat) : MQ := fun es S => match es[i]? with
  | some (.bor ds) => .ok (ds, .p) S
  | some (.v x) => ofSeq x S
  | _ => .bad
def qE (m : ME) : MQ := fun es S => (m es S).bind fun r S1 => match r with
  | .l true ds => .ok (ds, .p) S1
  | .d x => ofSeq x S1
  | _ => .bad
def qC (m : ME) : MQ := fun es S => (m es S).bind fun r S1 => match r with
  | .l _ ds => .ok (ds, .p) S1
  | .d x => ofSeq x S1
def AftQ {T : Type} (G : GT) (W : WX) (Rl : RL) (P : Hp) (ρ : List Addr) (H : Hp) (σ : St) (es : Env) (r : Res T) (R : T → Store → Hp → List Addr → Hp → Prop) : Prop := match r with
  | .ok x S' => ∀ P' ρ' H', (∀ a o, P a = some o → P' a = some o) → VS G P' ρ' H' S' → Rl P' ρ' H' σ es → TK ρ H ρ' H' → R x S' P' ρ' H'
  | .ex c p S' => ∀ cls d ρ' H', VS G P ρ' H' S' → Rl P ρ' H' σ es → TK ρ H ρ' H' → RX G ρ' H' c p cls d → W cls d σ H'
  | .bad => False
def IAok (G : GT) (W : WX) (Rl : RL) (te : TE) (mq : MQ) : Prop := ∀ P ρ H S σ es (R : VK), VS G P ρ H S → Rl P ρ H σ es → AftQ G W Rl P ρ H σ es (mq es S) (fun x S' P' ρ' H' => ∀ a, SeqAt G P' ρ' H' S' x.2 x.1 a → R (.ref a) H') → te σ H R
structure SQ (G : GT) (W : WX) (Rl : RL) (X : Cx) (e : Expr) (mq : MQ) : Prop where
  k : X.K = G.K
  pe : ∃ te, PE X e te ∧ IAok G W Rl te mq
structure SIt (G : GT) (W : WX) (Rl : RL) (X : Cx) (tg iter : Expr) (mi : MI) : Prop where
  k : X.K = G.K
  pi : ∃ wi, PI X tg iter wi ∧ ∀ P ρ H S σ es (R : L2.It → Hp → Prop), VS G P ρ H S → Rl P ρ H σ es → AftQ G W Rl P ρ H σ es (mi es S) (fun x S' P' ρ' H' => ∀ J, Drv G P' ρ' H' J x.1 x.2 → R J H') → wi σ H R
section
variable {G : GT} {W : WX} {X : Cx} {Rl : RL} {e : Expr}
theorem ofSeq_at {P : Hp} {ρ : List Addr} {H : Hp} {S S' : Store} {x : D} {v : V} {z : List D × SK} (r : Rep G ρ H x v) (h : ofSeq x S = .ok z S') : S' = S ∧ ∃ a, v = .ref a ∧ SeqAt G P ρ H S z.2 z.1 a := by
  unfold ofSeq at h
  split at h
  · cases h
    cases r with
    | tup hq rs => exact ⟨rfl, _, rfl, _, hq, rs⟩
  · rename_i n
    split at h
    · rename_i ds e
      cases h
      cases r with
      | loc hn => exact ⟨rfl, _, rfl, hn, e⟩
    · cases h
  · cases h
theorem ofSeq_ex {x : D} {S S' : Store} {c : Nat} {p : List D} : ofSeq x S ≠ .ex c p S' := by
  intro h
  unfold ofSeq at h
  split at h
  · cases h
  · split at h <;> cases h
  · cases h
theorem sq_var {i : Nat} {x : Str} {pos : Pos} (k : X.K = G.K) (hN : X.N[i]? = some x) (hv : Vis X.env.scope x) (hd : (x == ("__debug__" : Str)) = false := by decide) (hcd : (x == ("__classdict__" : Str)) = false := by decide) : SQ G W (SS G) X (.Name x pos) (qVar i) := by
  refine ⟨k, tVar i, pe_var hN hv hd hcd, fun P ρ H S σ es R s q h => ?_⟩
  unfold qVar at h
  split at h
  · rename_i ds e
    obtain ⟨a, vs, h1, h2, h3⟩ := q.bor i ds e
    exact ⟨.ref a, h1, h P ρ H (fun _ _ e => e) s q (TK.refl _ _) a ⟨vs, h2, h3⟩⟩
  · rename_i x e
    obtain ⟨v, h1, h2⟩ := q.val i x e
    cases z : ofSeq x S with
    | bad => rw [z] at h; exact h.elim
    | ex c p S' => exact (ofSeq_ex z).elim
    | ok y S' =>
      rw [z] at h
      obtain ⟨rfl, a, rfl, at_⟩ := ofSeq_at (P := P) h2 z
      exact ⟨.ref a, h1, h P ρ H (fun _ _ e => e) s q (TK.refl _ _) a at_⟩
  · exact h.elim
theorem sq_e {m : ME} (ha : SE G W X e m) : SQ G W (SS G) X e (qE m) := by
  refine ⟨ha.k, _, ha.pe, fun P ρ H S σ es R s q h => ?_⟩
  refine ⟨_, ρ, es, S, q.vs s, q.toES, ?_⟩
  unfold qE at h
  cases z : m es S with
  | bad => rw [z] at h; exact h
  | ex c p S1 =>
    rw [z] at h
    exact fun cls d ρ1 H1 s1 k1 rx => h cls d ρ1 H1 (s1.less q.sub) (q.next s1 k1) k1 rx
  | ok r S1 =>
    rw [z] at h
    intro v ρ1 H1 s1 k1 rr
    have q1 := q.next s1 k1
    dsimp only [Res.bind] at h
    cases r with
    | l f ds =>
      cases f with
      | false => exact h.elim
      | true =>
        obtain ⟨a, vs, rfl, h1, h2, h3, h4⟩ := rr
        have no := own_ne q h4
        have s0 := s1.less q.sub
        have pa : P a = none := none_sub q.sub h4
        have hp : ∀ b o, P b = some o → upd P a (.lst vs) b = some o := fun b o e => by rw [upd_ne (fun z => by rw [z, pa] at e; cases e)]; exact e
        refine h (upd P a (.lst vs)) ρ1 H1 hp ⟨s0.len, s0.nd, s0.st, fun b o e => ?_⟩ ⟨q1.len, q1.val, fun i ds e => ?_, fun i ds e => ?_, q1.dis⟩ k1 a ⟨vs, upd_same, h2⟩
        · by_cases hb : b = a
          · subst hb; rw [upd_same] at e; cases e; exact ⟨h1, h3⟩
          · rw [upd_ne hb] at e; exact s0.pr b o e
        · obtain ⟨c, us, y1, y2, y3⟩ := q1.bor i ds e
          exact ⟨c, us, y1, hp _ _ y2, y3⟩
        · obtain ⟨c, us, y1, y2, y3, y4, y5⟩ := q1.own i ds e
          refine ⟨c, us, y1, y2, y3, y4, ?_⟩
          rw [upd_ne (show c ≠ a from fun z => no ⟨i, ds, e, by rw [z] at y1; exact y1⟩)]
          exact y5
    | d x =>
      dsimp only at h
      cases z : ofSeq x S1 with
      | bad => rw [z] at h; exact h.elim
      | ex c p S' => exact (ofSeq_ex z).elim
      | ok y S' =>
        rw [z] at h
        obtain ⟨rfl, a, rfl, at_⟩ := ofSeq_at (P := P) rr z
        exact h P ρ1 H1 (fun _ _ e => e) (s1.less q.sub) q1 k1 a at_
theorem sq_c {m : ME} (ha : SE G W X e m) : SQ G W (ES G) X e (qC m) := by
  refine ⟨ha.k, _, ha.pe, fun P ρ H S σ es R s q h => ?_⟩
  refine ⟨_, ρ, es, S, s, q, ?_⟩
  unfold qC at h
  cases z : m es S with
  | bad => rw [z] at h; exact h
  | ex c p S1 =>
    rw [z] at h
    exact fun cls d ρ1 H1 s1 k1 rx => h cls d ρ1 H1 s1 (q.next k1) k1 rx
  | ok r S1 =>
    rw [z] at h
    intro v ρ1 H1 s1 k1 rr
    have q1 := q.next k1
    dsimp only [Res.bind] at h
    cases r with
    | l f ds =>
      obtain ⟨P1, hp, s1', rr1⟩ := protect s1 rr
      obtain ⟨a, vs, rfl, e1, e2⟩ := rr1
      exact h P1 ρ1 H1 hp s1' (q1.more hp) k1 a ⟨vs, e1, e2⟩
    | d x =>
      dsimp only at h
      cases z : ofSeq x S1 with
      | bad => rw [z] at h; exact h.elim
      | ex c p S' => exact (ofSeq_ex z).elim
      | ok y S' =>
        rw [z] at h
        obtain ⟨rfl, a, rfl, at_⟩ := ofSeq_at (P := P) rr z
        exact h P ρ1 H1 (fun _ _ e => e) s1 q1 k1 a at_

def iSeq (K : PySem.W.Frag) (tl : TE) : TI := fun σ H R => tl σ H fun x H1 => ∃ a, x = .ref a ∧ (((∃ xs, SqL K H1 a xs) ∧ R (Itl K a) H1) ∨ ((∃ xs, SqT K H1 a xs) ∧ R (Itt K a) H1))
theorem pi_seq {tg l : Expr} {tl : TE} (hl : PE X l tl) : PI X tg l (iSeq X.K tl) := by
  refine ⟨fun pins s σ H R I h => ?_⟩
  refine thn (hl.run pins s σ H _ I h) fun v s1 ⟨x, H1, I1, r1, q1⟩ => ?_
  obtain ⟨a, e, q1⟩ := q1
  subst e
  cases r1
  rcases q1 with ⟨⟨xs, hq⟩, q⟩ | ⟨⟨xs, hq⟩, q⟩
  · obtain ⟨its, rv, p, hz⟩ := I1.list hq
    refine wpAny_pyIter_list p.isList ?_
    refine ⟨s1.heap.objs.size, [s1.heap.objs.size], _, _, H1, rfl, I1.kept (t' := s1.toks) fun b o e => Heap.get?_push_of_some _ e, turn_list a _, ⟨_, Heap.get?_push_size _ rfl, rfl, rfl⟩, fun b hb => ?_, q⟩
    have e : b = s1.heap.objs.size := by simpa using hb
    subst e
    exact I1.fpOk (Nat.le_refl _) (I1.hok.fresh (Nat.le_refl _))
  · obtain ⟨its, rv, p, hz⟩ := I1.tuple hq
    refine wpAny_pyIter_tuple (show s1.heap.IsTuple a its.toArray from p) ?_
    refine ⟨s1.heap.objs.size, [s1.heap.objs.size], _, _, H1, rfl, I1.kept (t' := s1.toks) fun b o e => Heap.get?_push_of_some _ e, turn_tuple a _, ⟨_, Heap.get?_push_size _ rfl, rfl, rfl⟩, fun b hb => ?_, q⟩
    have e : b = s1.heap.objs.size := by simpa using hb
    subst e
    exact I1.fpOk (Nat.le_refl _) (I1.hok.fresh (Nat.le_refl _))
def miSeq (mq : MQ) : MI := fun es S => (mq es S).bind fun x S1 => .ok (x.1, chk x.2 x.1) S1
theorem AftQ.imp {T : Type} {P : Hp} {ρ : List Addr} {H : Hp} {σ : St} {es : Env} {r : Res T} {R R' : T → Store → Hp → List Addr → Hp → Prop} (h : AftQ G W Rl P ρ H σ es r R)
    (k : ∀ x S' P' ρ' H', r = .ok x S' → (∀ a o, P a = some o → P' a = some o) → VS G P' ρ' H' S' → Rl P' ρ' H' σ es → TK ρ H ρ' H' → R x S' P' ρ' H' → R' x S' P' ρ' H') : AftQ G W Rl P ρ H σ es r R' := by
  cases r with
  | ok x S' => exact fun P' ρ' H' hp s q t => k x S' P' ρ' H' rfl hp s q t (h P' ρ' H' hp s q t)
  | ex c p S' => exact h
  | bad => exact h
def Low (Rl : RL) : Prop := ∀ P P' ρ H ρ' H' σ es, Rl P ρ H σ es → (∀ a o, P a = some o → P' a = some o) → TK ρ H ρ' H' → Rl P' ρ' H' σ es → Rl P ρ' H' σ es
theorem lowSS : Low (SS G) := fun _ _ _ _ _ _ _ _ q hp k q' => q.less hp (TKS.of k) q'
theorem lowES : Low (ES G) := fun _ _ _ _ _ _ _ _ q _ k _ => q.next k
theorem AftQ.bindOk {T U : Type} {P : Hp} {ρ : List Addr} {H : Hp} {σ : St} {es : Env} {r : Res T} {f : T → Store → Res U} {R : U → Store → Hp → List Addr → Hp → Prop} (lw : Low Rl) (q0 : Rl P ρ H σ es) (h : AftQ G W Rl P ρ H σ es (r.bind f) R) :
    AftQ G W Rl P ρ H σ es r (fun x S' P' ρ' H' => AftQ G W Rl P' ρ' H' σ es (f x S') R) := by
  cases r with
  | ok x S' =>
    intro P' ρ' H' hp s q t
    have h' : AftQ G W Rl P ρ H σ es (f x S') R := h
    cases e : f x S' with
    | ok y S'' =>
      rw [e] at h'
      exact fun P'' ρ'' H'' hp2 s2 q2 t2 => h' P'' ρ'' H'' (fun a o z => hp2 a o (hp a o z)) s2 q2 (t.trans t2)
    | ex c p S'' =>
      rw [e] at h'
      exact fun cls d ρ'' H'' s2 q2 t2 rx => h' cls d ρ'' H'' (s2.less hp) (lw P P' ρ H ρ'' H'' σ es q0 hp (t.trans t2) q2) (t.trans t2) rx
    | bad => rw [e] at h'; exact h'
  | ex c p S' => exact h
  | bad => exact h
theorem si_seq {tg : Expr} {mq : MQ} (ha : SQ G W Rl X e mq) : SIt G W Rl X tg e (miSeq mq) := by
  obtain ⟨k, te, pe, ok⟩ := ha
  refine ⟨k, _, pi_seq pe, fun P ρ H S σ es R s q h => ?_⟩
  refine ok P ρ H S σ es _ s q ?_
  unfold miSeq at h
  cases z : mq es S with
  | bad => rw [z] at h; exact h
  | ex c p S1 => rw [z] at h; exact h
  | ok x S1 =>
    rw [z] at h
    intro P' ρ' H' hp s' q' t a at_
    have h' := h P' ρ' H' hp s' q' t
    rw [k]
    refine ⟨a, rfl, ?_⟩
    cases ht : isT x.2 with
    | false =>
      obtain ⟨vs, e, _⟩ := at_.list s' ht
      exact .inl ⟨⟨vs, SqL.of e⟩, h' _ (drv_list at_ ht)⟩
    | true =>
      obtain ⟨vs, e, _⟩ := at_.tuple ht
      exact .inr ⟨⟨vs, e⟩, h' _ (drv_tup at_ ht)⟩
end
end DM
namespace DM
open PySem PySem.Spec PyProof.Rows L2
def SqK (K : PySem.W.Frag) (t : Bool) (H : Hp) (a : Addr) (xs : List V) : Prop := match t with
  | true => SqT K H a xs
  | false => SqL K H a xs
def ItK (t : Bool) (h : Heap) (it a : Addr) (i : Nat) : Prop := match t with
  | true => h.IsTupleIter it a i
  | false => h.IsListIter it a i
theorem ItK.at_ {t : Bool} {h h' : Heap} {it a : Addr} {i : Nat} (q : ItK t h it a i) (k : ∀ o, h.get? it = some o → h'.get? it = some o) : ItK t h' it a i := by
  cases t
  · exact Heap.IsListIter.at q fun o e => k o e
  · exact Heap.IsTupleIter.at q fun o e => k o e
theorem ItK.obj {t : Bool} {h : Heap} {it a : Addr} {i : Nat} (q : ItK t h it a i) : ∃ o, h.get? it = some o ∧ ∀ v, o.data ≠ .cell v := by
  cases t
  · obtain ⟨o, e, _, d⟩ := q
    exact ⟨o, e, fun v z => by rw [d] at z; cases z⟩
  · obtain ⟨o, e, _, d⟩ := q
    exact ⟨o, e, fun v z => by rw [d] at z; cases z⟩
section
variable {X : Cx} {pins : List (Addr × Obj)} {σ : L2.St} {H : Hp} {s : Shared} {a : Addr} {xs ys : List V} {t : Bool}
end
end DM
namespace DM
open PySem PySem.Spec L2
section
variable {G : GT} {P : Hp} {ρ : List Addr} {H : Hp} {S : Store} {k k2 : SK} {ds es : List D} {a b : Addr}
theorem SeqAt.kind (h : SeqAt G P ρ H S k ds a) (s : VS G P ρ H S) : ∃ vs, SqK G.K (isT k) H a vs ∧ Reps G ρ H ds vs := by
  cases ht : isT k with
  | false =>
    obtain ⟨vs, e, r⟩ := h.list s ht
    exact ⟨vs, SqL.of e, r⟩
  | true =>
    obtain ⟨vs, e, r⟩ := h.tuple ht
    exact ⟨vs, e, r⟩
end
end DM

namespace DM
open PySem PySem.Spec L2

open Classical in
noncomputable def miRng1 (m : ME) : MI := fun es S => (eArgs [m] es S).bind fun rs S1 => match rs with
  | [.d (.int n)] => if -(2 ^ 62) ≤ n ∧ n < 2 ^ 62 then .ok ((List.range n.toNat).map fun (i : Nat) => D.int (i : Int), fun _ => True) S1 else .bad
  | _ => .bad
open Classical in
noncomputable def miRng2 (m n : ME) : MI := fun es S => (eArgs [m, n] es S).bind fun rs S1 => match rs with
  | [.d (.int a), .d (.int b)] => if -(2 ^ 62) ≤ a ∧ a < 2 ^ 62 ∧ -(2 ^ 62) ≤ b ∧ b < 2 ^ 62 then .ok ((List.range (b - a).toNat).map fun (i : Nat) => D.int (a + (i : Int)), fun _ => True) S1 else .bad
  | _ => .bad
open Classical in
noncomputable def miRng3 (m n k : ME) : MI := fun es S => (eArgs [m, n, k] es S).bind fun rs S1 => match rs with
  | [.d (.int a), .d (.int b), .d (.int c)] => if RgC a b c (Builtin.Range.rangeSize a b c).toNat then .ok ((List.range (Builtin.Range.rangeSize a b c).toNat).map fun (i : Nat) => D.int (a + (i : Int) * c), fun _ => True) S1 else .bad
  | _ => .bad
open Classical in
noncomputable def miZip (m n : MQ) : MI := fun es S => (m es S).bind fun x S1 => (n es S1).bind fun y S2 =>
  if isT x.2 = isT y.2 ∧ chk x.2 x.1 S2 then .ok (zipD x.1 y.1, fun S => chk x.2 x.1 S ∧ chk y.2 y.1 S) S2 else .bad
open Classical in
noncomputable def miEnum (m : MQ) : MI := fun es S => (m es S).bind fun x S1 => if isT x.2 = false then .ok (enumD x.1, chk x.2 x.1) S1 else .bad

theorem args_any {G : GT} {W : WX} {X : Cx} {as : List Expr} {ms : List ME} (ha : SA G W X as ms) : ∃ ta, PA X as ta ∧
    (∀ P ρ H S σ es (Q : List V → Hp → Prop), VS G P ρ H S → SS G P ρ H σ es → AftQ G W (SS G) P ρ H σ es (eArgs ms es S) (fun rs S' P' ρ' H' => ∀ vs P2, RRs G P2 ρ' H' rs vs → Q vs H') → ta σ H Q) ∧
    (∀ P ρ H S σ es (Q : List V → Hp → Prop), VS G P ρ H S → ES G P ρ H σ es → AftQ G W (ES G) P ρ H σ es (eArgs ms es S) (fun rs S' P' ρ' H' => ∀ vs P2, RRs G P2 ρ' H' rs vs → Q vs H') → ta σ H Q) := by
  refine ⟨_, ha.pa, fun P ρ H S σ es Q s q h => ?_, fun P ρ H S σ es Q s q h => ?_⟩
  · refine ⟨_, ρ, es, S, q.vs s, q.toES, ?_⟩
    cases e : eArgs ms es S with
    | bad => rw [e] at h; exact h
    | ex c p S1 =>
      rw [e] at h
      exact fun cls d ρ1 H1 s1 k1 rx => h cls d ρ1 H1 (s1.less q.sub) (q.next s1 k1) k1 rx
    | ok rs S1 =>
      rw [e] at h
      intro vs P' ρ' H' hp s' t rrs
      have s2 : VS G (plus P H σ es) ρ' H' S1 := s'.less hp
      exact h P ρ' H' (fun _ _ e => e) (s2.less q.sub) (q.next s2 t) t vs P' rrs
  · refine ⟨P, ρ, es, S, s, q, ?_⟩
    cases e : eArgs ms es S with
    | bad => rw [e] at h; exact h
    | ex c p S1 =>
      rw [e] at h
      exact fun cls d ρ1 H1 s1 k1 rx => h cls d ρ1 H1 s1 (q.next k1) k1 rx
    | ok rs S1 =>
      rw [e] at h
      intro vs P' ρ' H' hp s' t rrs
      exact h P ρ' H' (fun _ _ e => e) (s'.less hp) (q.next t) t vs P' rrs
theorem rrs_i1 {G : GT} {P : Hp} {ρ : List Addr} {H : Hp} {n : Int} {vs : List V} (h : RRs G P ρ H [.d (.int n)] vs) : vs = [.int n] := by
  cases h with
  | cons h t =>
    cases t
    cases h
    rfl
theorem rrs_i2 {G : GT} {P : Hp} {ρ : List Addr} {H : Hp} {n m : Int} {vs : List V} (h : RRs G P ρ H [.d (.int n), .d (.int m)] vs) : vs = [.int n, .int m] := by
  cases h with
  | cons h t =>
    cases h
    rw [rrs_i1 t]
section
variable {G : GT} {W : WX} {X : Cx} {tg a b c : Expr} {ma mb mc : ME} {p pos : Pos}
theorem rng1_core {Rl : RL} {ta : TA} (lw : Low Rl) (hta : ∀ P ρ H S σ es (Q : List V → Hp → Prop), VS G P ρ H S → Rl P ρ H σ es → AftQ G W Rl P ρ H σ es (eArgs [ma] es S) (fun rs S' P' ρ' H' => ∀ vs P2, RRs G P2 ρ' H' rs vs → Q vs H') → ta σ H Q) :
    ∀ P ρ H S σ es (R : L2.It → Hp → Prop), VS G P ρ H S → Rl P ρ H σ es → AftQ G W Rl P ρ H σ es (miRng1 ma es S) (fun x S' P' ρ' H' => ∀ J, Drv G P' ρ' H' J x.1 x.2 → R J H') → iRng1 ta σ H R := by
  intro P ρ H S σ es R s q h
  refine hta P ρ H S σ es _ s q (AftQ.imp (AftQ.bindOk lw q h) fun rs S' P' ρ' H' e hp s' q' t h vs P2 rrs => ?_)
  split at h
  · rename_i n
    split at h
    · rename_i hb
      have hv := rrs_i1 rrs
      refine ⟨n, hv, hb.1, hb.2, ?_⟩
      have := h P' ρ' H' (fun _ _ e => e) s' q' (TK.refl _ _) (Itr 0 n.toNat)
      refine this ?_
      have d := drv_rng (G := G) (P := P') (ρ := ρ') (H := H') (lo := 0) (n := n.toNat)
      simp only [Int.zero_add] at d
      exact d
    · exact h.elim
  · exact h.elim
theorem rng2_core {Rl : RL} {ta : TA} (lw : Low Rl) (hta : ∀ P ρ H S σ es (Q : List V → Hp → Prop), VS G P ρ H S → Rl P ρ H σ es → AftQ G W Rl P ρ H σ es (eArgs [ma, mb] es S) (fun rs S' P' ρ' H' => ∀ vs P2, RRs G P2 ρ' H' rs vs → Q vs H') → ta σ H Q) :
    ∀ P ρ H S σ es (R : L2.It → Hp → Prop), VS G P ρ H S → Rl P ρ H σ es → AftQ G W Rl P ρ H σ es (miRng2 ma mb es S) (fun x S' P' ρ' H' => ∀ J, Drv G P' ρ' H' J x.1 x.2 → R J H') → iRng2 ta σ H R := by
  intro P ρ H S σ es R s q h
  refine hta P ρ H S σ es _ s q (AftQ.imp (AftQ.bindOk lw q h) fun rs S' P' ρ' H' e hp s' q' t h vs P2 rrs => ?_)
  split at h
  · rename_i n m
    split at h
    · rename_i hb
      have hv := rrs_i2 rrs
      exact ⟨n, m, hv, hb, h P' ρ' H' (fun _ _ e => e) s' q' (TK.refl _ _) (Itr n (m - n).toNat) drv_rng⟩
    · exact h.elim
  · exact h.elim
theorem si_rng1 (ha : SA G W X [a] [ma]) (hg : Gl X "range") (hm : X.mg "range" = none) (hs : starEach [a] X.env = [(false, eval a X.env)] := by rfl) : SIt G W (SS G) X tg (.Call (.Name "range" p) [a] [] pos) (miRng1 ma) := by
  obtain ⟨ta, pa, h1, h2⟩ := args_any ha
  exact ⟨ha.k, _, pi_range1 hg hm pa hs, rng1_core lowSS h1⟩
theorem sc_rng1 (ha : SA G W X [a] [ma]) (hg : Gl X "range") (hm : X.mg "range" = none) (hs : starEach [a] X.env = [(false, eval a X.env)] := by rfl) : SIt G W (ES G) X tg (.Call (.Name "range" p) [a] [] pos) (miRng1 ma) := by
  obtain ⟨ta, pa, h1, h2⟩ := args_any ha
  exact ⟨ha.k, _, pi_range1 hg hm pa hs, rng1_core lowES h2⟩
theorem sc_rng2 (ha : SA G W X [a, b] [ma, mb]) (hg : Gl X "range") (hm : X.mg "range" = none) (hs : starEach [a, b] X.env = [(false, eval a X.env), (false, eval b X.env)] := by rfl) (hs2 : starEach [b] X.env = [(false, eval b X.env)] := by rfl) : SIt G W (ES G) X tg (.Call (.Name "range" p) [a, b] [] pos) (miRng2 ma mb) := by
  obtain ⟨ta, pa, h1, h2⟩ := args_any ha
  exact ⟨ha.k, _, pi_range2 hg hm pa hs hs2, rng2_core lowES h2⟩
end

open Classical in
noncomputable def forL (ck : Store → Prop) (g : MG) (b : MS) : List D → MS
  | [] => fun es S => if ck S then .nx es S else .bad
  | x :: xs => fun es S => if ck S then (match g x es with
    | some es1 => (match b es1 S with
      | .nx es2 S2 => forL ck g b xs es2 S2
      | .ct es2 S2 => forL ck g b xs es2 S2
      | .bk es2 S2 => .nx es2 S2
      | r => r)
    | none => .bad) else .bad
noncomputable def sFor (mi : MI) (g : MG) (b : MS) : MS := fun es S => bindS (mi es S) es fun x S1 => forL x.2 g b x.1 es S1
def sWhile (c : MB) (b : MS) : Nat → MS
  | 0 => fun _ _ => .bad
  | n + 1 => fun es S => bindS (c es S) es fun x S1 => if x = true then (match b es S1 with
    | .nx es2 S2 => sWhile c b n es2 S2
    | .ct es2 S2 => sWhile c b n es2 S2
    | .bk es2 S2 => .nx es2 S2
    | r => r) else .nx es S1
section
variable {G : GT} {W : WX} {X : Cx} {tg iter c : Expr} {body : List Stmt} {mi : MI} {mg : MG} {mb : MS} {ix : List Nat} {pos : Pos}
theorem sp_for (hp : PassesOwn (model X.prog X.w) X.A X.env X.xe) (hc : X.calm = true) (hi : SIt G W (SS G) X tg iter mi) (hg : SG G X tg ix mg) (hb : SPs G W X body mb)
    (hs : ∀ x, foldedSetIterable iter X.env x = pure x := by intro _; rfl) : SP1 G W X (.For tg iter body [] pos) (sFor mi mg mb) := by
  obtain ⟨k, wi, pi, ok⟩ := hi
  obtain ⟨t, pg, okg⟩ := hg
  refine ⟨k, PS.of (ps_for hp hc pi pg hb.pss hs) fun D σ H h => ?_⟩
  obtain ⟨P, ρ, es, S, s, q, h⟩ := h
  refine ok P ρ H S σ es _ s q ?_
  unfold sFor at h
  cases z : mi es S with
  | bad => rw [z] at h; exact h
  | ex c p S1 => rw [z] at h; exact fun cls d ρ1 H1 s1 q1 k1 rx => h cls d σ ρ1 H1 s1 q1 (TKS.of k1) rx
  | ok x S1 =>
    rw [z] at h
    obtain ⟨xs, ck⟩ := x
    intro P' ρ1 H1 hp' s1 q1 t1 J dv
    have h : AftS G W P ρ H σ es (forL ck mg mb xs es S1) D := h
    have h0 : AftS G W P' ρ1 H1 σ es (forL ck mg mb xs es S1) D := by
      have := AftS.more q hp' h
      exact AftS.next (TKS.of t1) this
    refine ⟨fun i m σ2 H2 => ∃ ρ2 es2 S2, VS G P' ρ2 H2 S2 ∧ SS G P' ρ2 H2 σ2 es2 ∧ TKS ρ1 H1 σ es ρ2 H2 σ2 es2 ∧ i + m = xs.length ∧ AftS G W P' ρ2 H2 σ2 es2 (forL ck mg mb (xs.drop i) es2 S2) D,
      ⟨xs.length, ρ1, es, S1, s1, q1, TKS.refl _ _ _ _, by omega, by simpa using h0⟩, fun i m σ2 H2 hW => ?_⟩
    obtain ⟨ρ2, es2, S2, s2, q2, t2, hm, h2⟩ := hW
    cases hx : xs.drop i with
    | nil =>
      rw [hx] at h2
      have hi : i = xs.length := by
        have := List.drop_eq_nil_iff.mp hx
        omega
      unfold forL at h2
      split at h2
      · rename_i hck
        exact .inl ⟨(dv i ρ2 H2 S2 s2 t2.tk hck).1 hi, h2 σ2 ρ2 H2 s2 q2 (TKS.refl _ _ _ _)⟩
      · exact h2.elim
    | cons d r =>
      rw [hx] at h2
      have hd : xs[i]? = some d := by
        have : (xs.drop i)[0]? = some d := by rw [hx]; rfl
        rw [List.getElem?_drop, Nat.add_zero] at this
        exact this
      have hr : xs.drop (i + 1) = r := by
        have : (xs.drop i).drop 1 = r := by rw [hx]; rfl
        rw [List.drop_drop] at this
        exact this
      have hil : i < xs.length := (List.getElem?_eq_some_iff.mp hd).1
      unfold forL at h2
      split at h2
      · rename_i hck
        obtain ⟨_, dv2⟩ := dv i ρ2 H2 S2 s2 t2.tk hck
        obtain ⟨go, yl⟩ := dv2 d hd
        refine .inr ⟨go, fun σ3 H3 => ∃ ρ3 es3 S3, VS G P' ρ3 H3 S3 ∧ SS G P' ρ3 H3 σ3 es3 ∧ TKS ρ1 H1 σ es ρ3 H3 σ3 es3 ∧ AftS G W P' ρ3 H3 σ3 es3 (forL ck mg mb r es3 S3) D, fun σ3 H3 hN => ?_, fun v H3 hy => ?_⟩
        · obtain ⟨ρ3, es3, S3, s3, q3, t3, h3⟩ := hN
          exact ⟨m - 1, by omega, ρ3, es3, S3, s3, q3, t3, by omega, by rw [hr]; exact h3⟩
        · obtain ⟨gr, rv⟩ := yl v H3 hy
          have tk3 : TK ρ2 H2 ρ2 H3 := TK.same gr
          have s3 : VS G P' ρ2 H3 S2 := s2.grow gr
          have q3 : SS G P' ρ2 H3 σ2 es2 := by
            refine ⟨q2.len, fun i d e => ?_, fun i ds e => ?_, fun i ds e => ?_, q2.dis⟩
            · obtain ⟨x, h1, h2⟩ := q2.val i d e
              exact ⟨x, h1, h2.mono tk3⟩
            · obtain ⟨a, vs, e1, e2, e3⟩ := q2.bor i ds e
              exact ⟨a, vs, e1, e2, e3.mono tk3⟩
            · obtain ⟨a, vs, e1, e2, e3, e4, e5⟩ := q2.own i ds e
              exact ⟨a, vs, e1, gr _ _ e2, e3.mono tk3, e4, e5⟩
          cases zg : mg d es2 with
          | none => rw [zg] at h2; exact h2.elim
          | some es3 =>
            rw [zg] at h2
            refine okg ρ2 H3 σ2 es2 es3 d v _ rv zg fun σ3 st => ?_
            refine ⟨P', ρ2, es3, S2, s3, st.ss P' q3, ?_⟩
            have tt : TKS ρ2 H2 σ2 es2 ρ2 H3 σ3 es3 := (TKS.of tk3).trans st.tk
            have h3 := AftS.next tt h2
            dsimp only at h3
            cases zb : mb es3 S2 with
            | nx es4 S4 =>
              rw [zb] at h3
              exact fun σ4 ρ4 H4 s4 q4 t4 => ⟨ρ4, es4, S4, s4, q4, (t2.trans tt).trans t4, AftS.next t4 h3⟩
            | ct es4 S4 =>
              rw [zb] at h3
              exact fun σ4 ρ4 H4 s4 q4 t4 => ⟨ρ4, es4, S4, s4, q4, (t2.trans tt).trans t4, AftS.next t4 h3⟩
            | bk es4 S4 => rw [zb] at h3; exact h3
            | rt rr S4 => rw [zb] at h3; exact h3
            | ex c p es4 S4 => rw [zb] at h3; exact h3
            | bad => rw [zb] at h3; exact h3
      · exact h2.elim
theorem sp_while {mc : MB} {n : Nat} (hp : PassesOwn (model X.prog X.w) X.A X.env X.xe) (hc : SB G W X c mc) (hb : SPs G W X body mb) : SP1 G W X (.While c body [] pos) (sWhile mc mb n) := by
  refine ⟨hc.k, PS.of (ps_while hp hc.pt hb.pss) fun D σ H h => ?_⟩
  obtain ⟨P, ρ, es, S, s, q, h⟩ := h
  refine ⟨fun m σ2 H2 => ∃ ρ2 es2 S2, VS G P ρ2 H2 S2 ∧ SS G P ρ2 H2 σ2 es2 ∧ AftS G W P ρ2 H2 σ2 es2 (sWhile mc mb m es2 S2) D, ⟨n, ρ, es, S, s, q, h⟩, fun m σ2 H2 hW => ?_⟩
  obtain ⟨ρ2, es2, S2, s2, q2, h2⟩ := hW
  cases m with
  | zero => exact h2.elim
  | succ m =>
    unfold sWhile at h2
    refine st_thenB s2 q2 h2 fun r S3 ρ3 H3 s3 q3 k3 h3 => ?_
    cases r with
    | false => exact h3 σ2 ρ3 H3 (s3.less q2.sub) q3 (TKS.refl _ _ _ _)
    | true =>
      show ∃ N : St → Hp → Prop, _
      refine ⟨fun σ4 H4 => ∃ ρ4 es4 S4, VS G P ρ4 H4 S4 ∧ SS G P ρ4 H4 σ4 es4 ∧ AftS G W P ρ4 H4 σ4 es4 (sWhile mc mb m es4 S4) D, fun σ4 H4 hN => ⟨m, Nat.lt_succ_self m, hN⟩, P, ρ3, es2, S3, s3.less q2.sub, q3, ?_⟩
      have h3 : AftS G W P ρ3 H3 σ2 es2 (match mb es2 S3 with
        | .nx es2 S2 => sWhile mc mb m es2 S2
        | .ct es2 S2 => sWhile mc mb m es2 S2
        | .bk es2 S2 => .nx es2 S2
        | r => r) D := h3
      cases zb : mb es2 S3 with
      | nx es4 S4 => rw [zb] at h3; exact fun σ4 ρ4 H4 s4 q4 t4 => ⟨ρ4, es4, S4, s4, q4, AftS.next t4 h3⟩
      | ct es4 S4 => rw [zb] at h3; exact fun σ4 ρ4 H4 s4 q4 t4 => ⟨ρ4, es4, S4, s4, q4, AftS.next t4 h3⟩
      | bk es4 S4 => rw [zb] at h3; exact h3
      | rt rr S4 => rw [zb] at h3; exact h3
      | ex c p es4 S4 => rw [zb] at h3; exact h3
      | bad => rw [zb] at h3; exact h3
def frzS (i : Nat) (es : Env) : Env := match es[i]? with
  | some (.own ds) => es.set i (.bor ds)
  | _ => es
def unfS (i : Nat) (es0 es : Env) : Env := match es0[i]?, es[i]? with
  | some (.own ds), some (.bor _) => es.set i (.own ds)
  | _, _ => es
def sFrz (i : Nat) (m : MS) : MS := fun es S => match m (frzS i es) S with
  | .nx es' S' => .nx (unfS i es es') S'
  | .bk es' S' => .bk (unfS i es es') S'
  | .ct es' S' => .ct (unfS i es es') S'
  | .ex c p es' S' => .ex c p (unfS i es es') S'
  | r => r
theorem unf_ok {P : Hp} {ρ ρ' : List Addr} {H H' : Hp} {S S' : Store} {σ σ' : St} {es es' : Env} {i : Nat} {ds : List D} {a : Addr} {vs : List V} (s : VS G P ρ H S) (q : SS G P ρ H σ es) (ei : es[i]? = some (.own ds)) (ea : σ[i]? = some (some (.ref a))) (eH : H a = some (.lst vs)) (er : Reps G ρ H ds vs)
    (pa : P a = none) (s' : VS G (upd P a (.lst vs)) ρ' H' S') (q' : SS G (upd P a (.lst vs)) ρ' H' σ' es') (t : TKS ρ H σ (es.set i (.bor ds)) ρ' H' σ' es') :
    VS G P ρ' H' S' ∧ SS G P ρ' H' σ' (unfS i es es') ∧ TKS ρ H σ es ρ' H' σ' (unfS i es es') := by
  have hp : ∀ b o, P b = some o → upd P a (.lst vs) b = some o := fun b o e => by rw [upd_ne (fun z => by rw [z, pa] at e; cases e)]; exact e
  have hal : H' a = some (.lst vs) ∧ a ∉ ρ' := s'.pr a _ upd_same
  have hil : i < es.length := (List.getElem?_eq_some_iff.mp ei).1
  have bj : ∀ (j : Nat) es2, j ≠ i → es'[j]? = some (.bor es2) → es[j]? = some (.bor es2) ∧ σ'[j]? = σ[j]? := fun j es2 hj h => by
    obtain ⟨h1, h2⟩ := t.bor j es2 h
    rw [List.getElem?_set_ne (Ne.symm hj)] at h1
    exact ⟨h1, h2⟩
  have bor : ∀ (j : Nat) es2, j ≠ i → es'[j]? = some (.bor es2) → ∃ b us, σ'[j]? = some (some (.ref b)) ∧ P b = some (.lst us) ∧ Reps G ρ' H' es2 us := fun j es2 hj h => by
    obtain ⟨h1, h2⟩ := bj j es2 hj h
    obtain ⟨b, us, y1, y2, y3⟩ := q.bor j es2 h1
    exact ⟨b, us, h2.trans y1, y2, y3.mono t.tk⟩
  have own : ∀ (j : Nat) es2, es'[j]? = some (.own es2) → ∃ b us, σ'[j]? = some (some (.ref b)) ∧ H' b = some (.lst us) ∧ Reps G ρ' H' es2 us ∧ b ∉ ρ' ∧ P b = none ∧ b ≠ a := fun j es2 h => by
    obtain ⟨b, us, y1, y2, y3, y4, y5⟩ := q'.own j es2 h
    have hb : b ≠ a := fun z => by rw [z, upd_same] at y5; cases y5
    rw [upd_ne hb] at y5
    exact ⟨b, us, y1, y2, y3, y4, y5, hb⟩
  refine ⟨s'.less hp, ?_⟩
  unfold unfS
  rw [ei]
  cases e : es'[i]? with
  | none =>
    refine ⟨⟨q'.len, q'.val, fun j es2 h => bor j es2 (fun z => by rw [z, e] at h; cases h) h, fun j es2 h => let ⟨b, us, y1, y2, y3, y4, y5, _⟩ := own j es2 h; ⟨b, us, y1, y2, y3, y4, y5⟩, q'.dis⟩, t.tk, fun j es2 h => bj j es2 (fun z => by rw [z, e] at h; cases h) h⟩
  | some sl =>
    cases sl with
    | bor ds' =>
      obtain ⟨h1, h2⟩ := t.bor i ds' e
      rw [List.getElem?_set_self hil] at h1
      have hd : ds = ds' := by injection h1 with h1; injection h1
      subst hd
      have ha' : σ'[i]? = some (some (.ref a)) := h2.trans ea
      have hl' : i < es'.length := (List.getElem?_eq_some_iff.mp e).1
      dsimp only
      refine ⟨⟨by rw [List.length_set]; exact q'.len, fun j d h => ?_, fun j es2 h => ?_, fun j es2 h => ?_, fun j k d1 d2 b h1 h2 h3 h4 => ?_⟩, t.tk, fun j es2 h => ?_⟩
      · rcases get_set h with ⟨rfl, hl, z⟩ | ⟨hn, h⟩
        · cases z
        · exact q'.val j d h
      · rcases get_set h with ⟨rfl, hl, z⟩ | ⟨hn, h⟩
        · cases z
        · exact bor j es2 (Ne.symm hn) h
      · rcases get_set h with ⟨rfl, hl, z⟩ | ⟨hn, h⟩
        · cases z
          exact ⟨a, vs, ha', hal.1, er.mono t.tk, hal.2, pa⟩
        · obtain ⟨b, us, y1, y2, y3, y4, y5, _⟩ := own j es2 h
          exact ⟨b, us, y1, y2, y3, y4, y5⟩
      · rcases get_set h1 with ⟨rfl, hl, z⟩ | ⟨hn, h1⟩
        · rcases get_set h2 with ⟨rfl, hl, z⟩ | ⟨hn2, h2⟩
          · rfl
          · obtain ⟨c, us, y1, _, _, _, _, y6⟩ := own k d2 h2
            rw [ha'] at h3
            cases h3
            rw [h4] at y1
            cases y1
            exact absurd rfl y6
        · rcases get_set h2 with ⟨rfl, hl, z⟩ | ⟨hn2, h2⟩
          · obtain ⟨c, us, y1, _, _, _, _, y6⟩ := own j d1 h1
            rw [ha'] at h4
            cases h4
            rw [h3] at y1
            cases y1
            exact absurd rfl y6
          · exact q'.dis j k d1 d2 b h1 h2 h3 h4
      · rcases get_set h with ⟨rfl, hl, z⟩ | ⟨hn, h⟩
        · cases z
        · exact bj j es2 (Ne.symm hn) h
    | no =>
      refine ⟨⟨q'.len, q'.val, fun j es2 h => bor j es2 (fun z => by rw [z, e] at h; cases h) h, fun j es2 h => let ⟨b, us, y1, y2, y3, y4, y5, _⟩ := own j es2 h; ⟨b, us, y1, y2, y3, y4, y5⟩, q'.dis⟩, t.tk, fun j es2 h => bj j es2 (fun z => by rw [z, e] at h; cases h) h⟩
    | v x =>
      refine ⟨⟨q'.len, q'.val, fun j es2 h => bor j es2 (fun z => by rw [z, e] at h; cases h) h, fun j es2 h => let ⟨b, us, y1, y2, y3, y4, y5, _⟩ := own j es2 h; ⟨b, us, y1, y2, y3, y4, y5⟩, q'.dis⟩, t.tk, fun j es2 h => bj j es2 (fun z => by rw [z, e] at h; cases h) h⟩
    | own x =>
      refine ⟨⟨q'.len, q'.val, fun j es2 h => bor j es2 (fun z => by rw [z, e] at h; cases h) h, fun j es2 h => let ⟨b, us, y1, y2, y3, y4, y5, _⟩ := own j es2 h; ⟨b, us, y1, y2, y3, y4, y5⟩, q'.dis⟩, t.tk, fun j es2 h => bj j es2 (fun z => by rw [z, e] at h; cases h) h⟩
theorem sp_frz {st : Stmt} {m : MS} (i : Nat) (h : SP1 G W X st m) : SP1 G W X st (sFrz i m) := by
  refine ⟨h.k, PS.of h.ps fun D σ H h => ?_⟩
  obtain ⟨P, ρ, es, S, s, q, h⟩ := h
  have triv : frzS i es = es → (∀ es', unfS i es es' = es') → rdS G W m D σ H := fun e1 e2 => by
    refine ⟨P, ρ, es, S, s, q, ?_⟩
    unfold sFrz at h
    rw [e1] at h
    cases z : m es S with
    | nx es' S' => rw [z] at h; dsimp only at h; rw [e2] at h; exact h
    | bk es' S' => rw [z] at h; dsimp only at h; rw [e2] at h; exact h
    | ct es' S' => rw [z] at h; dsimp only at h; rw [e2] at h; exact h
    | ex c p es' S' => rw [z] at h; dsimp only at h; rw [e2] at h; exact h
    | rt r S' => rw [z] at h; exact h
    | bad => rw [z] at h; exact h
  cases ei : es[i]? with
  | none => exact triv (by unfold frzS; rw [ei]) fun es' => by unfold unfS; rw [ei]
  | some sl =>
    cases sl with
    | no => exact triv (by unfold frzS; rw [ei]) fun es' => by unfold unfS; rw [ei]
    | v x => exact triv (by unfold frzS; rw [ei]) fun es' => by unfold unfS; rw [ei]
    | bor x => exact triv (by unfold frzS; rw [ei]) fun es' => by unfold unfS; rw [ei]
    | own ds =>
      obtain ⟨a, vs, e1, e2, e3, e4, e5⟩ := q.own i ds ei
      have hp : ∀ b o, P b = some o → upd P a (.lst vs) b = some o := fun b o e => by rw [upd_ne (fun z => by rw [z, e5] at e; cases e)]; exact e
      have hil : i < es.length := (List.getElem?_eq_some_iff.mp ei).1
      have efr : frzS i es = es.set i (.bor ds) := by unfold frzS; rw [ei]
      refine ⟨upd P a (.lst vs), ρ, es.set i (.bor ds), S, ⟨s.len, s.nd, s.st, fun b o e => ?_⟩, ⟨by rw [List.length_set]; exact q.len, fun j d h => ?_, fun j es2 h => ?_, fun j es2 h => ?_, fun j k d1 d2 b h1 h2 h3 h4 => ?_⟩, ?_⟩
      · by_cases hb : b = a
        · subst hb; rw [upd_same] at e; cases e; exact ⟨e2, e4⟩
        · rw [upd_ne hb] at e; exact s.pr b o e
      · rcases get_set h with ⟨rfl, hl, z⟩ | ⟨hn, h⟩
        · cases z
        · exact q.val j d h
      · rcases get_set h with ⟨rfl, hl, z⟩ | ⟨hn, h⟩
        · cases z
          exact ⟨a, vs, e1, upd_same, e3⟩
        · obtain ⟨b, us, y1, y2, y3⟩ := q.bor j es2 h
          exact ⟨b, us, y1, hp _ _ y2, y3⟩
      · rcases get_set h with ⟨rfl, hl, z⟩ | ⟨hn, h⟩
        · cases z
        · obtain ⟨b, us, y1, y2, y3, y4, y5⟩ := q.own j es2 h
          refine ⟨b, us, y1, y2, y3, y4, ?_⟩
          rw [upd_ne (show b ≠ a from fun z => hn (q.dis i j _ _ a ei h e1 (by rw [z] at y1; exact y1)))]
          exact y5
      · rcases get_set h1 with ⟨rfl, hl, z⟩ | ⟨hn, h1⟩
        · cases z
        · rcases get_set h2 with ⟨rfl, hl, z⟩ | ⟨hn2, h2⟩
          · cases z
          · exact q.dis j k d1 d2 b h1 h2 h3 h4
      · unfold sFrz at h
        rw [efr] at h
        cases z : m (es.set i (.bor ds)) S with
        | nx es' S' =>
          rw [z] at h
          intro σ' ρ' H' s' q' t
          obtain ⟨y1, y2, y3⟩ := unf_ok s q ei e1 e2 e3 e5 s' q' t
          exact h σ' ρ' H' y1 y2 y3
        | bk es' S' =>
          rw [z] at h
          intro σ' ρ' H' s' q' t
          obtain ⟨y1, y2, y3⟩ := unf_ok s q ei e1 e2 e3 e5 s' q' t
          exact h σ' ρ' H' y1 y2 y3
        | ct es' S' =>
          rw [z] at h
          intro σ' ρ' H' s' q' t
          obtain ⟨y1, y2, y3⟩ := unf_ok s q ei e1 e2 e3 e5 s' q' t
          exact h σ' ρ' H' y1 y2 y3
        | ex c p es' S' =>
          rw [z] at h
          intro cls d σ' ρ' H' s' q' t rx
          obtain ⟨y1, y2, y3⟩ := unf_ok s q ei e1 e2 e3 e5 s' q' t
          exact h cls d σ' ρ' H' y1 y2 y3 rx
        | rt r S' =>
          rw [z] at h
          exact ⟨h.1, fun v ρ' H' s' t rr => h.2 v ρ' H' (s'.less hp) t (RR.less hp h.1 rr)⟩
        | bad => rw [z] at h; exact h.elim
end
end DM

namespace DM
open PySem PySem.Spec L2

abbrev W0 : WX := fun _ _ _ _ => False
def wipeE (es : Env) : List Nat → Env
  | [] => es
  | v :: vs => (wipeE es vs).set v .no
open Classical in
noncomputable def compL (ck : Store → Prop) (g : MG) (t : MB) (m : ME) (es : Env) : List D → Store → Res (List D)
  | [], S => if ck S then .ok [] S else .bad
  | x :: xs, S => if ck S then (match g x es with
    | some es1 => (t es1 S).bind fun b S1 => if b = true then ((m es1 S1).bind item).bind fun d S2 => (compL ck g t m es xs S2).bind fun ds S3 => .ok (d :: ds) S3 else compL ck g t m es xs S1
    | none => .bad) else .bad
def noEx {T : Type} (r : Res T) : Res T := match r with
  | .ex _ _ _ => .bad
  | r => r
def bYes : MB := fun _ S => .ok true S
open Classical in
noncomputable def eComp (mi : MI) (g : MG) (t : MB) (m : ME) (vs : List Nat) : ME := fun es S => (mi es S).bind fun x S1 =>
  if x.1.length ≤ sizeLine then (noEx (compL x.2 g t m (wipeE es vs) x.1 S1)).bind fun ds S2 => .ok (.l true ds) S2 else .bad
section
variable {G : GT} {P : Hp} {ρ : List Addr} {H : Hp} {σ : St} {es : Env}
theorem ES.setN (q : ES G P ρ H σ es) {i : Nat} {x : Option V} : ES G P ρ H (σ.set i x) (es.set i .no) := by
  have sg : ∀ (j : Nat), i ≠ j → (σ.set i x)[j]? = σ[j]? := fun j h => by rw [List.getElem?_set_ne h]
  refine ⟨by simp [q.len], fun j e h => ?_, fun j ds h => ?_⟩
  · rcases get_set h with ⟨rfl, hl, e1⟩ | ⟨hn, h⟩
    · cases e1
    · rw [sg j hn]; exact q.val j e h
  · rcases h with h | h
    · rcases get_set h with ⟨rfl, hl, e1⟩ | ⟨hn, h⟩
      · cases e1
      · rw [sg j hn]; exact q.lst j ds (.inl h)
    · rcases get_set h with ⟨rfl, hl, e1⟩ | ⟨hn, h⟩
      · cases e1
      · rw [sg j hn]; exact q.lst j ds (.inr h)
theorem ES.wipe (q : ES G P ρ H σ es) : ∀ vs : List Nat, ES G P ρ H (wipe σ vs) (wipeE es vs)
  | [] => q
  | v :: vs => (ES.wipe q vs).setN
end
structure STs (G : GT) (W : WX) (X : Cx) (ifs : List Expr) (m : MB) : Prop where
  k : X.K = G.K
  pts : PTs X ifs (rdB G W m)
theorem sts_nil {G : GT} {W : WX} {X : Cx} (k : X.K = G.K) : STs G W X [] bYes := by
  refine ⟨k, ⟨fun pins s σ H Q I h => pts_nil.run pins s σ H Q I ?_⟩⟩
  obtain ⟨P, ρ, es, S, s, q, h⟩ := h
  exact h ρ H s (TK.refl _ _)
theorem sts_one {G : GT} {W : WX} {X : Cx} {c : Expr} {m : MB} (h : SB G W X c m) : STs G W X [c] m := ⟨h.k, pts_one h.pt⟩

section
variable {G : GT} {W : WX} {X : Cx}
theorem comp_core {wi : TI} {g : TG} {ix : List Nat} {mi : MI} {mg : MG} {mt : MB} {me : ME} {vs : List Nat} {σ : St} {H : Hp} {Q : VK}
    (ok : ∀ P ρ H S σ es (R : L2.It → Hp → Prop), VS G P ρ H S → ES G P ρ H σ es → AftQ G W (ES G) P ρ H σ es (mi es S) (fun x S' P' ρ' H' => ∀ J, Drv G P' ρ' H' J x.1 x.2 → R J H') → wi σ H R)
    (okg : ∀ ρ H σ es es' x v (Q : St → Hp → Prop), Rep G ρ H x v → mg x es = some es' → (∀ σ', Stored G ix ρ H σ es σ' es' → Q σ' H) → g v σ H Q) (hix : ∀ i ∈ ix, i ∈ vs)
    (h : rdE G W (eComp mi mg mt me vs) σ H Q) : tLc wi g (rdB G W0 mt) (rdE G W0 me) vs σ H Q := by
  obtain ⟨P, ρ, es, S, s, q, h⟩ := h
  refine ok P ρ H S σ es _ s q ?_
  unfold eComp at h
  cases z : mi es S with
  | bad => rw [z] at h; exact h
  | ex c p S1 => rw [z] at h; exact fun cls d ρ1 H1 s1 q1 k1 rx => h cls d ρ1 H1 s1 k1 rx
  | ok x S1 =>
    rw [z] at h
    obtain ⟨xs, ck⟩ := x
    intro P' ρ1 H1 hp' s1 q1 t1 J dv
    dsimp only [Res.bind] at h
    split at h
    case isFalse => exact h.elim
    rename_i hz
    have h : Aft G (fun cls d H' => W cls d σ H') P ρ H ((noEx (compL ck mg mt me (wipeE es vs) xs S1)).bind fun ds S2 => .ok (.l true ds) S2) Q := h
    intro Dl hD
    -- the invariant: acc is made, the rest is to be made
    have fr := s1.free hD
    let Inv (i : Nat) (H2 : Hp) : Prop := ∃ ρ2 S2 acc av, VS G P' ρ2 H2 S2 ∧ TK ρ1 H1 ρ2 H2 ∧ H2 Dl = some (.lst av) ∧ Dl ∉ ρ2 ∧ Reps G ρ2 H2 acc av ∧ acc.length ≤ i ∧
      Aft G (fun cls d H' => W cls d σ H') P ρ2 H2 ((noEx (compL ck mg mt me (wipeE es vs) (xs.drop i) S2)).bind fun ds S3 => .ok (.l true (acc ++ ds)) S3) Q
    have g0 : ∀ a o, H1 a = some o → upd H1 Dl (.lst []) a = some o := fun a o e => by rw [upd_ne (ne_of_none e hD)]; exact e
    refine ⟨fun i m H2 => i + m = xs.length ∧ Inv i H2, ⟨xs.length, by omega, ρ1, S1, [], [], s1.grow g0, TK.same g0, upd_same, fr.1, .nil, Nat.le_refl _, ?_⟩, fun i m H2 hW => ?_⟩
    · have := Aft.next (t1.trans (TK.same g0)) h
      simpa using this
    obtain ⟨hm, ρ2, S2, acc, av, s2, t2, hDl, hnr, ra, hacc, h2⟩ := hW
    have pD : P' Dl = none := fr.2
    -- protection of the new list
    have hp2 : ∀ b o, P' b = some o → upd P' Dl (.lst av) b = some o := fun b o e => by rw [upd_ne (fun z => by rw [z, pD] at e; cases e)]; exact e
    have sP : VS G (upd P' Dl (.lst av)) ρ2 H2 S2 := ⟨s2.len, s2.nd, s2.st, fun b o e => by
      by_cases hb : b = Dl
      · subst hb; rw [upd_same] at e; cases e; exact ⟨hDl, hnr⟩
      · rw [upd_ne hb] at e; exact s2.pr b o e⟩
    cases hx : xs.drop i with
    | nil =>
      rw [hx] at h2
      have hi : i = xs.length := by
        have := List.drop_eq_nil_iff.mp hx
        omega
      unfold compL at h2
      split at h2
      · rename_i hck
        refine .inl ⟨(dv i ρ2 H2 S2 s2 t2 hck).1 hi, ?_⟩
        have h3 : Aft G (fun cls d H' => W cls d σ H') P ρ2 H2 (.ok (.l true (acc ++ [])) S2) Q := h2
        refine h3 (.ref Dl) ρ2 H2 (s2.less hp') (TK.refl _ _) ⟨Dl, av, rfl, hDl, by rw [List.append_nil]; exact ra, hnr, none_sub hp' pD⟩
      · exact h2.elim
    | cons d r =>
      rw [hx] at h2
      have hd : xs[i]? = some d := by
        have : (xs.drop i)[0]? = some d := by rw [hx]; rfl
        rw [List.getElem?_drop, Nat.add_zero] at this
        exact this
      have hr : xs.drop (i + 1) = r := by
        have : (xs.drop i).drop 1 = r := by rw [hx]; rfl
        rw [List.drop_drop] at this
        exact this
      have hil : i < xs.length := (List.getElem?_eq_some_iff.mp hd).1
      unfold compL at h2
      split at h2
      case isFalse => exact h2.elim
      rename_i hck
      obtain ⟨_, dv2⟩ := dv i ρ2 H2 S2 s2 t2 hck
      obtain ⟨go, yl⟩ := dv2 d hd
      refine .inr ⟨go, fun H3 => Inv (i + 1) H3, fun H3 hN => ⟨m - 1, by omega, by omega, hN⟩, fun v H3 hy => ?_⟩
      obtain ⟨gr, rv⟩ := yl v H3 hy
      have tk3 : TK ρ2 H2 ρ2 H3 := TK.same gr
      have s3 : VS G (upd P' Dl (.lst av)) ρ2 H3 S2 := sP.grow gr
      have q3 : ES G (upd P' Dl (.lst av)) ρ2 H3 (wipe σ vs) (wipeE es vs) := ((q1.next (t2.trans tk3)).more hp2).wipe vs
      cases zg : mg d (wipeE es vs) with
      | none => rw [zg] at h2; exact h2.elim
      | some es3 =>
        rw [zg] at h2
        refine okg ρ2 H3 (wipe σ vs) (wipeE es vs) es3 d v _ rv zg fun σ3 st => ⟨(st.wp vs hix).trans (by
          apply List.ext_getElem?
          intro j
          rw [wipe_get, wipe_get, wipe_length]
          by_cases hj : j ∈ vs <;> simp [hj]), ?_⟩
        have q4 := st.ee _ q3
        have h3 := Aft.next tk3 h2
        dsimp only at h3
        refine ⟨upd P' Dl (.lst av), ρ2, es3, S2, s3, q4, ?_⟩
        cases zt : mt es3 S2 with
        | bad => rw [zt] at h3; exact h3.elim
        | ex c p S3 => rw [zt] at h3; exact h3.elim
        | ok b S3 =>
          rw [zt] at h3
          intro ρ4 H4 s4 t4
          have h4 := Aft.next t4 h3
          cases b with
          | false =>
            show Inv (i + 1) H4
            refine ⟨ρ4, S3, acc, av, s4.less hp2, (t2.trans tk3).trans t4, (s4.pr Dl _ upd_same).1, (s4.pr Dl _ upd_same).2, ra.mono (tk3.trans t4), by omega, ?_⟩
            rw [hr]
            exact h4
          | true =>
            show rdE G W0 me σ3 H4 _
            refine ⟨upd P' Dl (.lst av), ρ4, es3, S3, s4, q4.next t4, ?_⟩
            have h4 : Aft G (fun cls d H' => W cls d σ H') P ρ4 H4 ((noEx (((me es3 S3).bind item).bind fun d S2 => (compL ck mg mt me (wipeE es vs) r S2).bind fun ds S3 => .ok (d :: ds) S3)).bind fun ds S3 => .ok (.l true (acc ++ ds)) S3) Q := h4
            cases zm : me es3 S3 with
            | bad => rw [zm] at h4; exact h4.elim
            | ex c p S4 => rw [zm] at h4; exact h4.elim
            | ok rv2 S4 =>
              rw [zm] at h4
              intro y ρ5 H5 s5 t5 rr5
              cases zi : item rv2 S4 with
              | bad => dsimp only [Res.bind] at h4; rw [zi] at h4; exact h4.elim
              | ex c p S5 => exact (item_ex zi).elim
              | ok d5 S5 =>
                dsimp only [Res.bind] at h4
                rw [zi] at h4
                dsimp only at h4
                obtain ⟨ρ6, s6, t6, r6⟩ := item_ok s5 rr5 zi
                have hD6 := s6.pr Dl _ upd_same
                refine ⟨av, hD6.1, by rw [← ra.len]; omega, ?_⟩
                have s6' := s6.less hp2
                have tkD : TK ρ6 H5 ρ6 (upd H5 Dl (.lst (av ++ [y]))) := tk_updl hD6.1
                have tkA : TK ρ4 H4 ρ6 H5 := t5.trans t6
                refine ⟨ρ6, S5, acc ++ [d5], av ++ [y], s6'.updO hD6.1 hD6.2 pD, (((t2.trans tk3).trans t4).trans tkA).trans tkD, upd_same, hD6.2, (ra.mono (((tk3.trans t4).trans tkA).trans tkD)).append (.one (r6.mono tkD)), by rw [List.length_append]; simp; omega, ?_⟩
                rw [hr]
                have h5 := Aft.next (tkA.trans tkD) h4
                cases zr : compL ck mg mt me (wipeE es vs) r S5 with
                | bad => rw [zr] at h5; exact h5.elim
                | ex c p S6 => rw [zr] at h5; exact h5.elim
                | ok ds S6 =>
                  rw [zr] at h5
                  simpa [noEx, Res.bind] using h5
theorem se_lc {elt tg iter : Expr} {ifs : List Expr} {scope : Scope} {own : List (Str × Nat)} {ix : List Nat} {pos : Pos} {mi : MI} {mg : MG} {mt : MB} {me : ME} (hc : X.calm = true) (hN : X.N.Nodup) (hi : SIt G W (ES G) X tg iter mi) (ok : BlkOk X.N X.env.scope scope own) {g : TG} (hix : ∀ i ∈ ix, i ∈ own.map (·.2))
    (hg : ∀ (s : Shared) (H : Hp) (C : Addr) (cl : List (Str × Addr)) (fp : List Addr), PG (X.blk s H scope (compEnvC scope cl C X.env) fp) tg g) (okg : ∀ ρ H σ es es' x v (Q : St → Hp → Prop), Rep G ρ H x v → mg x es = some es' → (∀ σ', Stored G ix ρ H σ es σ' es' → Q σ' H) → g v σ H Q)
    (ht : ∀ (s : Shared) (H : Hp) (C : Addr) (cl : List (Str × Addr)) (fp : List Addr), STs G W0 (X.blk s H scope (compEnvC scope cl C X.env) fp) ifs mt)
    (he : ∀ (s : Shared) (H : Hp) (C : Addr) (cl : List (Str × Addr)) (fp : List Addr), SE G W0 (X.blk s H scope (compEnvC scope cl C X.env) fp) elt me) (hs : ∀ x, foldedSetIterable iter X.env x = pure x := by intro _; rfl) :
    SE G W X (.ListComp elt [⟨tg, iter, ifs, 0⟩] scope pos) (eComp mi mg mt me (own.map (·.2))) := by
  obtain ⟨k, wi, pi, oki⟩ := hi
  exact ⟨k, PE.of (pe_lc hc hN pi ok hg (fun s H C cl fp => (ht s H C cl fp).pts) (fun s H C cl fp => (he s H C cl fp).pe) hs) fun σ H Q h => comp_core oki okg hix h⟩
theorem sp_setLc {i : Nat} {y : Str} {py : Pos} {elt tg iter : Expr} {ifs : List Expr} {scope : Scope} {own : List (Str × Nat)} {ix : List Nat} {pos spos : Pos} {mi : MI} {mg : MG} {mt : MB} {me : ME} (hc : X.calm = true) (hN : X.N.Nodup) (hy : X.N[i]? = some y) (hyl : X.env.scope.names.lookup y = some .local)
    (hsw : swapsWith (.ListComp elt [⟨tg, iter, ifs, 0⟩] scope pos) (some (.Name y py)) spos.line X.env = pure true) (hi : SIt G W (ES G) X tg iter mi) (ok : BlkOk X.N X.env.scope scope own) {g : TG} (hix : ∀ i ∈ ix, i ∈ own.map (·.2))
    (hg : ∀ (s : Shared) (H : Hp) (C : Addr) (cl : List (Str × Addr)) (fp : List Addr), PG (X.blk s H scope (compEnvC scope cl C X.env) fp) tg g) (okg : ∀ ρ H σ es es' x v (Q : St → Hp → Prop), Rep G ρ H x v → mg x es = some es' → (∀ σ', Stored G ix ρ H σ es σ' es' → Q σ' H) → g v σ H Q)
    (ht : ∀ (s : Shared) (H : Hp) (C : Addr) (cl : List (Str × Addr)) (fp : List Addr), STs G W0 (X.blk s H scope (compEnvC scope cl C X.env) fp) ifs mt)
    (he : ∀ (s : Shared) (H : Hp) (C : Addr) (cl : List (Str × Addr)) (fp : List Addr), SE G W0 (X.blk s H scope (compEnvC scope cl C X.env) fp) elt me) (hs : ∀ x, foldedSetIterable iter X.env x = pure x := by intro _; rfl) :
    SP1 G W X (.Assign [.Name y py] (.ListComp elt [⟨tg, iter, ifs, 0⟩] scope pos) spos) (sSet i (eComp mi mg mt me (own.map (·.2)))) := by
  obtain ⟨k, wi, pi, oki⟩ := hi
  exact ⟨k, PS.of (ps_setLc hc hN hy hyl hsw pi ok hg (fun s H C cl fp => (ht s H C cl fp).pts) (fun s H C cl fp => (he s H C cl fp).pe) hs) fun D σ H h => comp_core oki okg hix (set_core h)⟩
theorem sp_setLcS {i : Nat} {y : Str} {py : Pos} {elt tg iter : Expr} {ifs : List Expr} {scope : Scope} {own : List (Str × Nat)} {ix : List Nat} {pos spos : Pos} {mi : MI} {mg : MG} {mt : MB} {me : ME} (hc : X.calm = true) (hN : X.N.Nodup) (hy : X.N[i]? = some y) (hyl : X.env.scope.names.lookup y = some .local)
    (hsw : swapsWith (.ListComp elt [⟨tg, iter, ifs, 0⟩] scope pos) (some (.Name y py)) spos.line X.env = pure true) (hi : SIt G W (ES G) X tg iter mi) (ok : BlkOk X.N X.env.scope scope own) {g : TG} (hix : ∀ i ∈ ix, i ∈ own.map (·.2))
    (hg : ∀ (s : Shared) (H : Hp) (C : Addr) (cl : List (Str × Addr)) (fp : List Addr), PG (X.blk s H scope (compEnvC scope cl C X.env) fp) tg g) (okg : ∀ ρ H σ es es' x v (Q : St → Hp → Prop), Rep G ρ H x v → mg x es = some es' → (∀ σ', Stored G ix ρ H σ es σ' es' → Q σ' H) → g v σ H Q)
    (ht : ∀ (s : Shared) (H : Hp) (C : Addr) (cl : List (Str × Addr)) (fp : List Addr), STs G W0 (X.blk s H scope (compEnvC scope cl C X.env) fp) ifs mt)
    (he : ∀ (s : Shared) (H : Hp) (C : Addr) (cl : List (Str × Addr)) (fp : List Addr), SE G W0 (X.blk s H scope (compEnvC scope cl C X.env) fp) elt me) (hs : ∀ x, foldedSetIterable iter X.env x = pure x := by intro _; rfl) :
    SP1 G W X (.Assign [.Name y py] (.ListComp elt [⟨tg, iter, ifs, 0⟩] scope pos) spos) (sSetS i (eComp mi mg mt me (own.map (·.2)))) := by
  obtain ⟨k, wi, pi, oki⟩ := hi
  exact ⟨k, PS.of (ps_setLc hc hN hy hyl hsw pi ok hg (fun s H C cl fp => (ht s H C cl fp).pts) (fun s H C cl fp => (he s H C cl fp).pe) hs) fun D σ H h => comp_core oki okg hix (setS_core h)⟩
end
end DM

namespace DM
open PySem PySem.Spec L2

def sAsg (g : MG) (m : ME) : MS := fun es S => bindS ((m es S).bind item) es fun x S1 => match g x es with
  | some es' => .nx es' S1
  | none => .bad
def sPar (i j : Nat) (ms : List ME) : MS := fun es S => bindS (eItems ms es S) es fun ds S1 => match ds with
  | [x, y] => .nx ((es.set i (.v x)).set j (.v y)) S1
  | _ => .bad
def sSetIx (k : Nat) (mi me : ME) : MS := fun es S => bindS ((me es S).bind item) es fun x S1 => match es[k]? with
  | some (.own ds) => bindS (mi es S1) es fun r S2 => (match r with
    | .d (.int n) => (match ixN ds.length n with
      | some j => .nx (es.set k (.own (ds.set j x))) S2
      | none => .bad)
    | _ => .bad)
  | some (.v (.loc l)) => bindS (mi es S1) es fun r S2 => (match r with
    | .d (.int n) => (match S2[l]? with
      | some (.lst ds) => (match ixN ds.length n with
        | some j => .nx es (S2.set l (.lst (ds.set j x)))
        | none => .bad)
      | _ => .bad)
    | _ => .bad)
  | _ => .bad
open Classical in
noncomputable def sApp (k : Nat) (me : ME) : MS := fun es S => match es[k]? with
  | some (.own ds) => bindS ((me es S).bind item) es fun x S1 => if ds.length < sizeLine then .nx (es.set k (.own (ds ++ [x]))) S1 else .bad
  | some (.v (.loc l)) => (match S[l]? with
    | some (.lst _) => bindS ((me es S).bind item) es fun x S1 => (match S1[l]? with
      | some (.lst ds) => if ds.length < sizeLine then .nx es (S1.set l (.lst (ds ++ [x]))) else .bad
      | _ => .bad)
    | _ => .bad)
  | _ => .bad
def lstOf (S : Store) : RV → Option (List D)
  | .l _ ds => some ds
  | .d (.loc n) => (match S[n]? with
    | some (.lst ds) => some ds
    | _ => none)
  | _ => none
open Classical in
noncomputable def sExt (k : Nat) (me : ME) : MS := fun es S => match es[k]? with
  | some (.own ds) => bindS (me es S) es fun r S1 => (match lstOf S1 r.weak with
    | some ys => if ds.length + ys.length ≤ sizeLine then .nx (es.set k (.own (ds ++ ys))) S1 else .bad
    | none => .bad)
  | some (.v (.loc l)) => (match S[l]? with
    | some (.lst _) => bindS (me es S) es fun r S1 => (match lstOf S1 r.weak, S1[l]? with
      | some ys, some (.lst ds) => if ds.length + ys.length ≤ sizeLine then .nx es (S1.set l (.lst (ds ++ ys))) else .bad
      | _, _ => .bad)
    | _ => .bad)
  | _ => .bad
theorem lst_at {G : GT} {P : Hp} {ρ : List Addr} {H : Hp} {S : Store} {r : RV} {v : V} {ds : List D} (s : VS G P ρ H S) (rr : RR G P ρ H r.weak v) (h : lstOf S r.weak = some ds) : ∃ a vs, v = .ref a ∧ H a = some (.lst vs) ∧ Reps G ρ H ds vs := by
  cases r with
  | l f xs =>
    obtain ⟨a, vs, rfl, e, rs⟩ := rr
    cases h
    exact ⟨a, vs, rfl, (s.pr _ _ e).1, rs⟩
  | d x =>
    cases x with
    | loc n =>
      have h' : (match S[n]? with
        | some (.lst ds) => some ds
        | _ => none) = some ds := h
      split at h'
      · rename_i e
        cases h'
        cases rr with
        | loc hn =>
          obtain ⟨vs, e1, rs⟩ := s.st _ _ _ hn e
          exact ⟨_, vs, rfl, e1, rs⟩
      · cases h'
    | _ => cases h

section
variable {G : GT} {W : WX} {X : Cx} {a b c e tg : Expr} {ma mb mi me : ME} {pos : Pos}
theorem st_item {P : Hp} {ρ : List Addr} {H : Hp} {S : Store} {σ : St} {es : Env} {D : Ends} {f : DM.D → Store → SR} {R : VK} (s : VS G P ρ H S) (q : SS G P ρ H σ es) (h : AftS G W P ρ H σ es (bindS ((ma es S).bind item) es f) D)
    (k : ∀ x S1 v ρ1 H1, VS G (plus P H σ es) ρ1 H1 S1 → SS G P ρ1 H1 σ es → TK ρ H ρ1 H1 → Rep G ρ1 H1 x v → AftS G W P ρ1 H1 σ es (f x S1) D → R v H1) : rdE G W ma σ H R := by
  have h' : AftS G W P ρ H σ es (bindS (ma es S) es fun r S1 => bindS (item r S1) es f) D := by
    cases e : ma es S with
    | ok r S1 => rw [e] at h; exact h
    | ex c p S1 => rw [e] at h; exact h
    | bad => rw [e] at h; exact h
  refine st_thenS s q h' fun r S1 v ρ1 H1 s1 q1 k1 rr h => ?_
  cases e : item r S1 with
  | bad => rw [e] at h; exact h.elim
  | ex c p S2 => exact (item_ex e).elim
  | ok d S2 =>
    rw [e] at h
    obtain ⟨ρ2, s2, k2, rd⟩ := item_ok s1 rr e
    exact k d S2 v ρ2 H1 s2 (q.next s2 (k1.trans k2)) (k1.trans k2) rd (AftS.next (TKS.of k2) h)
theorem st_then2 {P Pp : Hp} {ρ : List Addr} {H : Hp} {S : Store} {σ : St} {es : Env} {D : Ends} {f : RV → Store → SR} {R : VK} (s : VS G Pp ρ H S) (eS : ES G Pp ρ H σ es) (nx : ∀ ρ' H' S', VS G Pp ρ' H' S' → TK ρ H ρ' H' → SS G P ρ' H' σ es) (sub : ∀ a o, P a = some o → Pp a = some o) (h : AftS G W P ρ H σ es (bindS (ma es S) es f) D)
    (k : ∀ r S1 v ρ1 H1, VS G Pp ρ1 H1 S1 → SS G P ρ1 H1 σ es → TK ρ H ρ1 H1 → RR G Pp ρ1 H1 r v → AftS G W P ρ1 H1 σ es (f r S1) D → R v H1) : rdE G W ma σ H R := by
  refine ⟨Pp, ρ, es, S, s, eS, ?_⟩
  cases e : ma es S with
  | ok r S1 =>
    rw [e] at h
    exact fun v ρ1 H1 s1 k1 rr => k r S1 v ρ1 H1 s1 (nx ρ1 H1 S1 s1 k1) k1 rr (AftS.next (TKS.of k1) h)
  | ex c p S1 =>
    rw [e] at h
    exact fun cls d ρ1 H1 s1 k1 rx => h cls d σ ρ1 H1 (s1.less sub) (nx ρ1 H1 S1 s1 k1) (TKS.of k1) rx
  | bad => rw [e] at h; exact h.elim
theorem sp_asg {ix : List Nat} {g : TG} {mg : MG} (ha : SE G W X a ma) (hg : PG X tg g) (og : OG G ix g mg) (hs : swapsWithSole [tg] a pos.line X.env = pure false := by rfl) (hw : swappedStores [tg] a X.env = pure none := by rfl)
    (h1 : (assignEach [tg] X.env).map (·.2) = [assign tg X.env] := by rfl) : SP1 G W X (.Assign [tg] a pos) (sAsg mg ma) := by
  refine ⟨ha.k, PS.of (ps_asg ha.pe hg hs hw h1) fun D σ H h => ?_⟩
  obtain ⟨P, ρ, es, S, s, q, h⟩ := h
  refine st_item s q h fun x S1 v ρ1 H1 s1 q1 k1 rv h => ?_
  cases z : mg x es with
  | none => rw [z] at h; exact h.elim
  | some es' =>
    rw [z] at h
    exact og ρ1 H1 σ es es' x v _ rv z fun σ' st => h σ' ρ1 H1 (s1.less q.sub) (st.ss P q1) st.tk
theorem sp_par {i j : Nat} {x y : Str} {px py pt : Pos} {kt k2 pt2} {ms : List ME} (hc : X.calm = true) (hN : X.N.Nodup) (hi : X.N[i]? = some x) (hj : X.N[j]? = some y) (hij : i ≠ j)
    (hx : X.env.scope.names.lookup x = some .local) (hy : X.env.scope.names.lookup y = some .local) (ha : SI G W X [a, b] ms)
    (hw : swappedStores [.Tuple [.Name x px, .Name y py] kt pt] (.Tuple [a, b] k2 pt2) X.env = pure (some [x, y]))
    (hs : swapsWithSole [.Tuple [.Name x px, .Name y py] kt pt] (.Tuple [a, b] k2 pt2) pos.line X.env = pure false := by rfl) :
    SP1 G W X (.Assign [.Tuple [.Name x px, .Name y py] kt pt] (.Tuple [a, b] k2 pt2) pos) (sPar i j ms) := by
  refine ⟨ha.k, PS.of (ps_par hc hN hi hj hij hx hy ha.pa hw hs) fun D σ H h => ?_⟩
  obtain ⟨P, ρ, es, S, s, q, h⟩ := h
  refine ⟨_, ρ, es, S, q.vs s, q.toES, ?_⟩
  unfold sPar at h
  cases z : eItems ms es S with
  | bad => rw [z] at h; exact h
  | ex c p S1 => rw [z] at h; exact fun cls d ρ1 H1 s1 k1 rx => h cls d σ ρ1 H1 (s1.less q.sub) (q.next s1 k1) (TKS.of k1) rx
  | ok ds S1 =>
    rw [z] at h
    intro vs ρ1 H1 s1 k1 rs
    have q1 := q.next s1 k1
    cases rs with
    | nil => exact h.elim
    | cons r1 rs =>
      cases rs with
      | nil => exact h.elim
      | cons r2 rs =>
        cases rs with
        | cons r3 rs => exact h.elim
        | nil => exact ⟨_, _, rfl, h _ ρ1 H1 (s1.less q.sub) ((q1.setV r1).setV r2) (((TKS.of k1).trans (tks_set (fun _ z => by cases z))).trans (tks_set (fun _ z => by cases z)))⟩

theorem tks_own {ρ : List Addr} {H H' : Hp} {σ : St} {es : Env} {k : Nat} {ds : List D} (tk : TK ρ H ρ H') : TKS ρ H σ es ρ H' σ (es.set k (.own ds)) :=
  ⟨tk, fun j es2 h => by
    rcases get_set h with ⟨rfl, hl, z⟩ | ⟨hn, h⟩
    · cases z
    · exact ⟨h, rfl⟩⟩
theorem setix_core {k : Nat} {D : Ends} {σ : St} {H : Hp} (h : rdS G W (sSetIx k mi me) D σ H) : tAsg (rdE G W me) (gSub (tVar k) (rdE G W mi) rSetL) D σ H := by
  obtain ⟨P, ρ, es, S, s, q, h⟩ := h
  refine st_item s q h fun x S1 v ρ1 H1 s1 q1 k1 rv h => ?_
  have nx : ∀ ρ' H' S', VS G (plus P H σ es) ρ' H' S' → TK ρ1 H1 ρ' H' → SS G P ρ' H' σ es := fun ρ' H' S' s' k' => q.next s' (k1.trans k')
  split at h
  · rename_i ds ek
    obtain ⟨a, vs, e1, e2, e3, e4, e5⟩ := q.own k ds ek
    refine ⟨.ref a, e1, ?_⟩
    refine st_then2 s1 (q.toES.next k1) nx q.sub h fun r S2 w ρ3 H3 s3 q3 k3 rr h => ?_
    cases r with
    | l f xs => exact h.elim
    | d y =>
      cases y with
      | int n =>
        cases rr
        obtain ⟨b, us, y1, y2, y3, y4, y5⟩ := q3.own k ds ek
        rw [e1] at y1
        cases y1
        have h' : AftS G W P ρ3 H3 σ es (match ixN ds.length n with
          | some j => .nx (es.set k (.own (ds.set j x))) S2
          | none => .bad) D := h
        cases ei : ixN ds.length n with
        | none => rw [ei] at h'; exact h'.elim
        | some j =>
          rw [ei] at h'
          have tk : TK ρ3 H3 ρ3 (upd H3 a (.lst (us.set j v))) := tk_updl y2
          exact ⟨a, us, n, j, rfl, rfl, y2, by rw [← y3.len]; exact ei, h' σ ρ3 _ ((s3.less q.sub).updO y2 y4 y5) (q3.updO ek e1 y2 (y3.set (rv.mono k3) j)) (tks_own tk)⟩
      | _ => exact h.elim
  · rename_i l ek
    obtain ⟨w0, e1, e2⟩ := q.val k _ ek
    cases e2 with
    | loc hn =>
      rename_i a
      refine ⟨.ref a, e1, ?_⟩
      refine st_then2 s1 (q.toES.next k1) nx q.sub h fun r S2 w ρ3 H3 s3 q3 k3 rr h => ?_
      cases r with
      | l f xs => exact h.elim
      | d y =>
        cases y with
        | int n =>
          cases rr
          have hn3 : ρ3[l]? = some a := k3.at_ (k1.at_ hn)
          have h' : AftS G W P ρ3 H3 σ es (match S2[l]? with
            | some (.lst ds) => (match ixN ds.length n with
              | some j => .nx es (S2.set l (.lst (ds.set j x)))
              | none => .bad)
            | _ => .bad) D := h
          split at h'
          · rename_i ds es2
            obtain ⟨us, y2, y3⟩ := s3.st l a _ hn3 es2
            cases ei : ixN ds.length n with
            | none => rw [ei] at h'; exact h'.elim
            | some j =>
              rw [ei] at h'
              have tk : TK ρ3 H3 ρ3 (upd H3 a (.lst (us.set j v))) := tk_updl y2
              exact ⟨a, us, n, j, rfl, rfl, y2, by rw [← y3.len]; exact ei, h' σ ρ3 _ ((s3.less q.sub).updS hn3 y2 ((y3.set (rv.mono k3) j).mono tk)) (q3.updS (List.mem_of_getElem? hn3) y2) (TKS.of tk)⟩
          · exact h'.elim
        | _ => exact h.elim
  · exact h.elim
theorem sp_setix {k : Nat} {x : Str} {p2 p3 : Pos} (hk : X.K = G.K) (hN : X.N[k]? = some x) (hv : Vis X.env.scope x) (hi : SE G W X b mi) (he : SE G W X e me) (hd : (x == ("__debug__" : Str)) = false := by decide) (hcd : (x == ("__classdict__" : Str)) = false := by decide)
    (hs : swapsWithSole [.Subscript (.Name x p2) b p3] e pos.line X.env = pure false := by rfl) (hw : swappedStores [.Subscript (.Name x p2) b p3] e X.env = pure none := by rfl)
    (h1 : (assignEach [.Subscript (.Name x p2) b p3] X.env).map (·.2) = [assign (.Subscript (.Name x p2) b p3) X.env] := by rfl)
    (ha : ∀ v, assign (.Subscript (.Name x p2) b p3) X.env v = (do
      let ov ← holding [v] (eval (.Name x p2) X.env)
      let iv ← holding [v, ov] (eval b X.env)
      standAt p3
      holding [v, ov, iv] (setItem ov iv v)
      release [v, ov, iv] []) := by intro _; rfl) : SP1 G W X (.Assign [.Subscript (.Name x p2) b p3] e pos) (sSetIx k mi me) :=
  ⟨hk, PS.of (ps_asg he.pe (pg_sub (pe_var hN hv hd hcd) hi.pe set_list ha) hs hw h1) fun D σ H h => setix_core h⟩

theorem app_core {k : Nat} {D : Ends} {σ : St} {H : Hp} (h : rdS G W (sApp k me) D σ H) : tDrop (tBM G.K "list" rAppend (tVar k) (tCons (rdE G W me) tNil)) D σ H := by
  obtain ⟨P, ρ, es, S, s, q, h⟩ := h
  unfold sApp at h
  split at h
  · rename_i ds ek
    obtain ⟨a, vs, e1, e2, e3, e4, e5⟩ := q.own k ds ek
    refine ⟨.ref a, e1, .inl ⟨rfl, vs, SqL.of e2⟩, ?_⟩
    refine st_item s q h fun x S1 v ρ1 H1 s1 q1 k1 rv h => ?_
    obtain ⟨b, us, y1, y2, y3, y4, y5⟩ := q1.own k ds ek
    rw [e1] at y1
    cases y1
    split at h
    · rename_i hz
      have tk : TK ρ1 H1 ρ1 (upd H1 a (.lst (us ++ [v]))) := tk_updl y2
      exact ⟨a, us, v, rfl, rfl, y2, by rw [← y3.len]; exact hz, h σ ρ1 _ ((s1.less q.sub).updO y2 y4 y5) (q1.updO ek e1 y2 (y3.append (.one rv))) (tks_own tk)⟩
    · exact h.elim
  · rename_i l ek
    split at h
    · rename_i ds0 es0
      obtain ⟨w0, e1, e2⟩ := q.val k _ ek
      cases e2 with
      | loc hn =>
        rename_i a
        obtain ⟨us0, z2, _⟩ := s.st l a _ hn es0
        refine ⟨.ref a, e1, .inl ⟨rfl, us0, SqL.of z2⟩, ?_⟩
        refine st_item s q h fun x S1 v ρ1 H1 s1 q1 k1 rv h => ?_
        have hn1 : ρ1[l]? = some a := k1.at_ hn
        split at h
        · rename_i ds es1
          obtain ⟨us, y2, y3⟩ := s1.st l a _ hn1 es1
          split at h
          · rename_i hz
            have tk : TK ρ1 H1 ρ1 (upd H1 a (.lst (us ++ [v]))) := tk_updl y2
            exact ⟨a, us, v, rfl, rfl, y2, by rw [← y3.len]; exact hz, h σ ρ1 _ ((s1.less q.sub).updS hn1 y2 ((y3.append (.one rv)).mono tk)) (q1.updS (List.mem_of_getElem? hn1) y2) (TKS.of tk)⟩
          · exact h.elim
        · exact h.elim
    · exact h.elim
  · exact h.elim
theorem sp_app {k : Nat} {x : Str} {p2 apos cpos : Pos} (hk : X.K = G.K) (hN : X.N[k]? = some x) (hv : Vis X.env.scope x) (he : SE G W X e me) (hd : (x == ("__debug__" : Str)) = false := by decide) (hcd : (x == ("__classdict__" : Str)) = false := by decide)
    (hbase : attributeBase (.Name x p2) "append" X.env (eval (.Name x p2) X.env) = eval (.Name x p2) X.env := by rfl)
    (hfew : ((backTo cpos (starEach (e :: []) X.env)).all (fun x => !x.1) && (backToKw cpos (keywordEach [] X.env)).all (fun x => x.1.isSome)
      && decide ((e :: ([] : List Expr)).length + ([] : List Keyword).length + (if ([] : List Keyword).isEmpty then 0 else 1) < 30)) = true := by rfl)
    (hline : (apos.endLine == cpos.line) = true := by rfl) (hs : starEach (e :: []) X.env = (false, eval e X.env) :: starEach [] X.env := by rfl) (hplain : (backTo cpos (starEach [] X.env)).any (·.1) = false := by rfl)
    (hsw : swapsWith (.Call (.Attribute (.Name x p2) "append" apos) [e] [] cpos) none pos.line X.env = pure false := by rfl) :
    SP1 G W X (.Expr (.Call (.Attribute (.Name x p2) "append" apos) [e] [] cpos) pos) (sApp k me) := by
  refine ⟨hk, PS.of (ps_expr (pe_bm PySem.F.plainAttrs_list PySem.F.slot_list_append PySem.F.type_list_append mt_append (pe_var hN hv hd hcd) (pa_cons he.pe pa_nil hs) hbase hfew hline hs hplain) hsw) fun D σ H h => ?_⟩
  rw [hk]
  exact app_core h

theorem ext_core {k : Nat} {D : Ends} {σ : St} {H : Hp} (h : rdS G W (sExt k me) D σ H) : tDrop (tBM G.K "list" rExtend (tVar k) (tCons (rdE G W me) tNil)) D σ H := by
  obtain ⟨P, ρ, es, S, s, q, h⟩ := h
  unfold sExt at h
  split at h
  · rename_i ds ek
    obtain ⟨a, vs, e1, e2, e3, e4, e5⟩ := q.own k ds ek
    refine ⟨.ref a, e1, .inl ⟨rfl, vs, SqL.of e2⟩, ?_⟩
    refine st_thenS s q h fun r S1 v ρ1 H1 s1 q1 k1 rr h => ?_
    obtain ⟨P1, hp, s1', rr1⟩ := protect s1 rr
    obtain ⟨b, us, y1, y2, y3, y4, y5⟩ := q1.own k ds ek
    rw [e1] at y1
    cases y1
    split at h
    · rename_i ys el
      obtain ⟨c, ws, rfl, z2, z3⟩ := lst_at s1' rr1 el
      split at h
      · rename_i hz
        have tk : TK ρ1 H1 ρ1 (upd H1 a (.lst (us ++ ws))) := tk_updl y2
        exact ⟨a, c, us, ws, rfl, rfl, y2, z2, by rw [← y3.len, ← z3.len]; exact hz, h σ ρ1 _ ((s1.less q.sub).updO y2 y4 y5) (q1.updO ek e1 y2 (y3.append z3)) (tks_own tk)⟩
      · exact h.elim
    · exact h.elim
  · rename_i l ek
    split at h
    · rename_i ds0 es0
      obtain ⟨w0, e1, e2⟩ := q.val k _ ek
      cases e2 with
      | loc hn =>
        rename_i a
        obtain ⟨us0, z2, _⟩ := s.st l a _ hn es0
        refine ⟨.ref a, e1, .inl ⟨rfl, us0, SqL.of z2⟩, ?_⟩
        refine st_thenS s q h fun r S1 v ρ1 H1 s1 q1 k1 rr h => ?_
        obtain ⟨P1, hp, s1', rr1⟩ := protect s1 rr
        have hn1 : ρ1[l]? = some a := k1.at_ hn
        split at h
        · rename_i ys ds el es1
          obtain ⟨us, y2, y3⟩ := s1.st l a _ hn1 es1
          obtain ⟨c, ws, rfl, z2, z3⟩ := lst_at s1' rr1 el
          split at h
          · rename_i hz
            have tk : TK ρ1 H1 ρ1 (upd H1 a (.lst (us ++ ws))) := tk_updl y2
            exact ⟨a, c, us, ws, rfl, rfl, y2, z2, by rw [← y3.len, ← z3.len]; exact hz, h σ ρ1 _ ((s1.less q.sub).updS hn1 y2 ((y3.append z3).mono tk)) (q1.updS (List.mem_of_getElem? hn1) y2) (TKS.of tk)⟩
          · exact h.elim
        · exact h.elim
    · exact h.elim
  · exact h.elim
theorem sp_ext {k : Nat} {x : Str} {p2 apos cpos : Pos} (hk : X.K = G.K) (hN : X.N[k]? = some x) (hv : Vis X.env.scope x) (he : SE G W X e me) (hd : (x == ("__debug__" : Str)) = false := by decide) (hcd : (x == ("__classdict__" : Str)) = false := by decide)
    (hbase : attributeBase (.Name x p2) "extend" X.env (eval (.Name x p2) X.env) = eval (.Name x p2) X.env := by rfl)
    (hfew : ((backTo cpos (starEach (e :: []) X.env)).all (fun x => !x.1) && (backToKw cpos (keywordEach [] X.env)).all (fun x => x.1.isSome)
      && decide ((e :: ([] : List Expr)).length + ([] : List Keyword).length + (if ([] : List Keyword).isEmpty then 0 else 1) < 30)) = true := by rfl)
    (hline : (apos.endLine == cpos.line) = true := by rfl) (hs : starEach (e :: []) X.env = (false, eval e X.env) :: starEach [] X.env := by rfl) (hplain : (backTo cpos (starEach [] X.env)).any (·.1) = false := by rfl)
    (hsw : swapsWith (.Call (.Attribute (.Name x p2) "extend" apos) [e] [] cpos) none pos.line X.env = pure false := by rfl) :
    SP1 G W X (.Expr (.Call (.Attribute (.Name x p2) "extend" apos) [e] [] cpos) pos) (sExt k me) := by
  refine ⟨hk, PS.of (ps_expr (pe_bm PySem.F.plainAttrs_list PySem.F.slot_list_extend PySem.F.type_list_extend mt_extend (pe_var hN hv hd hcd) (pa_cons he.pe pa_nil hs) hbase hfew hline hs hplain) hsw) fun D σ H h => ?_⟩
  rw [hk]
  exact ext_core h
end

abbrev MF := List RV → Store → Res RV
def slotOf : RV → Slot
  | .d x => .v x
  | .l true _ => .no
  | .l false ds => .bor ds
def startE (n : Nat) (rs : List RV) : Env := rs.map slotOf ++ List.replicate (n - rs.length) .no
def ofSR (r : SR) : Res RV := match r with
  | .nx _ S => .ok (.d .non) S
  | .rt (.l false _) _ => .bad
  | .rt r S => .ok r S
  | .ex c p _ S => .ex c p S
  | _ => .bad
def mFun (n m : Nat) (b : MS) : MF := fun rs S => if rs.length = n then ofSR (b (startE m rs) S) else .bad
def spM (G : GT) (n : Nat) (m : MF) : Sp := fun vs H Q E => vs.length = n ∧ ∃ P ρ rs S, VS G P ρ H S ∧ RRs G P ρ H rs vs ∧ Aft G E P ρ H (m rs S) Q
theorem RRs.len {G : GT} {P : Hp} {ρ : List Addr} {H : Hp} {rs : List RV} {vs : List V} (h : RRs G P ρ H rs vs) : rs.length = vs.length := by
  induction rs generalizing vs with
  | nil => cases h; rfl
  | cons r rs ih => cases h with | cons h t => simp [ih t]
theorem RRs.get {G : GT} {P : Hp} {ρ : List Addr} {H : Hp} {rs : List RV} {vs : List V} (h : RRs G P ρ H rs vs) : ∀ (i : Nat) r, rs[i]? = some r → ∃ v, vs[i]? = some v ∧ RR G P ρ H r v := by
  induction rs generalizing vs with
  | nil => intro i r e; simp at e
  | cons r0 rs ih =>
    cases h with
    | cons h t =>
      intro i r e
      cases i with
      | zero => simp at e; subst e; exact ⟨_, rfl, h⟩
      | succ i => simpa using ih t i r (by simpa using e)
theorem start_ok {G : GT} {P : Hp} {ρ : List Addr} {H : Hp} {rs : List RV} {vs : List V} {N : List Str} (h : RRs G P ρ H rs vs) : SS G P ρ H (L2.start N vs) (startE N.length rs) := by
  have hl := h.len
  have gt : ∀ (i : Nat) sl, (startE N.length rs)[i]? = some sl → sl ≠ .no → ∃ r, rs[i]? = some r ∧ slotOf r = sl := fun i sl e hn => by
    unfold startE at e
    rw [List.getElem?_append] at e
    split at e
    · rw [List.getElem?_map] at e
      cases z : rs[i]? with
      | none => rw [z] at e; cases e
      | some r => rw [z] at e; exact ⟨r, rfl, Option.some.inj e⟩
    · rw [List.getElem?_replicate] at e
      split at e
      · exact absurd (Option.some.inj e).symm hn
      · cases e
  have sg : ∀ (i : Nat) v, vs[i]? = some v → (L2.start N vs)[i]? = some (some v) := fun i v e => by
    unfold L2.start
    rw [List.getElem?_append_left (by rw [List.length_map]; exact (List.getElem?_eq_some_iff.mp e).1), List.getElem?_map, e]
    rfl
  refine ⟨?_, fun i d e => ?_, fun i ds e => ?_, fun i ds e => ?_, fun i j ds es' a e1 => ?_⟩
  · unfold L2.start startE
    simp [hl]
  · obtain ⟨r, h1, h2⟩ := gt i _ e (fun z => by cases z)
    obtain ⟨v, h3, h4⟩ := h.get i r h1
    cases r with
    | d x => cases h2; exact ⟨v, sg i v h3, h4⟩
    | l f ds => cases f <;> cases h2
  · obtain ⟨r, h1, h2⟩ := gt i _ e (fun z => by cases z)
    obtain ⟨v, h3, h4⟩ := h.get i r h1
    cases r with
    | d x => cases h2
    | l f ds =>
      cases f with
      | true => cases h2
      | false =>
        cases h2
        obtain ⟨a, us, rfl, y1, y2⟩ := h4
        exact ⟨a, us, sg i _ h3, y1, y2⟩
  · obtain ⟨r, h1, h2⟩ := gt i _ e (fun z => by cases z)
    cases r with
    | d x => cases h2
    | l f ds => cases f <;> cases h2
  · obtain ⟨r, h1, h2⟩ := gt i _ e1 (fun z => by cases z)
    cases r with
    | d x => cases h2
    | l f ds => cases f <;> cases h2
section
variable {P : Program} {w : World} {K : PySem.W.Frag} {mg : Str → Option Value} {base : Heap} {G : GT}
theorem fn_ok {x qual : Str} {st : Stmt} {f : Addr} {fd : FuncData} {N ps : List Str} {k : Nat} {mb : MS} (F : Fun K x qual st f fd) (S : FnScope N ps (defScope st))
    (hb : ∀ (cdv : Value) (A : Around) (outer : List PySem.Env) (s : Shared) (H : Hp) (E : XK), Room k (A.deeper (PyProof.Rows.envOfC qual (defScope st) s.heap.objs.size f cdv)) →
      Takes (cxOf (L2.CX P w) P w K mg base N qual (defScope st) f cdv A outer s H E) (fun cls d _ H => E cls d H) →
      PassesOwn (model P w) (cxOf (L2.CX P w) P w K mg base N qual (defScope st) f cdv A outer s H E).A (cxOf (L2.CX P w) P w K mg base N qual (defScope st) f cdv A outer s H E).env (cxOf (L2.CX P w) P w K mg base N qual (defScope st) f cdv A outer s H E).xe →
      SPs G (fun cls d _ H => E cls d H) (cxOf (L2.CX P w) P w K mg base N qual (defScope st) f cdv A outer s H E) (defBody st) mb) : FnOk P w K mg base (L2.CX P w) (k + 1) f fd ps (spM G ps.length (mFun ps.length N.length mb)) := by
  refine F.okX S (fun vs H Q E h => h.1) fun cdv A outer s H vs Q E hr h => ?_
  have B := hb cdv A outer s H E hr (takes_of rfl rfl rfl rfl) (passes_of rfl)
  refine ⟨_, B.pss, ?_⟩
  obtain ⟨hl, Pp, ρ, rs, S0, vs0, rrs, a⟩ := h
  refine ⟨Pp, ρ, _, S0, vs0, start_ok rrs, ?_⟩
  unfold mFun at a
  rw [if_pos (by rw [rrs.len]; exact hl)] at a
  cases z : mb (startE N.length rs) S0 with
  | nx es' S' => rw [z] at a; exact fun σ' ρ' H' s' q' t => a .non ρ' H' s' t.tk .non
  | rt r S' =>
    rw [z] at a
    cases r with
    | d x => exact ⟨(fun _ z => by cases z), fun v ρ' H' s' t rr => a v ρ' H' s' t rr⟩
    | l f ds =>
      cases f with
      | false => exact a.elim
      | true => exact ⟨(fun _ z => by cases z), fun v ρ' H' s' t rr => a v ρ' H' s' t rr⟩
  | ex c p es' S' => rw [z] at a; exact fun cls d σ' ρ' H' s' q' t rx => a cls d ρ' H' s' t.tk rx
  | bk es' S' => rw [z] at a; exact a.elim
  | ct es' S' => rw [z] at a; exact a.elim
  | bad => rw [z] at a; exact a.elim
end

def okR (r : Res RV) : Res RV := match r with
  | .ok (.l false _) _ => .bad
  | r => r
def eCall (m : MF) (ms : List ME) : ME := fun es S => (eArgs ms es S).bind fun rs S1 => okR (m rs S1)
theorem okR_rv {r : Res RV} : ∀ rv S', okR r = .ok rv S' → ∀ ds, rv ≠ .l false ds := by
  intro rv S' e ds z
  subst z
  unfold okR at e
  split at e
  · cases e
  · rename_i h; exact h _ _ e
section
variable {G : GT} {W : WX} {X : Cx} {e : Expr} {as : List Expr} {ms : List ME} {m : MF} {p pos : Pos} {k n : Nat} {f : Addr} {fd : FuncData} {ps : List Str} {x : Str}
theorem call_core {σ : St} {H : Hp} {Q : VK} (h : rdE G W (eCall m ms) σ H Q) (hn : ms.length = n) : (fun σ H Q => ∃ P ρ es S, VS G P ρ H S ∧ ES G P ρ H σ es ∧ (match eArgs ms es S with
    | .ok rs S' => ∀ vs P' ρ' H', (∀ a o, P a = some o → P' a = some o) → VS G P' ρ' H' S' → TK ρ H ρ' H' → RRs G P' ρ' H' rs vs → Q vs H'
    | .ex c p S' => ∀ cls d ρ' H', VS G P ρ' H' S' → TK ρ H ρ' H' → RX G ρ' H' c p cls d → W cls d σ H'
    | .bad => False) : TA) σ H (fun vs H1 => spM G n m vs H1 Q (WE W σ)) := by
  obtain ⟨P, ρ, es, S, s, q, h⟩ := h
  refine ⟨P, ρ, es, S, s, q, ?_⟩
  unfold eCall at h
  have al : ∀ (ms : List ME) (S : Store) (rs : List RV) (S1 : Store), eArgs ms es S = .ok rs S1 → rs.length = ms.length := by
    intro ms
    induction ms with
    | nil => intro S rs S1 e; cases e; rfl
    | cons m ms ih =>
      intro S rs S1 e
      unfold eArgs at e
      cases z : m es S with
      | bad => rw [z] at e; cases e
      | ex c p S2 => rw [z] at e; cases e
      | ok r S2 =>
        rw [z] at e
        dsimp only [Res.bind] at e
        cases z2 : eArgs ms es S2 with
        | bad => rw [z2] at e; cases e
        | ex c p S2 => rw [z2] at e; cases e
        | ok rs2 S3 =>
          rw [z2] at e
          cases e
          simp [ih S2 rs2 _ z2]
  cases z : eArgs ms es S with
  | bad => rw [z] at h; exact h
  | ex c p S1 => rw [z] at h; exact h
  | ok rs S1 =>
    rw [z] at h
    intro vs P' ρ' H' hp s' t rrs
    refine ⟨by rw [← rrs.len, al ms S rs S1 z]; exact hn, P', ρ', rs, S1, s', rrs, ?_⟩
    have h1 : Aft G (fun cls d H' => W cls d σ H') P ρ' H' (okR (m rs S1)) Q := Aft.next t h
    have h2 := Aft.more hp okR_rv h1
    cases y : m rs S1 with
    | bad => rw [y] at h2; exact h2
    | ex c p S2 => rw [y] at h2; exact h2
    | ok r S2 =>
      rw [y] at h2
      cases r with
      | d x => exact h2
      | l f ds =>
        cases f with
        | true => exact h2
        | false => exact h2.elim
theorem se_call (tk : Takes X W) (F : FnOk X.prog X.w X.K X.mg X.base (L2.CX X.prog X.w) k f fd ps (spM G n m)) (hr : Room k X.A) (hg : Gl X x) (hm : X.mg x = some (.ref f)) (hk : PySem.W.keepIn X.K (.ref f) = true) (hb : Binds X.K fd ps [])
    (ha : SA G W X (e :: as) ms) (hn : ms.length = n := by rfl) (hdb : (x == ("__debug__" : Str)) = false := by decide) (he : starEach (e :: as) X.env = (false, eval e X.env) :: starEach as X.env := by rfl) (hpl : (backTo pos (starEach as X.env)).any (·.1) = false := by rfl) :
    SE G W X (.Call (.Name x p) (e :: as) [] pos) (eCall m ms) :=
  ⟨ha.k, PE.of (pe_callS F hr hg hm hk hb (fun σ => passAt tk σ) ha.pa hdb he hpl) fun σ H Q h => call_core h hn⟩
end
end DM

namespace DM
open PySem PySem.Spec L2

abbrev F2 := Store → RV → RV → Option OV
abbrev F1 := Store → RV → Option OV
abbrev FN := Store → List RV → Option OV
section
variable {G : GT} {P : Hp} {ρ : List Addr} {H : Hp} {S : Store} {Q : VK}
theorem op_d {x : D} {v : V} (h : ∀ v H', OP G ρ H (.d x) v H' → Q v H') (r : Rep G ρ H x v) : Q v H := h v H ⟨fun _ _ e => e, r⟩
theorem op_tup {xs : List D} {vs : List V} (h : ∀ v H', OP G ρ H (.d (.tup xs)) v H' → Q v H') (r : Reps G ρ H xs vs) : ∀ p o, H p = none → Obj.dict o = none → Q (.ref p) (upd H p (.frz o (.tup vs))) := fun p o hp ho => by
  have g : ∀ b u, H b = some u → upd H p (.frz o (.tup vs)) b = some u := fun b u z => by rw [upd_ne (ne_of_none z hp)]; exact z
  exact h _ _ ⟨g, .tup (KT.new ho) (r.mono (TK.same g))⟩
theorem op_lst {xs : List D} {vs : List V} (h : ∀ v H', OP G ρ H (.l xs) v H' → Q v H') (r : Reps G ρ H xs vs) : ∀ p, H p = none → Q (.ref p) (upd H p (.lst vs)) := fun p hp => by
  have g : ∀ a o, H a = some o → upd H p (.lst vs) a = some o := fun a o z => by rw [upd_ne (ne_of_none z hp)]; exact z
  exact h _ _ ⟨g, p, vs, rfl, hp, upd_same, r.mono (TK.same g)⟩
theorem lst_of {r : RV} {v : V} {ds : List D} (s : VS G P ρ H S) (rr : RR G P ρ H r v) (h : lstOf S r = some ds) : ∃ a vs, v = .ref a ∧ H a = some (.lst vs) ∧ Reps G ρ H ds vs := by
  cases r with
  | l f xs =>
    cases f with
    | true => obtain ⟨a, vs, rfl, e, rs, _⟩ := rr; cases h; exact ⟨a, vs, rfl, e, rs⟩
    | false => exact lst_at (r := .l false xs) s rr h
  | d x => exact lst_at (r := .d x) s rr h
end
def iiF (f : Int → Int → D) : F2 := fun _ a b => match a, b with
  | .d (.int i), .d (.int j) => some (.d (f i j))
  | _, _ => none
open Classical in
noncomputable def iicF (C : Int → Int → Prop) (f : Int → Int → D) : F2 := fun _ a b => match a, b with
  | .d (.int i), .d (.int j) => if C i j then some (.d (f i j)) else none
  | _, _ => none
theorem so_ii {G : GT} {f : Int → Int → D} {g : Int → Int → V} (h : ∀ ρ H i j, Rep G ρ H (f i j) (g i j)) : SO2 G (rI0 g) (iiF f) := by
  intro P ρ H S r1 r2 x y Q ov s h1 h2 e k
  unfold iiF at e
  split at e
  · cases e
    cases h1
    cases h2
    exact ⟨_, _, rfl, rfl, op_d k (h _ _ _ _)⟩
  · cases e
theorem so_iic {G : GT} {C : Int → Int → Prop} {f : Int → Int → D} {g : Int → Int → V} (h : ∀ ρ H i j, Rep G ρ H (f i j) (g i j)) : SO2 G (rI C g) (iicF C f) := by
  intro P ρ H S r1 r2 x y Q ov s h1 h2 e k
  unfold iicF at e
  split at e
  · split at e
    · rename_i hc
      cases e
      cases h1
      cases h2
      exact ⟨_, _, rfl, rfl, hc, op_d k (h _ _ _ _)⟩
    · cases e
  · cases e
def subF : F2 := iiF fun i j => .int (i - j)
noncomputable def fdivF : F2 := iicF CDivW fun i j => .int (i / j)
noncomputable def modF : F2 := iicF (fun _ j => 0 < j) fun i j => .int (i % j)
noncomputable def powF : F2 := iicF CPow fun i j => .int (i ^ j.toNat)
noncomputable def shlF : F2 := iicF CPow fun i j => .int (i * 2 ^ j.toNat)
noncomputable def shrF : F2 := iicF (fun _ j => 0 ≤ j) fun i j => .int (i / 2 ^ j.toNat)
def andF : F2 := iiF fun i j => .int (Builtin.bitAnd i j)
def orF : F2 := iiF fun i j => .int (Builtin.bitOr i j)
def xorF : F2 := iiF fun i j => .int (Builtin.bitXor i j)
def ltF : F2 := iiF fun i j => .bl (decide (i < j))
def leF : F2 := iiF fun i j => .bl (decide (i ≤ j))
def gtF : F2 := iiF fun i j => .bl (decide (j < i))
def geF : F2 := iiF fun i j => .bl (decide (j ≤ i))
def negF : F1 := fun _ a => match a with
  | .d (.int i) => some (.d (.int (-i)))
  | _ => none
open Classical in
noncomputable def addF : F2 := fun S a b => match a, b with
  | .d (.int i), .d (.int j) => some (.d (.int (i + j)))
  | .d (.str i), .d (.str j) => if i.length + j.length ≤ sizeLine then some (.d (.str (i ++ j))) else none
  | .d (.tup xs), .d (.tup ys) => if xs.length + ys.length ≤ sizeLine then some (.d (.tup (xs ++ ys))) else none
  | a, b => match lstOf S a, lstOf S b with
    | some xs, some ys => if xs.length + ys.length ≤ sizeLine then some (.l (xs ++ ys)) else none
    | _, _ => none
def rCatK (K : PySem.W.Frag) : R2 := fun x y H Q => ∃ a b xs ys, x = .ref a ∧ y = .ref b ∧ SqT K H a xs ∧ SqT K H b ys ∧ xs.length + ys.length ≤ sizeLine ∧
  (xs = [] → Q (.ref b) H) ∧ (xs ≠ [] → ys = [] → Q (.ref a) H) ∧ (xs ≠ [] → ys ≠ [] → ∀ p o, H p = none → Obj.dict o = none → Q (.ref p) (upd H p (.frz o (.tup (xs ++ ys)))))
theorem op_catK {X : Cx} : OpR X (binaryOp .Add) (rCatK X.K) := by
  rintro pins s σ H x y v u Q I rx ry ⟨a, b, xs, ys, rfl, rfl, ha, hb, hz, q0, q1, q2⟩
  cases rx
  cases ry
  obtain ⟨us, r1, p1, _⟩ := I.tuple ha
  obtain ⟨ws, r2, p2, _⟩ := I.tuple hb
  by_cases hx : xs = []
  · subst hx
    cases r1
    exact cat_tup0 p1 p2 ⟨.ref b, H, I, rfl, q0 rfl⟩
  · refine HT.cat_tup p1 p2 (mt r1.nil_iff.mp hx) (fun z => ⟨.ref a, H, I, rfl, q1 hx (r2.nil_iff.mp z)⟩) (fun z => ?_) (by rw [← r1.length, ← r2.length]; exact hz)
    exact ⟨.ref _, _, laidK (tk := s.toks) I (by rw [List.length_append]; exact hz) (r1.append r2), rfl, q2 hx (mt r2.nil_iff.mpr z) _ _ (I.hok.fresh (Nat.le_refl _)) rfl⟩
def rAddA (K : PySem.W.Frag) : R2 := fun x y H Q => ((rI0 fun i j => .int (i + j)) x y H Q ∨ (fun x y H Q => ∃ i j, x = .str i ∧ y = .str j ∧ i.length + j.length ≤ sizeLine ∧ Q (.str (i ++ j)) H : R2) x y H Q) ∨ (rCatK K x y H Q ∨ rCat x y H Q)
theorem op_addA {X : Cx} : OpR X (binaryOp .Add) (rAddA X.K) := OpR.or (OpR.or op_add op_add_str) (OpR.or op_catK op_cat)
theorem rep_tup {G : GT} {ρ : List Addr} {H : Hp} {xs : List D} {v : V} (h : Rep G ρ H (.tup xs) v) : ∃ a vs, v = .ref a ∧ KT H a vs ∧ Reps G ρ H xs vs := by
  cases h with
  | tup e r => exact ⟨_, _, rfl, e, r⟩
theorem reps_nil {G : GT} {ρ : List Addr} {H : Hp} {xs : List D} {vs : List V} (r : Reps G ρ H xs vs) : vs = [] ↔ xs = [] := by
  have := r.len
  cases xs <;> cases vs <;> simp_all
theorem so_add {G : GT} : SO2 G (rAddA G.K) addF := by
  intro P ρ H S r1 r2 x y Q ov s h1 h2 e k
  unfold addF at e
  split at e
  · cases e
    cases h1
    cases h2
    exact .inl (.inl ⟨_, _, rfl, rfl, op_d k (.int _)⟩)
  · split at e
    · rename_i hz
      cases e
      cases h1
      cases h2
      exact .inl (.inr ⟨_, _, rfl, rfl, hz, op_d k (.str _)⟩)
    · cases e
  · rename_i xs ys
    split at e
    · rename_i hz
      cases e
      obtain ⟨a, vs, rfl, e1, q1⟩ := rep_tup h1
      obtain ⟨b, ws, rfl, e2, q2⟩ := rep_tup h2
      refine .inr (.inl ⟨a, b, vs, ws, rfl, rfl, e1.sq, e2.sq, by rw [← q1.len, ← q2.len]; exact hz, fun z => ?_, fun z1 z2 => ?_, fun z1 z2 => op_tup k (q1.append q2)⟩)
      · have z' := (reps_nil q1).mp z
        subst z'
        exact op_d k (.tup e2 q2)
      · have z' := (reps_nil q2).mp z2
        subst z'
        exact op_d k (by rw [List.append_nil]; exact .tup e1 q1)
    · cases e
  · split at e
    · rename_i xs ys l1 l2
      split at e
      · rename_i hz
        cases e
        obtain ⟨a, vs, rfl, e1, q1⟩ := lst_of s h1 l1
        obtain ⟨b, ws, rfl, e2, q2⟩ := lst_of s h2 l2
        exact .inr (.inr ⟨a, b, vs, ws, rfl, rfl, e1, e2, by rw [← q1.len, ← q2.len]; exact hz, op_lst k (q1.append q2)⟩)
      · cases e
    · cases e
def repL {T : Type} (k : Nat) (xs : List T) : List T := (List.replicate k xs).flatten
open Classical in
noncomputable def mulF : F2 := fun S a b => match a, b with
  | .d (.int i), .d (.int j) => if CMul i j ∨ CMulW i j then some (.d (.int (i * j))) else none
  | .d (.tup xs), .d (.int j) => if xs ≠ [] ∧ 2 ≤ j ∧ j ≤ 1000 ∧ xs.length ≤ 1000 then some (.d (.tup (repL j.toNat xs))) else none
  | a, .d (.int j) => match lstOf S a with
    | some xs => if -(2 ^ 63) ≤ j ∧ j < 2 ^ 63 ∧ xs.length * j.toNat ≤ sizeLine then some (.l (repL j.toNat xs)) else none
    | none => none
  | _, _ => none
def rRepK (K : PySem.W.Frag) : R2 := fun x y H Q => ∃ l k xs, x = .ref l ∧ y = .int k ∧ SqT K H l xs ∧ xs ≠ [] ∧ 2 ≤ k ∧ k ≤ 1000 ∧ xs.length ≤ 1000 ∧ ∀ p o, H p = none → Obj.dict o = none → Q (.ref p) (upd H p (.frz o (.tup (List.replicate k.toNat xs).flatten)))
theorem op_repK {X : Cx} : OpR X (binaryOp .Mult) (rRepK X.K) := by
  rintro pins s σ H x y v u Q I rx ry ⟨l, k, xs, rfl, rfl, hT, hne, h1, h2, hz, q⟩
  cases rx
  obtain ⟨t, rfl⟩ := ry
  obtain ⟨us, r, ⟨⟨cls, dd, data, sl⟩, ho, hc, n, hd⟩, hs⟩ := I.tuple hT
  dsimp only at hc hd
  subst hc hd
  have len := r.length
  cases us with
  | nil => exact absurd (List.eq_nil_of_length_eq_zero len) hne
  | cons u0 us =>
  generalize hw : u0 :: us = ws at *
  have e0 : ws.toArray.isEmpty = false := by subst hw; rfl
  have e1 : (List.foldl (fun x1 x2 => x1 ++ x2) #[] (List.replicate k.toNat ws.toArray)) = (List.replicate k.toNat ws).flatten.toArray := size_rep ws k.toNat
  have big : k.toNat * xs.length ≤ 1000 * 1000 := Nat.mul_le_mul (by omega) hz
  have bigI : ((ws.toArray.size : Nat) : Int) * k ≤ 1000000 := by
    have z : ((ws.length * k.toNat : Nat) : Int) ≤ 1000000 := by rw [← len, Nat.mul_comm]; omega
    rw [List.size_toArray]
    rw [Int.natCast_mul, Int.toNat_of_nonneg (by omega)] at z
    exact z
  have fl : (List.replicate k.toNat ws).flatten.length ≤ sizeLine := by rw [PyProof.Rows.lm_len_rep_flat, ← len, sizeLine_eq]; omega
  have W := tuple_mulW l ws.toArray n dd sl k t (by rw [decide_eq_false (by omega), decide_eq_false (by omega)] <;> rfl) (by rw [e0, Bool.false_or]; exact beq_eq_false_iff_ne.mpr (by omega)) (by rw [e0, Bool.or_false]; exact decide_eq_false (by omega)) (by omega)
    (by unfold Builtin.Tuple.tupleTooMany; rw [sizeLine_eq]; exact decide_eq_false (by omega)) (by rw [e1, List.size_toArray]; exact fl)
  have I1 := laidK (tk := s.toks) (us := (List.replicate k.toNat ws).flatten) I (by rw [PyProof.Rows.lm_len_rep_flat, sizeLine_eq]; omega) (r.rep k.toNat)
  have ok := q _ { cls := .type "tuple", data := .seq (List.replicate k.toNat ws).flatten.toArray } (I.hok.fresh (Nat.le_refl _)) rfl
  have two := call_meets (prog := X.prog) (w := X.w) (A := X.A) (E := X.xe) (Q := EP X pins σ Q) PySem.F.slot_tuple_mul (s := s) (show s.TypeIs (.ref l) "tuple" from ⟨_, ho, rfl⟩) PySem.F.entry_tuple_mul (PySem.F.args_tuple_mul_2 _ _) W ⟨ho, by rw [e1]; exact ⟨.ref _, _, I1, rfl, ok⟩⟩
  refine wpAny_binaryOp_repeat_ref (T := "tuple") (U := "int") (by decide) ⟨_, ho, rfl⟩ (fun s' => typeIs_int s' k t) noFill_tuple_mul PySem.F.fills_int_mul PySem.F.slot_int_rmul repeat_tuple PySem.F.slot_int_index.lookup ?_
  exact call_meets PySem.F.slot_int_rmul (typeIs_int s k t) PySem.F.entry_int_rmul (PySem.F.args_int_rmul_2 _ _) (int_rmul_tuple k t l ws.toArray n dd sl) ⟨ho, rfl, ⟨_, ho, rfl⟩, two⟩
def rMulA (K : PySem.W.Frag) : R2 := fun x y H Q => ((rI CMul fun i j => .int (i * j)) x y H Q ∨ (rI CMulW fun i j => .int (i * j)) x y H Q) ∨ (rRepK K x y H Q ∨ rRep x y H Q)
theorem op_mulA {X : Cx} : OpR X (binaryOp .Mult) (rMulA X.K) := OpR.or (OpR.or op_mul op_mulW) (OpR.or op_repK op_rep)
theorem reps_rep {G : GT} {ρ : List Addr} {H : Hp} {xs : List D} {vs : List V} (r : Reps G ρ H xs vs) : ∀ k : Nat, Reps G ρ H (repL k xs) (List.replicate k vs).flatten
  | 0 => .nil
  | k + 1 => by
    unfold repL
    rw [List.replicate_succ, List.flatten_cons, List.replicate_succ, List.flatten_cons]
    exact r.append (reps_rep r k)
theorem so_mul {G : GT} : SO2 G (rMulA G.K) mulF := by
  intro P ρ H S r1 r2 x y Q ov s h1 h2 e k
  unfold mulF at e
  split at e
  · split at e
    · rename_i hc
      cases e
      cases h1
      cases h2
      rcases hc with hc | hc
      · exact .inl (.inl ⟨_, _, rfl, rfl, hc, op_d k (.int _)⟩)
      · exact .inl (.inr ⟨_, _, rfl, rfl, hc, op_d k (.int _)⟩)
    · cases e
  · split at e
    · rename_i hc
      cases e
      obtain ⟨a, vs, rfl, e1, q1⟩ := rep_tup h1
      cases h2
      exact .inr (.inl ⟨a, _, vs, rfl, rfl, e1.sq, fun z => hc.1 ((reps_nil q1).mp z), hc.2.1, hc.2.2.1, by rw [← q1.len]; exact hc.2.2.2, op_tup k (reps_rep q1 _)⟩)
    · cases e
  · split at e
    · rename_i xs l1
      split at e
      · rename_i hc
        cases e
        obtain ⟨a, vs, rfl, e1, q1⟩ := lst_of s h1 l1
        cases h2
        exact .inr (.inr ⟨a, _, vs, rfl, rfl, e1, hc.1, hc.2.1, by rw [← q1.len]; exact hc.2.2, op_lst k (reps_rep q1 _)⟩)
      · cases e
    · cases e
  · cases e
def pyD : Nat → Store → D → Option PyData
  | 0, _, _ => none
  | n + 1, S, d => match d with
    | .non => some .none
    | .bl b => some (.bool b)
    | .int i => some (.int i)
    | .str x => some (.str x)
    | .tup ds => (ds.mapM (pyD n S)).map .tuple
    | .loc l => (match S[l]? with
      | some (.lst ds) => (ds.mapM (pyD n S)).map .list
      | _ => none)
    | _ => none
def pyR (S : Store) : RV → Option PyData
  | .d x => pyD 64 S x
  | .l _ ds => (ds.mapM (pyD 64 S)).map .list
theorem dps_of {G : GT} {P : Hp} {ρ : List Addr} {H : Hp} {S : Store} (f : D → Option PyData) (hf : ∀ d v p, Rep G ρ H d v → f d = some p → Dp G.K H v p) : ∀ {ds : List D} {vs : List V} {ps : List PyData}, Reps G ρ H ds vs → ds.mapM f = some ps → DpAll G.K H vs ps := by
  intro ds
  induction ds with
  | nil =>
    intro vs ps r e
    cases r
    simp at e
    subst e
    exact .nil
  | cons d ds ih =>
    intro vs ps r e
    cases r with
    | cons h t =>
      rw [List.mapM_cons] at e
      cases z : f d with
      | none => rw [z] at e; cases e
      | some p =>
        rw [z] at e
        cases z2 : ds.mapM f with
        | none => rw [z2] at e; cases e
        | some qs =>
          rw [z2] at e
          have : p :: qs = ps := by simpa using e
          subst this
          exact .cons (hf d _ p h z) (ih t z2)
theorem dp_of {G : GT} {P : Hp} {ρ : List Addr} {H : Hp} {S : Store} (s : VS G P ρ H S) : ∀ (n : Nat) (d : D) (v : V) (p : PyData), Rep G ρ H d v → pyD n S d = some p → Dp G.K H v p
  | 0, _, _, _, _, e => by cases e
  | n + 1, d, v, p, r, e => by
    unfold pyD at e
    cases r with
    | non => cases e; exact .non
    | bl b => cases e; exact .bl b
    | int i => cases e; exact .int i
    | str x => cases e; exact .str x
    | tup h rs =>
      rename_i a vs ds
      dsimp only at e
      cases z : ds.mapM (pyD n S) with
      | none => rw [z] at e; cases e
      | some ps =>
        rw [z] at e
        cases e
        exact .tup (h.sq) (dps_of (P := P) (S := S) _ (dp_of s n) rs z)
    | loc hn =>
      rename_i l a
      dsimp only at e
      split at e
      · rename_i ds es
        obtain ⟨vs, e1, rs⟩ := s.st _ _ _ hn es
        cases z : ds.mapM (pyD n S) with
        | none => rw [z] at e; cases e
        | some ps =>
          rw [z] at e
          cases e
          exact .lst (SqL.of e1) (dps_of (P := P) (S := S) _ (dp_of s n) rs z)
      · cases e
    | _ => cases e
theorem dpR_of {G : GT} {P : Hp} {ρ : List Addr} {H : Hp} {S : Store} (s : VS G P ρ H S) {r : RV} {v : V} {p : PyData} (rr : RR G P ρ H r v) (e : pyR S r = some p) : Dp G.K H v p := by
  cases r with
  | d x => exact dp_of s 64 x v p rr e
  | l f ds =>
    obtain ⟨a, vs, rfl, e1, q1⟩ := lst_of s rr (show lstOf S (.l f ds) = some ds from rfl)
    unfold pyR at e
    dsimp only at e
    cases z : ds.mapM (pyD 64 S) with
    | none => rw [z] at e; cases e
    | some ps =>
      rw [z] at e
      cases e
      exact .lst (SqL.of e1) (dps_of (P := P) (S := S) _ (dp_of s 64) q1 z)
def eqF : F2 := fun S a b => match pyR S a, pyR S b with
  | some p, some q => if SeqAt.shaped p = true ∧ SeqAt.shaped q = true then some (.d (.bl (PyData.eqv p q))) else none
  | _, _ => none
def neF : F2 := fun S a b => match pyR S a, pyR S b with
  | some p, some q => if SeqAt.shaped p = true ∧ SeqAt.shaped q = true then some (.d (.bl (!PyData.eqv p q))) else none
  | _, _ => none
theorem so_eq {G : GT} : SO2 G (rEqD G.K) eqF := by
  intro P ρ H S r1 r2 x y Q ov s h1 h2 e k
  unfold eqF at e
  split at e
  · rename_i p q e1 e2
    split at e
    · rename_i hc
      cases e
      exact ⟨p, q, dpR_of s h1 e1, dpR_of s h2 e2, hc.1, hc.2, op_d k (.bl _)⟩
    · cases e
  · cases e
theorem so_ne {G : GT} : SO2 G (rNeD G.K) neF := by
  intro P ρ H S r1 r2 x y Q ov s h1 h2 e k
  unfold neF at e
  split at e
  · rename_i p q e1 e2
    split at e
    · rename_i hc
      cases e
      exact ⟨p, q, dpR_of s h1 e1, dpR_of s h2 e2, hc.1, hc.2, op_d k (.bl _)⟩
    · cases e
  · cases e
def isNon : RV → Bool
  | .d .non => true
  | _ => false
def isF : F2 := fun _ a b => match b with
  | .d .non => some (.d (.bl (isNon a)))
  | _ => none
def isntF : F2 := fun _ a b => match b with
  | .d .non => some (.d (.bl (!isNon a)))
  | _ => none
theorem isNon_ok {G : GT} {P : Hp} {ρ : List Addr} {H : Hp} {r : RV} {v : V} (h : RR G P ρ H r v) : decide (v = V.non) = isNon r := by
  cases r with
  | d x => cases h <;> simp [isNon]
  | l f ds => cases f <;> (obtain ⟨a, vs, rfl, _⟩ := h; simp [isNon])
theorem so_is {G : GT} : SO2 G (fun x y H Q => y = .non ∧ Q (.bl (decide (x = .non))) H) isF := by
  intro P ρ H S r1 r2 x y Q ov s h1 h2 e k
  unfold isF at e
  split at e
  · cases e
    cases h2
    refine ⟨rfl, ?_⟩
    rw [isNon_ok h1]
    exact op_d k (.bl _)
  · cases e
def ixF : F2 := fun S a b => match b with
  | .d (.int n) => (match a with
    | .d (.tup ds) => (atI ds n).map OV.d
    | .d (.str z) => if z.length ≤ sizeLine then (atI z.cps.toList n).map fun c => OV.d (.str ⟨#[c]⟩) else none
    | a => (lstOf S a).bind fun ds => (atI ds n).map OV.d)
  | _ => none
theorem atI_rep {G : GT} {ρ : List Addr} {H : Hp} {ds : List D} {vs : List V} (r : Reps G ρ H ds vs) {n : Int} {d : D} (h : atI ds n = some d) : ∃ v, atI vs n = some v ∧ Rep G ρ H d v := by
  unfold atI at h ⊢
  rw [← r.len]
  cases e : ixN ds.length n with
  | none => rw [e] at h; cases h
  | some j =>
    rw [e] at h
    exact r.get h
theorem so_ix {G : GT} : SO2 G (rIx G.K) ixF := by
  intro P ρ H S r1 r2 x y Q ov s h1 h2 e k
  unfold ixF at e
  split at e
  · cases h2
    split at e
    · rename_i ds
      rename_i n _
      obtain ⟨a, vs, rfl, e1, q1⟩ := rep_tup h1
      cases z : atI ds n with
      | none => rw [z] at e; cases e
      | some d =>
        rw [z] at e
        cases e
        obtain ⟨v, hv, rv⟩ := atI_rep q1 z
        exact .inr (.inl ⟨a, vs, n, v, rfl, rfl, e1.sq, hv, op_d k rv⟩)
    · rename_i w
      rename_i n _
      split at e
      · rename_i hz
        cases z : atI w.cps.toList n with
        | none => rw [z] at e; cases e
        | some c =>
          rw [z] at e
          cases e
          cases h1
          exact .inr (.inr ⟨w, n, c, rfl, rfl, hz, z, op_d k (.str _)⟩)
      · cases e
    · rename_i n _ _ _
      cases l1 : lstOf S r1 with
      | none => rw [l1] at e; cases e
      | some ds =>
        rw [l1] at e
        obtain ⟨a, vs, rfl, e1, q1⟩ := lst_of s h1 l1
        dsimp only [Option.bind] at e
        cases z : atI ds n with
        | none => rw [z] at e; cases e
        | some d =>
          rw [z] at e
          cases e
          obtain ⟨v, hv, rv⟩ := atI_rep q1 z
          exact .inl ⟨a, vs, n, v, rfl, rfl, SqL.of e1, hv, op_d k rv⟩
  · cases e
end DM

namespace DM
open PySem PySem.Spec L2

theorem rrs1 {G : GT} {P : Hp} {ρ : List Addr} {H : Hp} {r : RV} {vs : List V} (h : RRs G P ρ H [r] vs) : ∃ v, vs = [v] ∧ RR G P ρ H r v := by
  cases h with
  | cons h t => cases t; exact ⟨_, rfl, h⟩
theorem rrs2 {G : GT} {P : Hp} {ρ : List Addr} {H : Hp} {r r' : RV} {vs : List V} (h : RRs G P ρ H [r, r'] vs) : ∃ v w, vs = [v, w] ∧ RR G P ρ H r v ∧ RR G P ρ H r' w := by
  cases h with
  | cons h t =>
    obtain ⟨w, rfl, h2⟩ := rrs1 t
    exact ⟨_, w, rfl, h, h2⟩
def lenF : FN := fun S rs => match rs with
  | [.d (.str z)] => if z.length ≤ sizeLine then some (.d (.int (z.length : Nat))) else none
  | [.d (.tup ds)] => some (.d (.int (ds.length : Nat)))
  | [r] => (lstOf S r).map fun ds => .d (.int (ds.length : Nat))
  | _ => none
theorem so_len {G : GT} : SON G (fun xs H Q => ∃ x n, xs = [x] ∧ LenV G.K x H n ∧ Q (.int n) H) lenF := by
  intro P ρ H S rs vs Q ov s h e k
  unfold lenF at e
  split at e
  · split at e
    · rename_i z hz
      cases e
      obtain ⟨v, rfl, r⟩ := rrs1 h
      cases r
      exact ⟨_, z.length, rfl, ⟨hz, rfl⟩, op_d k (.int _)⟩
    · cases e
  · cases e
    obtain ⟨v, rfl, r⟩ := rrs1 h
    obtain ⟨a, vs, rfl, e1, q1⟩ := rep_tup r
    rw [q1.len] at k
    exact ⟨_, vs.length, rfl, .inr ⟨vs, e1.sq, rfl⟩, op_d k (.int _)⟩
  · rename_i r _ _
    cases l1 : lstOf S r with
    | none => rw [l1] at e; cases e
    | some ds =>
      rw [l1] at e
      cases e
      obtain ⟨v, rfl, r⟩ := rrs1 h
      obtain ⟨a, vs, rfl, e1, q1⟩ := lst_of s r l1
      dsimp only at k
      rw [q1.len] at k
      exact ⟨_, vs.length, rfl, .inl ⟨vs, SqL.of e1, rfl⟩, op_d k (.int _)⟩
  · cases e
def intsOf : List D → Option (List Int)
  | [] => some []
  | .int i :: r => (intsOf r).map (i :: ·)
  | _ => none
def blsOf : List D → Option (List Bool)
  | [] => some []
  | .bl b :: r => (blsOf r).map (b :: ·)
  | _ => none
theorem ints_ok {G : GT} {ρ : List Addr} {H : Hp} : ∀ {ds : List D} {vs : List V} {ns : List Int}, Reps G ρ H ds vs → intsOf ds = some ns → vs = ns.map V.int
  | [], _, _, r, e => by cases r; cases e; rfl
  | d :: ds, _, ns, .cons h t, e => by
    cases d with
    | int i =>
      unfold intsOf at e
      cases z : intsOf ds with
      | none => rw [z] at e; cases e
      | some ms =>
        rw [z] at e
        cases e
        cases h
        rw [ints_ok t z]
        rfl
    | _ => cases e
theorem bls_ok {G : GT} {ρ : List Addr} {H : Hp} : ∀ {ds : List D} {vs : List V} {ns : List Bool}, Reps G ρ H ds vs → blsOf ds = some ns → vs = ns.map V.bl
  | [], _, _, r, e => by cases r; cases e; rfl
  | d :: ds, _, ns, .cons h t, e => by
    cases d with
    | bl i =>
      unfold blsOf at e
      cases z : blsOf ds with
      | none => rw [z] at e; cases e
      | some ms =>
        rw [z] at e
        cases e
        cases h
        rw [bls_ok t z]
        rfl
    | _ => cases e
def liF (f : List Int → Option OV) : FN := fun S rs => match rs with
  | [r] => (lstOf S r).bind fun ds => (intsOf ds).bind f
  | _ => none
theorem li_ok {G : GT} {P : Hp} {ρ : List Addr} {H : Hp} {S : Store} {rs : List RV} {vs : List V} {f : List Int → Option OV} {ov : OV} (s : VS G P ρ H S) (h : RRs G P ρ H rs vs) (e : liF f S rs = some ov) : ∃ a ns, vs = [.ref a] ∧ H a = some (.lst (ns.map V.int)) ∧ f ns = some ov := by
  unfold liF at e
  split at e
  · rename_i r
    cases l1 : lstOf S r with
    | none => rw [l1] at e; cases e
    | some ds =>
      rw [l1] at e
      dsimp only [Option.bind] at e
      cases z : intsOf ds with
      | none => rw [z] at e; cases e
      | some ns =>
        rw [z] at e
        obtain ⟨v, rfl, r⟩ := rrs1 h
        obtain ⟨a, vs, rfl, e1, q1⟩ := lst_of s r l1
        rw [ints_ok q1 z] at e1
        exact ⟨a, ns, rfl, e1, e⟩
  · cases e
def lbF (f : List Bool → Option OV) : FN := fun S rs => match rs with
  | [r] => (lstOf S r).bind fun ds => (blsOf ds).bind f
  | _ => none
theorem lb_ok {G : GT} {P : Hp} {ρ : List Addr} {H : Hp} {S : Store} {rs : List RV} {vs : List V} {f : List Bool → Option OV} {ov : OV} (s : VS G P ρ H S) (h : RRs G P ρ H rs vs) (e : lbF f S rs = some ov) : ∃ a ns, vs = [.ref a] ∧ H a = some (.lst (ns.map V.bl)) ∧ f ns = some ov := by
  unfold lbF at e
  split at e
  · rename_i r
    cases l1 : lstOf S r with
    | none => rw [l1] at e; cases e
    | some ds =>
      rw [l1] at e
      dsimp only [Option.bind] at e
      cases z : blsOf ds with
      | none => rw [z] at e; cases e
      | some ns =>
        rw [z] at e
        obtain ⟨v, rfl, r⟩ := rrs1 h
        obtain ⟨a, vs, rfl, e1, q1⟩ := lst_of s r l1
        rw [bls_ok q1 z] at e1
        exact ⟨a, ns, rfl, e1, e⟩
  · cases e
def sumF : FN := liF fun ns => some (.d (.int ns.sum))
def allF : FN := lbF fun bs => some (.d (.bl (bs.all id)))
def anyF : FN := lbF fun bs => some (.d (.bl (bs.any id)))
theorem so_all {G : GT} : SON G (rAll G.K) allF := fun P ρ H S rs vs Q ov s h e k => by
  obtain ⟨a, ns, rfl, e1, e2⟩ := lb_ok s h e
  cases e2
  exact ⟨a, ns, rfl, SqL.of e1, op_d k (.bl _)⟩
def maxI : List Int → Int
  | [] => 0
  | [x] => x
  | x :: y :: r => if maxI (y :: r) > x then maxI (y :: r) else x
def minI : List Int → Int
  | [] => 0
  | [x] => x
  | x :: y :: r => if minI (y :: r) < x then minI (y :: r) else x
theorem maxI_mem : ∀ {l : List Int}, l ≠ [] → maxI l ∈ l
  | [], h => absurd rfl h
  | [x], _ => List.mem_cons_self
  | x :: y :: r, _ => by
    have := maxI_mem (l := y :: r) (by simp)
    unfold maxI
    split
    · exact List.mem_cons_of_mem _ this
    · exact List.mem_cons_self
theorem maxI_le : ∀ {l : List Int} {z : Int}, z ∈ l → z ≤ maxI l
  | [], z, h => by simp at h
  | [x], z, h => by simp at h; subst h; exact Int.le_refl _
  | x :: y :: r, z, h => by
    have ih := @maxI_le (y :: r)
    unfold maxI
    rcases List.mem_cons.mp h with rfl | h
    · split <;> omega
    · have := ih h
      split <;> omega
theorem minI_mem : ∀ {l : List Int}, l ≠ [] → minI l ∈ l
  | [], h => absurd rfl h
  | [x], _ => List.mem_cons_self
  | x :: y :: r, _ => by
    have := minI_mem (l := y :: r) (by simp)
    unfold minI
    split
    · exact List.mem_cons_of_mem _ this
    · exact List.mem_cons_self
theorem minI_le : ∀ {l : List Int} {z : Int}, z ∈ l → minI l ≤ z
  | [], z, h => by simp at h
  | [x], z, h => by simp at h; subst h; exact Int.le_refl _
  | x :: y :: r, z, h => by
    have ih := @minI_le (y :: r)
    unfold minI
    rcases List.mem_cons.mp h with rfl | h
    · split <;> omega
    · have := ih h
      split <;> omega
def maxF : FN := fun S rs => match rs with
  | [.d (.int i), .d (.int j)] => some (.d (.int (if j > i then j else i)))
  | rs => liF (fun ns => if ns = [] then none else some (.d (.int (maxI ns)))) S rs
def minF : FN := fun S rs => match rs with
  | [.d (.int i), .d (.int j)] => some (.d (.int (if j < i then j else i)))
  | rs => liF (fun ns => if ns = [] then none else some (.d (.int (minI ns)))) S rs
theorem so_max {G : GT} : SON G (fun xs H Q => (∃ i j, xs = [.int i, .int j] ∧ Q (.int (if j > i then j else i)) H) ∨ rMax G.K xs H Q) maxF := fun P ρ H S rs vs Q ov s h e k => by
  unfold maxF at e
  split at e
  · cases e
    obtain ⟨v, w, rfl, r1, r2⟩ := rrs2 h
    cases r1
    cases r2
    exact .inl ⟨_, _, rfl, op_d k (.int _)⟩
  · obtain ⟨a, ns, rfl, e1, e2⟩ := li_ok s h e
    split at e2
    · cases e2
    · rename_i hn
      cases e2
      refine .inr ⟨a, ns, rfl, SqL.of e1, List.length_pos_iff.mpr hn, fun m hm hub => ?_⟩
      have : m = maxI ns := Int.le_antisymm (maxI_le hm) (hub _ (maxI_mem hn))
      rw [this]
      exact op_d k (.int _)
theorem so_min {G : GT} : SON G (fun xs H Q => (∃ i j, xs = [.int i, .int j] ∧ Q (.int (if j < i then j else i)) H) ∨ rMin G.K xs H Q) minF := fun P ρ H S rs vs Q ov s h e k => by
  unfold minF at e
  split at e
  · cases e
    obtain ⟨v, w, rfl, r1, r2⟩ := rrs2 h
    cases r1
    cases r2
    exact .inl ⟨_, _, rfl, op_d k (.int _)⟩
  · obtain ⟨a, ns, rfl, e1, e2⟩ := li_ok s h e
    split at e2
    · cases e2
    · rename_i hn
      cases e2
      refine .inr ⟨a, ns, rfl, SqL.of e1, List.length_pos_iff.mpr hn, fun m hm hub => ?_⟩
      have : m = minI ns := Int.le_antisymm (hub _ (minI_mem hn)) (minI_le hm)
      rw [this]
      exact op_d k (.int _)
theorem call_tupleK {X : Cx} : CallR X (.type "tuple") (fun xs H Q => ∃ p ys, xs = [.ref p] ∧ ((SqL X.K H p ys ∧ ∀ l o, H l = none → Obj.dict o = none → Q (.ref l) (upd H l (.frz o (.tup ys)))) ∨ (SqT X.K H p ys ∧ Q (.ref p) H))) := by
  rintro pins s σ H xs us Q I r ⟨p, ys, rfl, h⟩
  obtain ⟨u, rfl, rx⟩ := vals1 r
  cases rx
  rcases h with ⟨hq, q⟩ | ⟨hq, q⟩
  · obtain ⟨ws, rw', pl, hz⟩ := I.list hq
    refine call_tuple_list pl.isList (fun h' kp => ?_) (by have := rw'.length; rw [List.size_toArray]; omega)
    have I1 : Inv X pins σ H { s with heap := h' } := I.kept (t' := s.toks) kp
    exact ⟨.ref _, _, laidK (tk := s.toks) I1 hz rw', rfl, q _ _ (I1.hok.fresh (Nat.le_refl _)) rfl⟩
  · obtain ⟨ws, _, pl, _⟩ := I.tuple hq
    exact call_tuple_same pl ⟨.ref p, H, I, rfl, q⟩
def tupF : FN := fun S rs => match rs with
  | [.d (.tup ds)] => some (.d (.tup ds))
  | [r] => (lstOf S r).map fun ds => .d (.tup ds)
  | _ => none
theorem so_tup {G : GT} : SON G (fun xs H Q => ∃ p ys, xs = [.ref p] ∧ ((SqL G.K H p ys ∧ ∀ l o, H l = none → Obj.dict o = none → Q (.ref l) (upd H l (.frz o (.tup ys)))) ∨ (SqT G.K H p ys ∧ Q (.ref p) H))) tupF := fun P ρ H S rs vs Q ov s h e k => by
  unfold tupF at e
  split at e
  · cases e
    obtain ⟨v, rfl, r⟩ := rrs1 h
    obtain ⟨a, vs, rfl, e1, q1⟩ := rep_tup r
    exact ⟨a, vs, rfl, .inr ⟨e1.sq, op_d k (.tup e1 q1)⟩⟩
  · rename_i r _
    cases l1 : lstOf S r with
    | none => rw [l1] at e; cases e
    | some ds =>
      rw [l1] at e
      cases e
      obtain ⟨v, rfl, r⟩ := rrs1 h
      obtain ⟨a, vs, rfl, e1, q1⟩ := lst_of s r l1
      exact ⟨a, vs, rfl, .inl ⟨SqL.of e1, op_tup k q1⟩⟩
  · cases e
def listF : FN := fun S rs => match rs with
  | [.d (.tup ds)] => some (.l ds)
  | [r] => (lstOf S r).map fun ds => .l ds
  | _ => none
theorem so_list {G : GT} : SON G (fun xs H Q => ∃ p ys, xs = [.ref p] ∧ (SqL G.K H p ys ∨ SqT G.K H p ys) ∧ ∀ l, H l = none → Q (.ref l) (upd H l (.lst ys))) listF := fun P ρ H S rs vs Q ov s h e k => by
  unfold listF at e
  split at e
  · cases e
    obtain ⟨v, rfl, r⟩ := rrs1 h
    obtain ⟨a, vs, rfl, e1, q1⟩ := rep_tup r
    exact ⟨a, vs, rfl, .inr (e1.sq), op_lst k q1⟩
  · rename_i r _
    cases l1 : lstOf S r with
    | none => rw [l1] at e; cases e
    | some ds =>
      rw [l1] at e
      cases e
      obtain ⟨v, rfl, r⟩ := rrs1 h
      obtain ⟨a, vs, rfl, e1, q1⟩ := lst_of s r l1
      exact ⟨a, vs, rfl, .inl (SqL.of e1), op_lst k q1⟩
  · cases e
def intF : FN := fun _ rs => match rs with
  | [.d (.int i)] => some (.d (.int i))
  | [.d (.bl b)] => some (.d (.int (if b then 1 else 0)))
  | _ => none
theorem so_int {G : GT} : SON G (fun xs H Q => (∃ i, xs = [.int i] ∧ Q (.int i) H) ∨ ∃ k, xs = [.bl k] ∧ Q (.int (if k then 1 else 0)) H) intF := fun P ρ H S rs vs Q ov s h e k => by
  unfold intF at e
  split at e
  · cases e
    obtain ⟨v, rfl, r⟩ := rrs1 h
    cases r
    exact .inl ⟨_, rfl, op_d k (.int _)⟩
  · cases e
    obtain ⟨v, rfl, r⟩ := rrs1 h
    cases r
    exact .inr ⟨_, rfl, op_d k (.int _)⟩
  · cases e
def intSF : FN := fun _ rs => match rs with
  | [.d (.str a)] => (match PySem.intText? a with
    | some n => if a.length ≤ 640 then some (.d (.int n)) else none
    | none => none)
  | _ => none
def strF : FN := fun _ rs => match rs with
  | [.d (.int i)] => if i.natAbs.log2 < 1920 then some (.d (.str (toString i))) else none
  | _ => none
def kindOf (S : Store) : RV → Option String
  | .l _ _ => some "list"
  | .d .non => some "NoneType"
  | .d (.bl _) => some "bool"
  | .d (.int _) => some "int"
  | .d (.str _) => some "str"
  | .d (.tup _) => some "tuple"
  | .d (.loc n) => (match S[n]? with
    | some (.lst _) => some "list"
    | _ => none)
  | _ => none
def okKind (n : String) : Bool := n == "int" || n == "bool" || n == "str" || n == "tuple" || n == "list"
def isKind (t n : String) : Bool := t == n || (t == "bool" && n == "int")
theorem kind_ok {G : GT} {P : Hp} {ρ : List Addr} {H : Hp} {S : Store} {r : RV} {v : V} {t : String} (s : VS G P ρ H S) (rr : RR G P ρ H r v) (e : kindOf S r = some t) : TyX G.K H v (.type t) ∧ (t = "list" ∨ t = "NoneType" ∨ t = "bool" ∨ t = "int" ∨ t = "str" ∨ t = "tuple") := by
  cases r with
  | l f ds =>
    cases e
    obtain ⟨a, vs, rfl, e1, q1⟩ := lst_of s rr (show lstOf S (.l f ds) = some ds from rfl)
    exact ⟨.base (.lst e1), .inl rfl⟩
  | d x =>
    cases rr with
    | non => cases e; exact ⟨.base .non, by simp⟩
    | bl b => cases e; exact ⟨.base (.bl b), by simp⟩
    | int i => cases e; exact ⟨.base (.int i), by simp⟩
    | str x => cases e; exact ⟨.base (.str x), by simp⟩
    | tup h rs => cases e; obtain ⟨o, h, _⟩ := h; exact ⟨.fTuple h, by simp⟩
    | loc hn =>
      unfold kindOf at e
      dsimp only at e
      split at e
      · rename_i ds es
        cases e
        obtain ⟨vs, e1, rs⟩ := s.st _ _ _ hn es
        exact ⟨.base (.lst e1), by simp⟩
      · cases e
    | _ => cases e
theorem kit_kind {K : PySem.W.Frag} {t n : String} (ht : t = "list" ∨ t = "NoneType" ∨ t = "bool" ∨ t = "int" ∨ t = "str" ∨ t = "tuple") (hn : okKind n = true) : PySem.W.kitOne K (.type t) (.type n) = some (isKind t n) := by
  have hn' : n = "int" ∨ n = "bool" ∨ n = "str" ∨ n = "tuple" ∨ n = "list" := by
    unfold okKind at hn
    simp only [Bool.or_eq_true, beq_iff_eq] at hn
    rcases hn with (((h | h) | h) | h) | h <;> simp [h]
  refine kit_ty ?_
  rcases ht with rfl | rfl | rfl | rfl | rfl | rfl <;> rcases hn' with rfl | rfl | rfl | rfl | rfl <;> decide +kernel
def tysOf : List D → Option (List String)
  | [] => some []
  | .ty n :: r => if okKind n = true then (tysOf r).map (n :: ·) else none
  | _ => none
def isiF : FN := fun S rs => match rs with
  | [r, .d (.ty n)] => (kindOf S r).bind fun t => if okKind n = true then some (.d (.bl (isKind t n))) else none
  | [r, .d (.tup ds)] => (kindOf S r).bind fun t => (tysOf ds).map fun ns => .d (.bl (ns.any (isKind t)))
  | _ => none
theorem tys_ok {G : GT} {ρ : List Addr} {H : Hp} {t : String} (ht : t = "list" ∨ t = "NoneType" ∨ t = "bool" ∨ t = "int" ∨ t = "str" ∨ t = "tuple") : ∀ {ds : List D} {vs : List V} {ns : List String}, Reps G ρ H ds vs → tysOf ds = some ns → ∃ us, Paired ClsV vs us ∧ PySem.W.kitAny G.K (.type t) us = some (ns.any (isKind t))
  | [], _, _, r, e => by cases r; cases e; exact ⟨[], .nil, kitAny_nil⟩
  | d :: ds, _, ns, .cons h tl, e => by
    cases d with
    | ty n =>
      unfold tysOf at e
      split at e
      · rename_i hk
        cases z : tysOf ds with
        | none => rw [z] at e; cases e
        | some ms =>
          rw [z] at e
          cases e
          cases h
          obtain ⟨us, p1, p2⟩ := tys_ok ht tl z
          refine ⟨.type n :: us, .cons (.ty n) p1, kitAny_cons (kit_kind ht hk) (fun hb => ?_) (fun hb => ?_)⟩
          · rw [List.any_cons, hb, Bool.false_or]; exact p2
          · rw [List.any_cons, hb, Bool.true_or]
      · cases e
    | _ => cases e
def rIsiQ (K : PySem.W.Frag) : List V → Hp → VK → Prop := fun xs H Q => ∃ (x : V) (tp : Addr) (cs : List V) (t : Value) (us : List Value) (b : Bool), xs = [x, .ref tp] ∧ SqT K H tp cs ∧ Paired ClsV cs us ∧ TyX K H x t ∧ PySem.W.kitAny K t us = some b ∧ Q (.bl b) H
theorem call_isiQ {X : Cx} : CallR X (.builtin "isinstance") (rIsiQ X.K) := by
  rintro pins s σ H xs us Q I r ⟨x, tp, cs, t, ws, b, rfl, hT, k, ty, e, q⟩
  obtain ⟨u1, u2, rfl, r1, r2⟩ := vals2 r
  cases (show u2 = Value.ref tp from r2)
  obtain ⟨P, Z, p, hx⟩ := kit_of I r1 ty
  obtain ⟨us, rv, ⟨⟨oc, od, dt, sl⟩, h1, h2, n, h3⟩, _⟩ := I.tuple hT
  have e3 := ClsV.all k rv
  subst e3
  dsimp only at h2 h3
  subst h2 h3
  exact PySem.W.kia_tup Z I.kIn p h1 e hx fun tk => ⟨.bl b, H, I.tok tk, rfl, q⟩
theorem so_isi {G : GT} : SON G (fun xs H Q => rIsi G.K xs H Q ∨ rIsiQ G.K xs H Q) isiF := fun P ρ H S rs vs Q ov s h e k => by
  unfold isiF at e
  split at e
  · rename_i r n
    obtain ⟨v, w, rfl, r1, r2⟩ := rrs2 h
    cases z : kindOf S r with
    | none => rw [z] at e; cases e
    | some t =>
      rw [z] at e
      dsimp only [Option.bind] at e
      split at e
      · rename_i hk
        cases e
        obtain ⟨ty, ht⟩ := kind_ok s r1 z
        cases r2
        exact .inl ⟨v, .ty n, .type t, .type n, _, rfl, .ty n, ty, kit_kind ht hk, op_d k (.bl _)⟩
      · cases e
  · rename_i r ds
    obtain ⟨v, w, rfl, r1, r2⟩ := rrs2 h
    cases z : kindOf S r with
    | none => rw [z] at e; cases e
    | some t =>
      rw [z] at e
      dsimp only [Option.bind] at e
      cases z2 : tysOf ds with
      | none => rw [z2] at e; cases e
      | some ns =>
        rw [z2] at e
        cases e
        obtain ⟨ty, ht⟩ := kind_ok s r1 z
        obtain ⟨a, cs, rfl, e1, q1⟩ := rep_tup r2
        obtain ⟨us, p1, p2⟩ := tys_ok ht q1 z2
        exact .inr ⟨v, a, cs, .type t, us, _, rfl, e1.sq, p1, ty, p2, op_d k (.bl _)⟩
  · cases e

def ePart : Option ME → Env → Store → Res (Option Int)
  | none, _, S => .ok none S
  | some m, es, S => (m es S).bind fun r S1 => match r with
    | .d (.int i) => .ok (some i) S1
    | _ => .bad
def cutL {T : Type} (xs : List T) (lo hi : Option Int) : List T := (xs.drop (HT.sIx xs.length 0 lo)).take (HT.sIx xs.length xs.length hi - HT.sIx xs.length 0 lo)
def slF (S : Store) (r : RV) (lo hi : Option Int) : Option OV := match r with
  | .d (.tup ds) => some (.d (.tup (cutL ds lo hi)))
  | .d (.str z) => if z.length ≤ sizeLine then some (.d (.str (cutS z lo hi))) else none
  | .d (.scr ns) => some (.l ((cutL ns lo hi).map D.int))
  | r => (lstOf S r).map fun ds => .l (cutL ds lo hi)
def eSl (lo hi : Option ME) (m : ME) : ME := fun es S => (m es S).bind fun r S1 => (ePart lo es S1).bind fun a S2 => (ePart hi es S2).bind fun b S3 => ofO (slF S3 r.weak a b) S3
structure SO (G : GT) (W : WX) (X : Cx) (e : Option Expr) (m : Option ME) : Prop where
  po : PO X e (fun σ H Q => ∃ P ρ es S, VS G P ρ H S ∧ ES G P ρ H σ es ∧ (match ePart m es S with
    | .ok o S' => ∀ ρ' H', VS G P ρ' H' S' → TK ρ H ρ' H' → Q o H'
    | .ex c p S' => ∀ cls d ρ' H', VS G P ρ' H' S' → TK ρ H ρ' H' → RX G ρ' H' c p cls d → W cls d σ H'
    | .bad => False))
section
variable {G : GT} {W : WX} {X : Cx} {e : Expr} {m : ME} {pos p2 : Pos} {lo hi : Option Expr} {ml mh : Option ME}
theorem PO.of {e : Option Expr} {t t' : TO} (h : PO X e t) (k : ∀ σ H Q, t' σ H Q → t σ H Q) : PO X e t' := ⟨fun pins s σ H Q I q => h.run pins s σ H Q I (k σ H Q q)⟩
theorem so_no : SO G W X none none := by
  refine ⟨PO.of po_none fun σ H Q h => ?_⟩
  obtain ⟨P, ρ, es, S, s, q, h⟩ := h
  exact h ρ H s (TK.refl _ _)
theorem so_some (ha : SE G W X e m) : SO G W X (some e) (some m) := by
  refine ⟨PO.of (po_some ha.pe) fun σ H Q h => ?_⟩
  obtain ⟨P, ρ, es, S, s, q, h⟩ := h
  refine ⟨P, ρ, es, S, s, q, ?_⟩
  unfold ePart at h
  dsimp only at h
  cases z : m es S with
  | bad => rw [z] at h; exact h
  | ex c p S1 => rw [z] at h; exact h
  | ok r S1 =>
    rw [z] at h
    intro v ρ1 H1 s1 k1 rr
    cases r with
    | l f ds => exact h.elim
    | d x =>
      cases x with
      | int i => cases rr; exact ⟨i, rfl, h ρ1 H1 s1 k1⟩
      | _ => exact h.elim
def rSlK (K : PySem.W.Frag) : V → Option Int → Option Int → Hp → VK → Prop := fun x lo hi H Q => ∃ a xs, x = .ref a ∧ SqT K H a xs ∧
  (HT.sIx xs.length 0 lo = 0 ∧ HT.sIx xs.length xs.length hi = xs.length → Q (.ref a) H) ∧ (¬ (HT.sIx xs.length 0 lo = 0 ∧ HT.sIx xs.length xs.length hi = xs.length) → ∀ p o, H p = none → Obj.dict o = none → Q (.ref p) (upd H p (.frz o (.tup (cutV xs lo hi)))))
theorem sl_tupK : SlR X (rSlK X.K) := by
  rintro pins s σ H x v vl vu lo hi sl Q I rx hs pl pu ⟨a, xs, rfl, hx, q1, q2⟩
  cases rx
  obtain ⟨us, r, ht, hz⟩ := I.tuple hx
  have len : us.toArray.size = xs.length := by rw [List.size_toArray]; exact r.length.symm
  refine ⟨"tuple", _, PyProof.Rows.slot_tuple_getitem.lookup, ht.typeIs, ?_⟩
  by_cases hw : HT.sIx xs.length 0 lo = 0 ∧ HT.sIx xs.length xs.length hi = xs.length
  · exact getItem_tuple_whole ht hs pl pu (by rw [len]; exact hw) ⟨.ref a, H, I, rfl, q1 hw⟩
  · refine HT.getItem_tuple_cut ht hs pl pu (by rw [len]; exact hw) ?_ (by rw [len]; exact hz)
    rw [len]
    exact ⟨.ref _, _, laidK (tk := s.toks) I (Nat.le_trans (cutV_length xs lo hi) hz) ((r.drop (HT.sIx xs.length 0 lo)).take (HT.sIx xs.length xs.length hi - HT.sIx xs.length 0 lo)), rfl, q2 hw _ _ (I.hok.fresh (Nat.le_refl _)) rfl⟩
def rSlAll (K : PySem.W.Frag) : V → Option Int → Option Int → Hp → VK → Prop := fun x lo hi H Q => rSlL K x lo hi H Q ∨ (rSlK K x lo hi H Q ∨ rSlS x lo hi H Q)
theorem sl_all : SlR X (rSlAll X.K) := SlR.or sl_list (SlR.or sl_tupK sl_str)
theorem cut_reps {ρ : List Addr} {H : Hp} {ds : List D} {vs : List V} (r : Reps G ρ H ds vs) (a b : Option Int) : Reps G ρ H (cutL ds a b) (cutV vs a b) := by
  unfold cutL cutV
  rw [← r.len]
  exact (r.drop _).take _
theorem cut_ints {ρ : List Addr} {H : Hp} : ∀ {ns : List Int}, Reps G ρ H (ns.map D.int) (ns.map V.int)
  | [] => .nil
  | n :: ns => .cons (.int n) cut_ints
theorem sl_core {P : Hp} {ρ : List Addr} {H : Hp} {S : Store} {r : RV} {v : V} {a b : Option Int} {Q : VK} {ov : OV} (s : VS G P ρ H S) (rr : RR G P ρ H r.weak v) (e : slF S r.weak a b = some ov) (k : ∀ v H', OP G ρ H ov v H' → Q v H') : rSlAll G.K v a b H Q := by
  have lst : ∀ ds, lstOf S r.weak = some ds → ov = .l (cutL ds a b) → rSlAll G.K v a b H Q := fun ds l1 eo => by
    subst eo
    obtain ⟨p, vs, rfl, e1, q1⟩ := lst_at s rr l1
    exact .inl ⟨p, vs, rfl, SqL.of e1, op_lst k (cut_reps q1 a b)⟩
  unfold slF at e
  split at e
  · rename_i ds hr
    cases e
    rw [hr] at rr
    obtain ⟨p, vs, rfl, e1, q1⟩ := rep_tup rr
    refine .inr (.inl ⟨p, vs, rfl, e1.sq, fun hz => ?_, fun hz => op_tup k (cut_reps q1 a b)⟩)
    have : cutL ds a b = ds := by
      unfold cutL
      rw [q1.len, hz.1, hz.2, ← q1.len]
      simp
    rw [this] at k
    exact op_d k (.tup e1 q1)
  · rename_i z hr
    split at e
    · rename_i hz
      cases e
      rw [hr] at rr
      cases rr
      exact .inr (.inr ⟨z, rfl, hz, op_d k (.str _)⟩)
    · cases e
  · rename_i ns hr
    cases e
    rw [hr] at rr
    cases rr with
    | scr hs =>
      rename_i p
      have sq : SqL G.K H p (ns.map V.int) := by
        rcases hs with ⟨o, e1⟩ | e1
        · exact .inl (.inr ⟨o, e1⟩)
        · exact e1 H
      refine .inl ⟨p, _, rfl, sq, ?_⟩
      have : cutV (ns.map V.int) a b = (cutL ns a b).map V.int := by
        unfold cutV cutL
        rw [List.length_map, List.map_take, List.map_drop]
      rw [this]
      exact op_lst k cut_ints
  · cases l1 : lstOf S r.weak with
    | none => rw [l1] at e; cases e
    | some ds => rw [l1] at e; cases e; exact lst ds l1 rfl
theorem se_sl (ha : SE G W X e m) (hl : SO G W X lo ml) (hh : SO G W X hi mh) : SE G W X (.Subscript e (.Slice lo hi none p2) pos) (eSl ml mh m) := by
  refine ⟨ha.k, PE.of (pe_slice sl_all ha.pe hl.po hh.po) fun σ H Q h => ?_⟩
  obtain ⟨P, ρ, es, S, s, q, h⟩ := h
  refine rdE_then s q h fun r S1 v ρ1 H1 e1 s1 k1 rr h => ?_
  obtain ⟨P1, hp, s1', rr1⟩ := protect s1 rr
  have hnl : ∀ (a b : Option Int) (S3 : Store), ∀ rv S', ofO (slF S3 r.weak a b) S3 = .ok rv S' → ∀ ds, rv ≠ .l false ds := fun a b S3 => ofO_rv
  refine ⟨P1, ρ1, es, S1, s1', (q.next k1).more hp, ?_⟩
  cases z : ePart ml es S1 with
  | bad => rw [z] at h; exact h
  | ex c p S2 => rw [z] at h; exact fun cls d ρ2 H2 s2 k2 rx => h cls d ρ2 H2 (s2.less hp) k2 rx
  | ok a S2 =>
    rw [z] at h
    intro ρ2 H2 s2 k2
    refine ⟨P1, ρ2, es, S2, s2, ((q.next k1).next k2).more hp, ?_⟩
    have h : Aft G (fun cls d H' => W cls d σ H') P ρ1 H1 ((ePart mh es S2).bind fun b S3 => ofO (slF S3 r.weak a b) S3) Q := h
    cases z2 : ePart mh es S2 with
    | bad => rw [z2] at h; exact h
    | ex c p S3 => rw [z2] at h; exact fun cls d ρ3 H3 s3 k3 rx => h cls d ρ3 H3 (s3.less hp) (k2.trans k3) rx
    | ok b S3 =>
      rw [z2] at h
      intro ρ3 H3 s3 k3
      have h : Aft G (fun cls d H' => W cls d σ H') P ρ1 H1 (ofO (slF S3 r.weak a b) S3) Q := h
      cases z3 : slF S3 r.weak a b with
      | none => rw [z3] at h; exact h.elim
      | some ov =>
        rw [z3] at h
        rw [ha.k]
        exact sl_core s3 (RR.weak_mono (k2.trans k3) rr1) z3 (op_end s3 hp (Aft.next (k2.trans k3) h))
end

section
variable {G : GT} {W : WX} {X : Cx} {a b c : Expr} {ma mb : ME} {pos : Pos}
theorem se_add (ha : SE G W X a ma) (hb : SE G W X b mb) : SE G W X (.BinOp a .Add b pos) (eOp2 addF ma mb) := se_op2 op_addA (by rw [ha.k]; exact so_add) ha hb
theorem se_sub (ha : SE G W X a ma) (hb : SE G W X b mb) : SE G W X (.BinOp a .Sub b pos) (eOp2 subF ma mb) := se_op2 op_sub (so_ii fun _ _ _ _ => .int _) ha hb
theorem se_mul (ha : SE G W X a ma) (hb : SE G W X b mb) : SE G W X (.BinOp a .Mult b pos) (eOp2 mulF ma mb) := se_op2 op_mulA (by rw [ha.k]; exact so_mul) ha hb
theorem se_fdiv (ha : SE G W X a ma) (hb : SE G W X b mb) : SE G W X (.BinOp a .FloorDiv b pos) (eOp2 fdivF ma mb) := se_op2 op_fdivW (so_iic fun _ _ _ _ => .int _) ha hb
theorem se_mod (ha : SE G W X a ma) (hb : SE G W X b mb) : SE G W X (.BinOp a .Mod b pos) (eOp2 modF ma mb) := se_op2 op_mod (so_iic fun _ _ _ _ => .int _) ha hb
theorem se_pow (ha : SE G W X a ma) (hb : SE G W X b mb) : SE G W X (.BinOp a .Pow b pos) (eOp2 powF ma mb) := se_op2 op_pow (so_iic fun _ _ _ _ => .int _) ha hb
theorem so_neg : SO1 G (rU fun i => .int (-i)) negF := by
  intro P ρ H S r1 x Q ov s h1 e k
  unfold negF at e
  split at e
  · cases e
    cases h1
    exact ⟨_, rfl, op_d k (.int _)⟩
  · cases e
theorem se_neg (ha : SE G W X a ma) : SE G W X (.UnaryOp .USub a pos) (eOp1 negF ma) := se_un un_neg so_neg ha
theorem se_eq (hu : X.A.units + 64 < cLine) (ha : SE G W X a ma) (hb : SE G W X b mb) : SE G W X (.Compare a [.Eq] [b] pos) (eOp2 eqF ma mb) := se_cmp (op_eqD hu) (by rw [ha.k]; exact so_eq) ha hb (nomark _)
theorem se_sub_ (ha : SE G W X a ma) (hb : SE G W X b mb) (hp : PlainIx b := by intro _ _; rfl) : SE G W X (.Subscript a b pos) (eOp2 ixF ma mb) := se_ix ix_seq (by rw [ha.k]; exact so_ix) ha hb hp
end
section
variable {G : GT} {W : WX} {X : Cx} {a : Expr} {as : List Expr} {ms : List ME} {p pos : Pos}
theorem se_len (hg : Gl X "len") (hm : X.mg "len" = none) (ha : SA G W X (a :: as) ms) (he : starEach (a :: as) X.env = (false, eval a X.env) :: starEach as X.env := by rfl) (hpl : (backTo pos (starEach as X.env)).any (·.1) = false := by rfl) : SE G W X (.Call (.Name "len" p) (a :: as) [] pos) (eOpN lenF ms) :=
  se_callB call_len (by rw [ha.k]; exact so_len) hg hm (by decide +kernel) ha (by decide) (by decide) he hpl
theorem se_all (hc : X.calm = true) (hg : Gl X "all") (hm : X.mg "all" = none) (ha : SA G W X (a :: as) ms) (he : starEach (a :: as) X.env = (false, eval a X.env) :: starEach as X.env := by rfl) (hpl : (backTo pos (starEach as X.env)).any (·.1) = false := by rfl) : SE G W X (.Call (.Name "all" p) (a :: as) [] pos) (eOpN allF ms) :=
  se_callB (cr_all hc) (by rw [ha.k]; exact so_all) hg hm (by decide +kernel) ha (by decide) (by decide) he hpl
theorem se_max (hc : X.calm = true) (hg : Gl X "max") (hm : X.mg "max" = none) (ha : SA G W X (a :: as) ms) (he : starEach (a :: as) X.env = (false, eval a X.env) :: starEach as X.env := by rfl) (hpl : (backTo pos (starEach as X.env)).any (·.1) = false := by rfl) : SE G W X (.Call (.Name "max" p) (a :: as) [] pos) (eOpN maxF ms) :=
  se_callB (CallR.or (call_max2 hc) (cr_max hc)) (by rw [ha.k]; exact so_max) hg hm (by decide +kernel) ha (by decide) (by decide) he hpl
theorem se_min (hc : X.calm = true) (hg : Gl X "min") (hm : X.mg "min" = none) (ha : SA G W X (a :: as) ms) (he : starEach (a :: as) X.env = (false, eval a X.env) :: starEach as X.env := by rfl) (hpl : (backTo pos (starEach as X.env)).any (·.1) = false := by rfl) : SE G W X (.Call (.Name "min" p) (a :: as) [] pos) (eOpN minF ms) :=
  se_callB (CallR.or (call_min2 hc) (cr_min hc)) (by rw [ha.k]; exact so_min) hg hm (by decide +kernel) ha (by decide) (by decide) he hpl
theorem se_tuple (hg : Gl X "tuple") (hm : X.mg "tuple" = none) (ha : SA G W X (a :: as) ms) (he : starEach (a :: as) X.env = (false, eval a X.env) :: starEach as X.env := by rfl) (hpl : (backTo pos (starEach as X.env)).any (·.1) = false := by rfl) : SE G W X (.Call (.Name "tuple" p) (a :: as) [] pos) (eOpN tupF ms) :=
  se_callTy call_tupleK (by rw [ha.k]; exact so_tup) hg hm (by decide +kernel) ha (by decide) (by decide) he hpl
theorem se_list (hg : Gl X "list") (hm : X.mg "list" = none) (ha : SA G W X (a :: as) ms) (he : starEach (a :: as) X.env = (false, eval a X.env) :: starEach as X.env := by rfl) (hpl : (backTo pos (starEach as X.env)).any (·.1) = false := by rfl) : SE G W X (.Call (.Name "list" p) (a :: as) [] pos) (eOpN listF ms) :=
  se_callTy call_list_of (by rw [ha.k]; exact so_list) hg hm (by decide +kernel) ha (by decide) (by decide) he hpl
theorem se_intc (hg : Gl X "int") (hm : X.mg "int" = none) (ha : SA G W X (a :: as) ms) (he : starEach (a :: as) X.env = (false, eval a X.env) :: starEach as X.env := by rfl) (hpl : (backTo pos (starEach as X.env)).any (·.1) = false := by rfl) : SE G W X (.Call (.Name "int" p) (a :: as) [] pos) (eOpN intF ms) :=
  se_callTy call_int1 so_int hg hm (by decide +kernel) ha (by decide) (by decide) he hpl
theorem se_isi (hg : Gl X "isinstance") (hm : X.mg "isinstance" = none) (ha : SA G W X (a :: as) ms) (he : starEach (a :: as) X.env = (false, eval a X.env) :: starEach as X.env := by rfl) (hpl : (backTo pos (starEach as X.env)).any (·.1) = false := by rfl) : SE G W X (.Call (.Name "isinstance" p) (a :: as) [] pos) (eOpN isiF ms) :=
  se_callB (CallR.or call_isi call_isiQ) (by rw [ha.k]; exact so_isi) hg hm (by decide +kernel) ha (by decide) (by decide) he hpl
end
end DM

namespace DM
open PySem PySem.Spec L2

theorem bt_int : bootBuiltins "int" = some (.type "int") := by decide +kernel
theorem bt_bool : bootBuiltins "bool" = some (.type "bool") := by decide +kernel
def Cal (G : GT) (P : Program) (w : World) (K : PySem.W.Frag) (mg : Str → Option Value) (base : Heap) (k : Nat) (x : Str) (n : Nat) (m : MF) : Prop :=
  ∃ (f : Addr) (fd : FuncData) (ps : List Str), FnOk P w K mg base (L2.CX P w) k f fd ps (spM G n m) ∧ mg x = some (.ref f) ∧ PySem.W.keepIn K (.ref f) = true ∧ Binds K fd ps []
section
variable {G : GT} {P : Program} {w : World} {K : PySem.W.Frag} {mg : Str → Option Value} {base : Heap} {k n : Nat} {x qual : Str} {st : Stmt} {f : Addr} {fd : FuncData} {ps N : List Str} {m : MF}
theorem cal_mk (F : Fun K x qual st f fd) (hm : mg x = some (.ref f)) (hb : Binds K fd ps []) (h : FnOk P w K mg base (L2.CX P w) k f fd ps (spM G n m)) : Cal G P w K mg base k x n m := ⟨f, fd, ps, h, hm, F.kp, hb⟩
end
section
variable {G : GT} {W : WX} {X : Cx} {e : Expr} {as : List Expr} {ms : List ME} {m : MF} {p pos : Pos} {k n : Nat} {x : Str}
theorem se_callC (tk : Takes X W) (c : Cal G X.prog X.w X.K X.mg X.base k x n m) (hr : Room k X.A) (hg : Gl X x) (ha : SA G W X (e :: as) ms) (hn : ms.length = n := by rfl) (hdb : (x == ("__debug__" : Str)) = false := by decide)
    (he : starEach (e :: as) X.env = (false, eval e X.env) :: starEach as X.env := by rfl) (hpl : (backTo pos (starEach as X.env)).any (·.1) = false := by rfl) : SE G W X (.Call (.Name x p) (e :: as) [] pos) (eCall m ms) := by
  obtain ⟨f, fd, ps, F, hm, hk, hb⟩ := c
  exact se_call tk F hr hg hm hk hb ha hn hdb he hpl
end

def eChain (f g : F2) (a b c : ME) : ME := fun es S => (a es S).bind fun x S1 => (b es S1).bind fun y S2 => match f S2 x.weak y.weak with
  | some (.d (.bl true)) => (c es S2).bind fun z S3 => ofO (g S3 y.weak z.weak) S3
  | some (.d (.bl false)) => .ok (.d (.bl false)) S2
  | _ => .bad
section
variable {G : GT} {W : WX} {X : Cx} {a b c : Expr} {ma mb mc : ME} {pos : Pos}
theorem co_lt : OpR X (compareOp .Lt) (rI0 fun i j => .bl (decide (i < j))) ∧ SO2 G (rI0 fun i j => .bl (decide (i < j))) ltF := ⟨op_lt, so_ii fun _ _ _ _ => .bl _⟩
theorem co_le : OpR X (compareOp .LtE) (rI0 fun i j => .bl (decide (i ≤ j))) ∧ SO2 G (rI0 fun i j => .bl (decide (i ≤ j))) leF := ⟨op_le, so_ii fun _ _ _ _ => .bl _⟩
theorem se_chain {op op' : CmpOp} {r r' : R2} {f g : F2} (ho : OpR X (compareOp op) r ∧ SO2 G r f) (ho' : OpR X (compareOp op') r' ∧ SO2 G r' g) (ha : SE G W X a ma) (hb : SE G W X b mb) (hc : SE G W X c mc)
    (hm : lastMarks [op, op'] [b, c] = false := by with_unfolding_all rfl) : SE G W X (.Compare a [op, op'] [b, c] pos) (eChain f g ma mb mc) := by
  refine ⟨ha.k, PE.of (pe_chain ho.1 ho'.1 ha.pe hb.pe hc.pe hm) fun σ H Q h => ?_⟩
  obtain ⟨P, ρ, es, S, s, q, h⟩ := h
  have nl : ∀ (x y : RV) (S2 : Store) rv S', (match f S2 x.weak y.weak with
      | some (.d (.bl true)) => (mc es S2).bind fun z S3 => ofO (g S3 y.weak z.weak) S3
      | some (.d (.bl false)) => .ok (.d (.bl false)) S2
      | _ => Res.bad) = .ok rv S' → ∀ ds, rv ≠ .l false ds := by
    intro x y S2 rv S' e
    split at e
    · exact bind_rv (fun _ _ => ofO_rv) rv S' e
    · cases e; intro ds z; cases z
    · cases e
  refine rdE_then s q h fun r1 S1 v ρ1 H1 e1 s1 k1 rr h => ?_
  obtain ⟨P1, hp, s1', rr1⟩ := protect s1 rr
  refine rdE_then s1' ((q.next k1).more hp) (Aft.more hp (bind_rv fun y S2 => nl r1 y S2) h) fun r2 S2 w ρ2 H2 e2 s2 k2 rr2 h2 => ?_
  obtain ⟨P2, hp2, s2', rr2'⟩ := protect s2 rr2
  have h3 := Aft.more hp2 (nl r1 r2 S2) h2
  have sub : ∀ a o, P a = some o → P2 a = some o := fun a o z => hp2 a o (hp a o z)
  split at h3
  · rename_i ef
    refine ho.2 P2 ρ2 H2 S2 r1.weak r2.weak v w _ _ s2' (RR.more (RR.weak_mono k2 rr1) hp2) rr2' ef fun u H3 op => ?_
    obtain ⟨gr, ru⟩ := op
    cases ru
    refine ⟨true, rfl, ?_⟩
    show rdE G W mc σ H3 _
    have s3 := s2'.grow gr
    have tk3 : TK ρ2 H2 ρ2 H3 := TK.same gr
    have q3 := (((q.next k1).next k2).next tk3).more sub
    refine rdE_then s3 q3 (Aft.next tk3 h3) fun r4 S4 z ρ4 H4 e4 s4 k4 rr4 h4 => ?_
    obtain ⟨P4, hp4, s4', rr4'⟩ := protect s4 rr4
    cases eg : g S4 r2.weak r4.weak with
    | none => rw [eg] at h4; exact h4.elim
    | some ov =>
      rw [eg] at h4
      exact ho'.2 P4 ρ4 H4 S4 r2.weak r4.weak w z Q ov s4' (RR.more (RR.weak_mono (tk3.trans k4) rr2') hp4) rr4' eg (op_end s4' hp4 h4)
  · rename_i ef
    refine ho.2 P2 ρ2 H2 S2 r1.weak r2.weak v w _ _ s2' (RR.more (RR.weak_mono k2 rr1) hp2) rr2' ef fun u H3 op => ?_
    obtain ⟨gr, ru⟩ := op
    cases ru
    refine ⟨false, rfl, ?_⟩
    show Q (.bl false) H3
    exact h3 (.bl false) ρ2 H3 (s2'.grow gr) (TK.same gr) (.bl false)
  · exact h3.elim
end

def miRev (m : MQ) : MI := fun es S => (m es S).bind fun x S1 => .ok (x.1.reverse, chk x.2 x.1) S1
theorem drv_revL {G : GT} {P : Hp} {ρ : List Addr} {H : Hp} {S : Store} {k : SK} {ds : List D} {a : Addr} (h : SeqAt G P ρ H S k ds a) (ht : isT k = false) : Drv G P ρ H (Itv G.K a ds.length) ds.reverse (chk k ds) := by
  intro i ρ1 H1 S1 s1 k1 c1
  obtain ⟨vs, e, r⟩ := (h.next (fun _ _ e => e) k1 c1).list s1 ht
  refine ⟨fun hi => by rw [List.length_reverse] at hi; show ds.length ≤ i; omega, fun d hd => ?_⟩
  have hl : i < ds.length := by have := (List.getElem?_eq_some_iff.mp hd).1; rwa [List.length_reverse] at this
  rw [List.getElem?_reverse hl] at hd
  obtain ⟨v, hv, rv⟩ := r.get hd
  refine ⟨⟨hl, vs, v, SqL.of e, hv⟩, fun x H' hy => ?_⟩
  obtain ⟨rfl, f⟩ := hy
  have : x = v := Option.some.inj ((f vs (SqL.of e)).symm.trans hv)
  subst this
  exact ⟨fun _ _ e => e, rv⟩
theorem drv_revT {G : GT} {P : Hp} {ρ : List Addr} {H : Hp} {S : Store} {k : SK} {ds : List D} {a : Addr} (h : SeqAt G P ρ H S k ds a) (ht : isT k = true) : Drv G P ρ H (RT.ItvT G.K a ds.length) ds.reverse (chk k ds) := by
  intro i ρ1 H1 S1 s1 k1 c1
  obtain ⟨vs, e, r⟩ := (h.next (fun _ _ e => e) k1 c1).tuple ht
  refine ⟨fun hi => by rw [List.length_reverse] at hi; show ds.length ≤ i; omega, fun d hd => ?_⟩
  have hl : i < ds.length := by have := (List.getElem?_eq_some_iff.mp hd).1; rwa [List.length_reverse] at this
  rw [List.getElem?_reverse hl] at hd
  obtain ⟨v, hv, rv⟩ := r.get hd
  refine ⟨⟨hl, vs, v, e, hv⟩, fun x H' hy => ?_⟩
  obtain ⟨rfl, f⟩ := hy
  have : x = v := Option.some.inj ((f vs e).symm.trans hv)
  subst this
  exact ⟨fun _ _ e => e, rv⟩
theorem si_rev {G : GT} {W : WX} {X : Cx} {tg a : Expr} {p pos : Pos} {Rl : RL} {qa : MQ} (ha : SQ G W Rl X a qa) (hg : Gl X "reversed") (hm : X.mg "reversed" = none) (hs : starEach [a] X.env = (false, eval a X.env) :: starEach [] X.env := by rfl) (lw : Low Rl := by first | exact lowSS | exact lowES) :
    SIt G W Rl X tg (.Call (.Name "reversed" p) [a] [] pos) (miRev qa) := by
  obtain ⟨k, te, pe, ok⟩ := ha
  refine ⟨k, _, RT.pi_revA hg hm pe hs, fun P ρ H S σ es R s q h => ?_⟩
  refine ok P ρ H S σ es _ s q (AftQ.imp (AftQ.bindOk lw q h) fun x S1 P1 ρ1 H1 e1 hp1 s1 q1 t1 h x' at1 => ?_)
  have h' := h P1 ρ1 H1 (fun _ _ e => e) s1 q1 (TK.refl _ _)
  rw [k]
  cases ht : isT x.2 with
  | false =>
    obtain ⟨vs, e, r⟩ := at1.list s1 ht
    refine ⟨x', vs, rfl, .inl ⟨SqL.of e, ?_⟩⟩
    rw [← r.len]
    exact h' _ (drv_revL at1 ht)
  | true =>
    obtain ⟨vs, e, r⟩ := at1.tuple ht
    refine ⟨x', vs, rfl, .inr ⟨e, ?_⟩⟩
    rw [← r.len]
    exact h' _ (drv_revT at1 ht)
section
variable {G : GT} {W : WX} {X : Cx} {a b c : Expr} {ma mb mc : ME} {pos : Pos}
theorem sb_cmp {op : CmpOp} {r : R2} {f : Store → RV → RV → Option OV} (ho : OpR X (compareOp op) r) (hs : SO2 G r f) (ha : SE G W X a ma) (hb : SE G W X b mb) (hm : behindInMarks op b = false) : SB G W X (.Compare a [op] [b] pos) (bOf (eOp2 f ma mb)) :=
  ⟨ha.k, PT.of (pt_cmpR ho ha.pe hb.pe hm) fun _ _ _ h => op2_core hs (rd_bOf h fun b H1 q => ⟨b, rfl, q⟩)⟩
theorem sb_lt (ha : SE G W X a ma) (hb : SE G W X b mb) : SB G W X (.Compare a [.Lt] [b] pos) (bOf (eOp2 ltF ma mb)) := sb_cmp op_lt (so_ii fun _ _ _ _ => .bl _) ha hb (nomark _)
theorem sb_le (ha : SE G W X a ma) (hb : SE G W X b mb) : SB G W X (.Compare a [.LtE] [b] pos) (bOf (eOp2 leF ma mb)) := sb_cmp op_le (so_ii fun _ _ _ _ => .bl _) ha hb (nomark _)
theorem sb_gt (ha : SE G W X a ma) (hb : SE G W X b mb) : SB G W X (.Compare a [.Gt] [b] pos) (bOf (eOp2 gtF ma mb)) := sb_cmp op_gt (so_ii fun _ _ _ _ => .bl _) ha hb (nomark _)
theorem sb_ge (ha : SE G W X a ma) (hb : SE G W X b mb) : SB G W X (.Compare a [.GtE] [b] pos) (bOf (eOp2 geF ma mb)) := sb_cmp op_ge (so_ii fun _ _ _ _ => .bl _) ha hb (nomark _)
theorem sb_eq (hu : X.A.units + 64 < cLine) (ha : SE G W X a ma) (hb : SE G W X b mb) : SB G W X (.Compare a [.Eq] [b] pos) (bOf (eOp2 eqF ma mb)) := sb_cmp (op_eqD hu) (by rw [ha.k]; exact so_eq) ha hb (nomark _)
theorem sb_ne (hu : X.A.units + 64 < cLine) (ha : SE G W X a ma) (hb : SE G W X b mb) : SB G W X (.Compare a [.NotEq] [b] pos) (bOf (eOp2 neF ma mb)) := sb_cmp (op_neD hu) (by rw [ha.k]; exact so_ne) ha hb (nomark _)
theorem sb_is (ha : SE G W X a ma) (hb : SE G W X b mb) : SB G W X (.Compare a [.Is] [b] pos) (bOf (eOp2 isF ma mb)) := sb_cmp op_isN so_is ha hb (nomark _)
end
end DM

namespace DM
open PySem PySem.Spec L2

theorem scr_of {K : PySem.W.Frag} {H : Hp} {a : Addr} {ns : List Int} (hO : Only H) (h : SqL K H a (ns.map V.int)) : ScrAt K H a ns := by
  rcases h with h | h
  · rcases h with h | ⟨o, h⟩
    · rcases hO a with z | ⟨o, xs, z⟩
      · rw [z] at h; cases h
      · rw [z] at h; cases h
    · exact .inl ⟨o, h⟩
  · exact .inr fun H' => .inr h
theorem law_sp {G : GT} {m : MF} {H : Hp} {a : Addr} {ns : List Int} (hO : Only H) (h : SqL G.K H a (ns.map V.int)) (hm : ∃ S', m [.d (.scr ns)] [] = .ok (.d (.bl true)) S') : spM G 1 m [.ref a] H (fun v _ => v = .bl true) fun _ _ _ => False := by
  obtain ⟨S', e⟩ := hm
  refine ⟨rfl, fun _ => none, [], [.d (.scr ns)], [], ⟨rfl, List.nodup_nil, fun n a o h => by simp at h, fun a o h => by cases h⟩, .cons (.scr (scr_of hO h)) .nil, ?_⟩
  rw [e]
  intro v ρ' H' s t r
  cases r
  rfl
theorem noCX {P : Program} {w : World} {H : Hp} {s : Shared} {e : Value} {s' : Shared} : L2.CX P w [] H s (fun _ _ _ => False) e s' → False := by
  intro ⟨_, _, _, _, _, _, _, _, _, _, _, _, h⟩
  exact h
theorem walk_M {l : PySem.W.OpenLaw} {n k : Nat} {q : Program} {loose : List Str} {XP : (Str → Option Value) → Heap → Prop} {YP : World → Heap → Prop} {d : DefRec} {K : Params → PySem.W.Frag} {x : Str} {m : MF}
    (hn : l.most = some n) (hn2 : n ≤ sizeLine) (hdf : d.params.defaults = []) (hr : Room k callerA)
    (hY : ∀ (w : World) (h : Heap), YP w h → (K w.params).In h)
    (F : ∀ (w : World) (mg : Str → Option Value) (fa : Addr) (h : Heap), (K w.params).In h → h.Ns mainGlobals mg → mg d.name = some (.ref fa) →
      ∃ (cl fns : List Addr) (fd : FuncData), (∀ (s : Shared) (u : Value), BindsTo s fd ⟨[u], []⟩ [(x, u)]) ∧
        ∀ base : Heap, (K w.params).In base → base.Ns mainGlobals mg → FnOk l.prog w (K w.params) mg base (L2.CX l.prog w) k fa fd [x] (spM ⟨K w.params, cl, fns, fun _ _ _ _ => False⟩ 1 m))
    (hm : ∀ ns : List Int, ns.length ≤ n → ∃ S', m [.d (.scr ns)] [] = .ok (.d (.bl true)) S') :
    PySem.W.WalkO q loose XP YP l.row.toRowW d [] (fun f vs => PySem.call f vs) := by
  refine Att.attach_call hn hdf fun w s₀ s₁ mg mb fa o pm cd doc a vs ns G Y ho hd hcd hmg hobj hints hlen hg => ?_
  have KX := hY w _ Y
  obtain ⟨cl, fns, fd, hb, hF⟩ := F w mg fa _ KX G.T.g hmg
  exact law_call KX G.T.g G.T.b G.T.builtins G.T.nolimit hg hobj hints (Nat.le_trans hlen hn2) hr hF hb (fun H hO hS => law_sp hO hS (hm ns hlen)) fun H e s' => noCX
end DM

namespace DM
open PySem PySem.Spec L2

theorem Room.u65 {k : Nat} {A : Around} (r : Room k A) : A.units + 65 < cLine := by have := r.un; omega
structure RaiseF (K : PySem.W.Frag) (mg : Str → Option Value) (cl : List Addr) (n : Nat) (x : Str) : Prop where
  ex : ∃ C, cl[n]? = some C ∧ mg x = some (.ref C) ∧ PySem.W.keepIn K (.ref C) = true ∧ PySem.W.excIn K C [.type "ValueError", .type "Exception", .type "BaseException", .type "object"] "ValueError.__new__" = true ∧
    PySem.W.subIn K (.ref C) (.type "BaseException") = some true ∧ PySem.W.typeIn K (.ref C) = some (.type "type")
def sRaise (c : Nat) : MS := fun es S => .ex c [] es S
section
variable {G : GT} {W : WX} {X : Cx} {x m : Str} {n j : Nat} {p p2 pos pos2 : Pos}
theorem sp_raise (k : X.K = G.K) (tk : Takes X W) (hc : X.calm = true) (R : RaiseF X.K X.mg G.cls n x) (hg : Gl X x) (hdb : (x == ("__debug__" : Str)) = false := by decide) (h6 : n ≤ 6 := by decide) :
    SP1 G W X (.Raise (some (.Call (.Name x p) [.Constant (.str m) j p2] [] pos)) none pos2) (sRaise n) := by
  obtain ⟨C, hC, gC, kC, xC, bC, tC⟩ := R.ex
  refine ⟨k, PS.of (ps_raise hc tk (pmk_own PySem.F.excBase_ValueError xC gC kC (raises_own bC tC) hg hdb)) fun D σ H h => ?_⟩
  obtain ⟨P, ρ, es, S, s, q, h⟩ := h
  exact h (.ref C) none σ ρ H s q (TKS.refl _ _ _ _) ⟨C, h6, hC, rfl, .inl ⟨rfl, rfl⟩⟩
end
def sTry (n y : Nat) (b : MS) : MS := fun es S => match b es S with
  | .ex c [] es' S' => .nx ((es'.set y (.v (.exn c []))).set n .no) S'
  | .ex c [d] es' S' => .nx ((es'.set y (.v (.exn c [d]))).set n .no) S'
  | .ex _ _ _ _ => .bad
  | r => r
def CatchF (K : PySem.W.Frag) (mg : Str → Option Value) (cl : List Addr) (x : Str) : Prop := ∃ C, mg x = some (.ref C) ∧ ∀ (c : Nat) (D : Addr), c ≤ 6 → cl[c]? = some D → PySem.W.exmOne K (.ref D) (.ref C) = some true
theorem SS.grow {G : GT} {P : Hp} {ρ : List Addr} {H H' : Hp} {σ : St} {es : Env} (q : SS G P ρ H σ es) (g : ∀ a o, H a = some o → H' a = some o) : SS G P ρ H' σ es := by
  have k : TK ρ H ρ H' := TK.same g
  refine ⟨q.len, fun i d e => ?_, fun i ds e => ?_, fun i ds e => ?_, q.dis⟩
  · obtain ⟨x, h1, h2⟩ := q.val i d e
    exact ⟨x, h1, h2.mono k⟩
  · obtain ⟨a, vs, h1, h2, h3⟩ := q.bor i ds e
    exact ⟨a, vs, h1, h2, h3.mono k⟩
  · obtain ⟨a, vs, h1, h2, h3, h4⟩ := q.own i ds e
    exact ⟨a, vs, h1, g _ _ h2, h3.mono k, h4⟩
theorem sp_try {G : GT} {W : WX} {X : Cx} {x n y : Str} {i j : Nat} {body : List Stmt} {np pos pos' yp ep ap : Pos} {m : MS} (k : X.K = G.K) (hs : X.stack = X.env :: X.outer) (hf : X.env.frame = some X.env.locals) (hx : X.ex = []) (hN : X.N.Nodup) (hi : X.N[i]? = some n) (hj : X.N[j]? = some y)
    (hln : X.env.kindOf n = some .local) (hly : X.env.scope.names.lookup y = some .local) (tk : Takes X W) (C : CatchF X.K X.mg G.cls x) (hg : Gl X x) (ij : i ≠ j)
    (hb : ∀ (W' : WX) (pn : List (Addr × Obj)) (xe : Value → Shared → Prop), Takes (X.tr pn xe) W' → PassesOwn (model X.prog X.w) X.A X.env xe → SPs G W' (X.tr pn xe) body m)
    (hdb : (x == ("__debug__" : Str)) = false := by decide) (hdn : (n == ("__debug__" : Str)) = false := by decide) (hcn : (n == ("__classdict__" : Str)) = false := by decide) :
    SP1 G W X (.Try body [.ExceptHandler (some (.Name x np)) (some n) [.Assign [.Name y yp] (.Name n ep) ap] pos'] [] [] pos) (sTry i j m) := by
  obtain ⟨C, hm, hC⟩ := C
  refine ⟨k, PS.of (ps_try_keep hs hf hx hN hi hj hln hly ⟨hg, hdb, .inl hm⟩ tk hdn hcn fun W' pn xe t p => (hb W' pn xe t p).pss) fun D σ H h => ?_⟩
  obtain ⟨P, ρ, es, S, s, q, h⟩ := h
  refine ⟨P, ρ, es, S, s, q, ?_⟩
  unfold sTry at h
  cases e : m es S with
  | nx es' S' => rw [e] at h; exact h
  | rt r S' => rw [e] at h; exact h
  | bk es' S' => rw [e] at h; exact h
  | ct es' S' => rw [e] at h; exact h
  | bad => rw [e] at h; exact h
  | ex c p es' S' =>
    rw [e] at h
    have fin : ∀ (y : DM.D), AftS G W P ρ H σ es (.nx ((es'.set j (.v y)).set i .no) S') D → ∀ cls d σ' ρ' H', VS G P ρ' H' S' → SS G P ρ' H' σ' es' → TKS ρ H σ es ρ' H' σ' es' → (∃ C', c ≤ 6 ∧ G.cls[c]? = some C' ∧ cls = .ref C') →
        (∀ a oe, H' a = none → Zc cls d oe → (∃ vs, oe.data = .fields vs) → Rep G ρ' (upd H' a (ExK oe a)) y (.ref a)) → wKeep X.K (.ref C) i j W D cls d σ' H' := by
      intro y h cls d σ' ρ' H' vs ss tks hcl hr
      obtain ⟨C', h6, hC', rfl⟩ := hcl
      · refine ⟨true, hC c C' h6 hC', fun _ a oe na hz hf => ?_, fun z => nomatch z⟩
        have g : ∀ b o, H' b = some o → upd H' a (ExK oe a) b = some o := fun b o z => by rw [upd_ne (ne_of_none z na)]; exact z
        have r : Rep G ρ' (upd H' a (ExK oe a)) y (.ref a) := hr a oe na hz hf
        have q1 := (((ss.grow g).setV (i := j) r).setN (i := i) (x := none))
        have e1 : (((σ'.set i (some (.ref a))).set j (some (.ref a))).set i none) = (σ'.set j (some (.ref a))).set i none := by
          rw [List.set_comm _ _ ij, List.set_set]
        rw [e1]
        refine h _ ρ' _ (vs.grow g) q1 ⟨tks.tk.trans (TK.same g), fun j' ds z => ?_⟩
        have ni : i ≠ j' := fun w => by
          rw [List.getElem?_set, if_pos w] at z
          split at z <;> cases z
        rw [List.getElem?_set_ne ni] at z
        have nj : j ≠ j' := fun w => by
          rw [List.getElem?_set, if_pos w] at z
          split at z <;> cases z
        rw [List.getElem?_set_ne nj] at z
        rw [List.getElem?_set_ne ni, List.getElem?_set_ne nj]
        exact tks.bor j' ds z
    cases p with
    | nil =>
      intro cls d σ' ρ' H' vs ss tks rx
      obtain ⟨C', h6, hC', rfl, ⟨_, rfl⟩ | ⟨x', dx, v, z, _⟩⟩ := rx
      · exact fin _ h _ _ σ' ρ' H' vs ss tks ⟨C', h6, hC', rfl⟩ fun a oe na hz hf => .exn hC' upd_same hz hf
      · cases z
    | cons d0 p =>
      cases p with
      | cons _ _ => exact h.elim
      | nil =>
        intro cls d σ' ρ' H' vs ss tks rx
        obtain ⟨C', h6, hC', rfl, ⟨z, _⟩ | ⟨x', dx, v, z, rfl, hdx, rv⟩⟩ := rx
        · cases z
        · cases z
          refine fin _ h _ _ σ' ρ' H' vs ss tks ⟨C', h6, hC', rfl⟩ fun a oe na hz hf => ?_
          have g : ∀ b o, H' b = some o → upd H' a (ExK oe a) b = some o := fun b o z => by rw [upd_ne (ne_of_none z na)]; exact z
          exact .exo hC' upd_same hz hf (g _ _ hdx) (rv.mono (TK.same g))
def subX (c k : Nat) : Bool := k == c || k == 0
structure KinF (K : PySem.W.Frag) (cl : List Addr) : Prop where
  exc : ∀ (c : Nat) (C : Addr), 1 ≤ c → c ≤ 6 → cl[c]? = some C → ExcC K C
  kin : ∀ (c k : Nat) (C D : Addr), 1 ≤ c → c ≤ 6 → k ≤ 6 → cl[c]? = some C → cl[k]? = some D → PySem.W.kitOne K (.ref C) (.ref D) = some (subX c k)
  val : ∀ (c : Nat) (C : Addr), 1 ≤ c → c ≤ 6 → cl[c]? = some C → PySem.W.kitOne K (.ref C) (.type "ValueError") = some true
def rIsX (K : PySem.W.Frag) : List V → Hp → VK → Prop := fun xs H Q => ∃ (a C : Addr) (oe : Obj) (c : V) (cv : Value) (b : Bool) (d : Option Addr), xs = [.ref a, c] ∧ H a = some (ExK oe a) ∧ Zc (.ref C) d oe ∧ (∀ dx, d = some dx → ∃ fs, H dx = some (.xd fs)) ∧ (∃ vs, oe.data = .fields vs) ∧ ExcC K C ∧ (∀ u, RelV c u → u = cv) ∧ PySem.W.kitOne K (.ref C) cv = some b ∧ Q (.bl b) H
end DM
namespace L2
open PySem PySem.Spec PyProof.Rows
theorem call_isX {X : Cx} : CallR X (.builtin "isinstance") (DM.rIsX X.K) := by
  intro pins s σ H xs us Q I r h
  obtain ⟨a, D, oe, c, cv, b, d, rfl, ha, hz, hdx, hf, C, hcv, e, q⟩ := h
  cases r with
  | cons rx rr =>
    cases rr with
    | cons rt rr =>
      cases rr
      cases rx
      have ec := hcv _ rt
      subst ec
      have hget : s.heap.get? a = some oe := (I.hok a _ ha).1
      obtain ⟨vs, hv⟩ := hf
      have nc : PySem.W.notCls oe = true := by unfold PySem.W.notCls; rw [hv] <;> rfl
      have J : ∃ od, PySem.W.InstAt s.heap a oe D od := by
        cases d with
        | none => exact ⟨none, hget, hz.1, nc, by rw [hz.2]; trivial⟩
        | some dx =>
          obtain ⟨fs, hx⟩ := hdx dx rfl
          have hx : ObjOk X.prog X.w H s.heap dx (.xd fs) := I.hok dx _ hx
          obtain ⟨mA, hns, hr⟩ := hx
          obtain ⟨od, ho, hl⟩ := lookIn_ns hns
          exact ⟨some od, hget, hz.1, nc, by rw [hz.2]; exact ho⟩
      obtain ⟨od, J⟩ := J
      have hcl : (PySem.W.clsIn X.K D).isSome = true := by
        obtain ⟨cd, hc, _⟩ := PySem.W.any_some C.hd
        rw [hc]; rfl
      exact PySem.W.kia_one (PySem.W.kitx_exc hcl C.hg C.hk C.hs C.ha C.hn C.ht C.hm) I.kIn J e (fun z => nomatch z) fun tk => ⟨.bl b, H, I.kept (t' := tk) fun _ _ z => z, rfl, q⟩
theorem pe_callLS {X : Cx} {CX : CXT} {k i : Nat} {f : Addr} {fd : FuncData} {ps : List Str} {sp : Sp} {E : St → XK} {x : Str} {p pos : Pos} {e : Expr} {es : List Expr} {t : TA} (F : FnOk X.prog X.w X.K X.mg X.base CX k f fd ps sp) (hr : Room k X.A) (hN : X.N[i]? = some x) (hv : Vis X.env.scope x) (hk : PySem.W.keepIn X.K (.ref f) = true) (hb : Binds X.K fd ps []) (hx : ∀ σ, PassesAt CX X σ (E σ)) (ha : PA X (e :: es) t)
    (hdb : (x == ("__debug__" : Str)) = false) (hcd : (x == ("__classdict__" : Str)) = false)
    (he : starEach (e :: es) X.env = (false, eval e X.env) :: starEach es X.env) (hpl : (backTo pos (starEach es X.env)).any (·.1) = false) : PE X (.Call (.Name x p) (e :: es) [] pos) (fun σ H Q => σ[i]? = some (some (.ref f)) ∧ t σ H fun vs H1 => sp vs H1 Q (E σ)) := by
  refine ⟨fun pins s σ H Q I h => ?_⟩
  obtain ⟨hs, ht⟩ := h
  refine wpAny_Call_Name_kw (thn ((pe_var (pos := p) hN hv hdb hcd).run pins s σ H (fun v H1 => v = .ref f ∧ H1 = H) I ⟨.ref f, hs, rfl, rfl⟩) fun u s1 ⟨v, H1, I1, r1, q1⟩ => ?_)
  obtain ⟨rfl, rfl⟩ := q1
  cases r1
  refine PySem.W.callWith_K (h₀ := X.base) I.ok.mod.kin hk (thn (ha.run pos pins s1 σ _ _ I1 ht) fun us s2 ⟨vs, H2, I2, r, q⟩ => ⟨I2.kIn, ?_⟩) he hpl
  exact run_fnS F hr hb (hx σ) I2 r q
end L2
namespace DM
open PySem PySem.Spec L2
def isxF : FN := fun _ rs => match rs with
  | [.d (.exn c []), .d (.cls k)] => if 1 ≤ c ∧ c ≤ 5 ∧ k ≤ 6 then some (.d (.bl (subX c k))) else none
  | [.d (.exn c []), .d (.ty n)] => if 1 ≤ c ∧ c ≤ 5 ∧ n = "ValueError" then some (.d (.bl true)) else none
  | [.d (.exn c [_]), .d (.cls k)] => if c = 6 ∧ k ≤ 6 then some (.d (.bl (subX c k))) else none
  | [.d (.exn c [_]), .d (.ty n)] => if c = 6 ∧ n = "ValueError" then some (.d (.bl true)) else none
  | _ => none
theorem so_isx {G : GT} (F : KinF G.K G.cls) : SON G (rIsX G.K) isxF := fun P ρ H S rs vs Q ov s h e k => by
  unfold isxF at e
  split at e
  · rename_i c j
    obtain ⟨v, w, rfl, r1, r2⟩ := rrs2 h
    split at e
    · rename_i hc
      cases e
      cases r1 with
      | exn hC hH z f =>
        cases r2 with
        | cls hD => exact ⟨_, _, _, _, _, _, _, rfl, hH, z, (fun _ q => nomatch q), f, F.exc _ _ hc.1 (by omega) hC, fun u hu => hu, F.kin _ _ _ _ hc.1 (by omega) hc.2.2 hC hD, op_d k (.bl _)⟩
    · cases e
  · rename_i c n
    obtain ⟨v, w, rfl, r1, r2⟩ := rrs2 h
    split at e
    · rename_i hc
      cases e
      obtain ⟨h1, h2, rfl⟩ := hc
      cases r1 with
      | exn hC hH z f =>
        cases r2
        exact ⟨_, _, _, _, _, _, _, rfl, hH, z, (fun _ q => nomatch q), f, F.exc _ _ h1 (by omega) hC, fun u hu => hu, F.val _ _ h1 (by omega) hC, op_d k (.bl _)⟩
    · cases e
  · rename_i c x j
    obtain ⟨v, w, rfl, r1, r2⟩ := rrs2 h
    split at e
    · rename_i hc
      cases e
      obtain ⟨rfl, hj⟩ := hc
      cases r1 with
      | exo hC hH z f hd rx =>
        cases r2 with
        | cls hD => exact ⟨_, _, _, _, _, _, _, rfl, hH, z, (fun _ q => by cases q; exact ⟨_, hd⟩), f, F.exc _ _ (by omega) (by omega) hC, fun u hu => hu, F.kin _ _ _ _ (by omega) (by omega) hj hC hD, op_d k (.bl _)⟩
    · cases e
  · rename_i c x n
    obtain ⟨v, w, rfl, r1, r2⟩ := rrs2 h
    split at e
    · rename_i hc
      cases e
      obtain ⟨rfl, rfl⟩ := hc
      cases r1 with
      | exo hC hH z f hd rx =>
        cases r2
        exact ⟨_, _, _, _, _, _, _, rfl, hH, z, (fun _ q => by cases q; exact ⟨_, hd⟩), f, F.exc _ _ (by omega) (by omega) hC, fun u hu => hu, F.val _ _ (by omega) (by omega) hC, op_d k (.bl _)⟩
    · cases e
  · cases e
def eCallL (i : Nat) (tbl : Nat → MF) (ms : List ME) : ME := fun es S => match es[i]? with
  | some (.v (.fn n)) => eCall (tbl n) ms es S
  | _ => .bad
theorem Cal.mono {G : GT} {P : Program} {w : World} {K : PySem.W.Frag} {mg : Str → Option Value} {base : Heap} {j k n : Nat} {x : Str} {m : MF} (h : Cal G P w K mg base j x n m) (hk : j ≤ k) : Cal G P w K mg base k x n m := by
  obtain ⟨f, fd, ps, F, z⟩ := h
  exact ⟨f, fd, ps, F.mono hk, z⟩
def TblF (G : GT) (P : Program) (w : World) (K : PySem.W.Frag) (mg : Str → Option Value) (base : Heap) (k : Nat) (tbl : Nat → MF) : Prop :=
  ∀ (n : Nat) (f : Addr), G.fns[n]? = some f → ∃ (x : Str) (a : Nat), Cal G P w K mg base k x a (tbl n) ∧ mg x = some (.ref f) ∧ ∀ rs S, rs.length ≠ a → tbl n rs S = .bad
theorem eArgs_len {es : Env} : ∀ (ms : List ME) (S : Store) (rs : List RV) (S1 : Store), eArgs ms es S = .ok rs S1 → rs.length = ms.length := by
  intro ms
  induction ms with
  | nil => intro S rs S1 e; cases e; rfl
  | cons m ms ih =>
    intro S rs S1 e
    unfold eArgs at e
    cases z : m es S with
    | bad => rw [z] at e; cases e
    | ex c p S2 => rw [z] at e; cases e
    | ok r S2 =>
      rw [z] at e
      dsimp only [Res.bind] at e
      cases z2 : eArgs ms es S2 with
      | bad => rw [z2] at e; cases e
      | ex c p S2 => rw [z2] at e; cases e
      | ok rs2 S3 =>
        rw [z2] at e
        cases e
        simp [ih S2 rs2 _ z2]
section
variable {G : GT} {W : WX} {X : Cx} {e : Expr} {as : List Expr} {ms : List ME} {p pos : Pos} {k i : Nat} {x : Str} {tbl : Nat → MF}
theorem se_callL (tk : Takes X W) (T : TblF G X.prog X.w X.K X.mg X.base k tbl) (hr : Room k X.A) (hN : X.N[i]? = some x) (hv : Vis X.env.scope x) (ha : SA G W X (e :: as) ms) (hdb : (x == ("__debug__" : Str)) = false := by decide) (hcd : (x == ("__classdict__" : Str)) = false := by decide)
    (he : starEach (e :: as) X.env = (false, eval e X.env) :: starEach as X.env := by rfl) (hpl : (backTo pos (starEach as X.env)).any (·.1) = false := by rfl) : SE G W X (.Call (.Name x p) (e :: as) [] pos) (eCallL i tbl ms) := by
  refine ⟨ha.k, ⟨fun pins s σ H Q I h => ?_⟩⟩
  obtain ⟨P, ρ, es, S, sv, q, h⟩ := h
  unfold eCallL at h
  split at h
  · rename_i n en
    obtain ⟨v, hv1, rv⟩ := q.val i _ en
    cases rv with
    | fn hf =>
      obtain ⟨y, a, ⟨f', fd, ps, F, hm, hk, hb⟩, hm2, hbad⟩ := T n _ hf
      have ef := hm.symm.trans hm2
      cases ef
      by_cases hl : ms.length = a
      · exact (pe_callLS F hr hN hv hk hb (fun σ => passAt tk σ) ha.pa hdb hcd he hpl).run pins s σ H Q I ⟨hv1, call_core ⟨P, ρ, es, S, sv, q, h⟩ hl⟩
      · refine (pe_callLS F hr hN hv hk hb (fun σ => passAt tk σ) ha.pa hdb hcd he hpl).run pins s σ H Q I ⟨hv1, P, ρ, es, S, sv, q, ?_⟩
        unfold eCall at h
        cases z : eArgs ms es S with
        | bad => rw [z] at h; exact h
        | ex c p S1 => rw [z] at h; exact h
        | ok rs S1 =>
          rw [z] at h
          dsimp only [Res.bind] at h
          rw [hbad rs S1 (by rw [eArgs_len _ _ _ _ z]; exact hl)] at h
          exact h.elim
  · exact h.elim
theorem se_isx (F : KinF G.K G.cls) (hg : Gl X "isinstance") (hm : X.mg "isinstance" = none) {a : Expr} (ha : SA G W X (a :: as) ms) (he : starEach (a :: as) X.env = (false, eval a X.env) :: starEach as X.env := by rfl) (hpl : (backTo pos (starEach as X.env)).any (·.1) = false := by rfl) : SE G W X (.Call (.Name "isinstance" p) (a :: as) [] pos) (eOpN isxF ms) :=
  se_callB call_isX (by rw [ha.k]; exact so_isx F) hg hm (by decide +kernel) ha (by decide) (by decide) he hpl
end
section
variable {G : GT} {W : WX} {X : Cx} {x : Str} {n : Nat} {pos : Pos}
theorem se_clsE (k : X.K = G.K) (hg : Gl X x) (h : ∃ C, X.mg x = some (.ref C) ∧ G.cls[n]? = some C) (hd : (x == ("__debug__" : Str)) = false := by decide) : SE G W X (.Name x pos) (eC (.cls n)) := by
  obtain ⟨C, h1, h2⟩ := h
  exact se_cls k hg h1 h2 hd
theorem se_fnE (k : X.K = G.K) (hg : Gl X x) (h : ∃ C, X.mg x = some (.ref C) ∧ G.fns[n]? = some C) (hd : (x == ("__debug__" : Str)) = false := by decide) : SE G W X (.Name x pos) (eC (.fn n)) := by
  obtain ⟨C, h1, h2⟩ := h
  exact se_fn k hg h1 h2 hd
theorem se_gintE {i : Int} (k : X.K = G.K) (hg : Gl X x) (h : ∃ t, X.mg x = some (.int i t)) (hd : (x == ("__debug__" : Str)) = false := by decide) : SE G W X (.Name x pos) (eC (.int i)) := by
  obtain ⟨t, h1⟩ := h
  exact se_gint k hg h1 hd
end
theorem kit_ref {K : PySem.W.Frag} {C D : Addr} {b : Bool} (hd : PySem.W.hasDictIn K D = true) (ht : PySem.W.typeIn K (.ref D) = some (.type "type")) (h4 : PySem.W.subIn K (.ref C) (.ref D) = some b) (hb : b = true ∨ (Value.ref C == Value.ref D) = false) : PySem.W.kitOne K (.ref C) (.ref D) = some b := by
  obtain ⟨cd, hc, _⟩ := PySem.W.any_some hd
  have e2 : ((PySem.W.clsIn K D).isSome && PySem.W.typeIn K (.ref D) == some (.type "type")) = true := by rw [hc, ht] <;> rfl
  unfold PySem.W.kitOne
  split
  · rename_i e
    rcases hb with rfl | hb
    · rfl
    · rw [hb] at e; cases e
  · show (if ((PySem.W.clsIn K D).isSome && PySem.W.typeIn K (.ref D) == some (.type "type")) = true then PySem.W.subIn K (.ref C) (.ref D) else none) = some b
    rw [if_pos e2]
    exact h4
theorem kit_val {K : PySem.W.Frag} {C : Addr} (h4 : PySem.W.subIn K (.ref C) (.type "ValueError") = some true) : PySem.W.kitOne K (.ref C) (.type "ValueError") = some true := by
  have e : (Value.ref C == Value.type "ValueError") = false := rfl
  have e2 : PySem.W.kitMeta "ValueError" = true := by decide +kernel
  unfold PySem.W.kitOne
  rw [e, if_neg (by decide)]
  show (if PySem.W.kitMeta "ValueError" = true then PySem.W.subIn K (.ref C) (.type "ValueError") else none) = _
  rw [if_pos e2]
  exact h4
theorem bt_ValueError : bootBuiltins "ValueError" = some (.type "ValueError") := by decide +kernel
end DM

namespace L2
open PySem PySem.Spec PyProof.Rows
section
variable {X : Cx}
theorem room_tup {d : PyData} {ds : List PyData} {A : Around} (h : SeqAt.shaped d = true) (hu : A.units + 65 < cLine) : A.units + 1 + min (PyData.depthAll ds) d.depth < cLine := by
  have h1 := SeqAt.depth_of_shaped h
  have h2 : min (PyData.depthAll ds) d.depth ≤ d.depth := Nat.min_le_right _ _
  omega
def rCntD (K : PySem.W.Frag) : V → List V → Hp → VK → Prop := fun x xs H Q => ∃ (a : Addr) (y : V) (d : PyData) (ds : List PyData), x = V.ref a ∧ xs = [y] ∧ Dp K H (V.ref a) (.list ds) ∧ Dp K H y d ∧ SeqAt.shaped (.list ds) = true ∧ SeqAt.shaped d = true ∧ Q (.int (ds.countP fun z => PyData.eqv z d : Nat)) H
theorem mt_countD (hu : X.A.units + 65 < cLine) : MtR X "list.count" (rCntD X.K) := by
  intro pins s σ H x xs v us Q I rx rxs h
  obtain ⟨a, y, d, ds, rfl, rfl, hl, hy, sl, sd, q⟩ := h
  cases rx
  cases rxs with
  | cons ry rt =>
    rename_i uy ut
    cases rt
    obtain ⟨bs, r1⟩ := Dp.reads I d y uy hy ry
    have hxs : PyData.canLayAll0 ds = true := SeqAt.canLay_of_shaped sl
    cases hl with
    | lst hs ha =>
      obtain ⟨its, rv, ⟨⟨cls, dd, data, sls⟩, n, ho, hc, hdn, hdt⟩, hlen⟩ := I.list hs
      obtain ⟨as, h4⟩ := Dp.readsAll I ds _ its ha rv
      exact SeqAt.count_list_data (vs := its.toArray) ⟨_, ho, hc, n, hdt⟩ (show ReadsAll s.heap its.toArray.toList ds as from h4) r1 (PyData.plainAll_of_canLay0 ds hxs) (PyData.plain_of_canLay0 d (SeqAt.canLay_of_shaped sd)) (room_tup sd hu) ⟨.int _, H, I.kept fun _ _ z => z, ⟨_, rfl⟩, q⟩
end
end L2
namespace DM
open PySem PySem.Spec L2
def inAny (p q : PyData) : Option Bool := match q with
  | .list ds => if SeqAt.shaped p = true ∧ SeqAt.shaped q = true then some (ds.any fun z => PyData.eqv z p) else none
  | .tuple ds => if SeqAt.shaped p = true ∧ SeqAt.shaped q = true then some (ds.any fun z => PyData.eqv z p) else none
  | _ => none
def inD (S : Store) (a b : RV) : Option Bool := match a, b with
  | .d (.str i), .d (.str j) => some (!(Builtin.Str.occurrences j i 0 j.length 1).isEmpty)
  | a, b => match pyR S a, pyR S b with
    | some p, some q => inAny p q
    | _, _ => none
def inF : F2 := fun S a b => (inD S a b).map fun k => .d (.bl k)
def notinF : F2 := fun S a b => (inD S a b).map fun k => .d (.bl (!k))
section
variable {G : GT} {W : WX} {X : Cx} {a b c : Expr} {ma mb mc : ME} {pos : Pos} {k : Nat}
end
abbrev FM := Store → RV → List RV → Option OV
def SOM (G : GT) (r : V → List V → Hp → VK → Prop) (f : FM) : Prop := ∀ P ρ H S x xs v vs (Q : VK) ov, VS G P ρ H S → RR G P ρ H x v → RRs G P ρ H xs vs → f S x xs = some ov → (∀ v H', OP G ρ H ov v H' → Q v H') → r v vs H Q
def tyF (T : String) (S : Store) (x : RV) : Bool := match x with
  | .d (.str _) => T == "str"
  | .d (.int _) => T == "int"
  | x => T == "list" && (lstOf S x).isSome
open Classical in
noncomputable def eMt (T : String) (f : FM) (o : ME) (ms : List ME) : ME := fun es S => (o es S).bind fun x S1 => if tyF T S1 x.weak = true then (eArgs ms es S1).bind fun xs S2 => ofO (f S2 x.weak xs) S2 else .bad
theorem tyF_ok {G : GT} {P : Hp} {ρ : List Addr} {H : Hp} {S : Store} {T : String} {r : RV} {v : V} (s : VS G P ρ H S) (h : RR G P ρ H r v) (e : tyF T S r = true) : tyV G.K T v H := by
  unfold tyF at e
  split at e
  · cases h; exact eq_of_beq e
  · cases h; exact eq_of_beq e
  · rw [Bool.and_eq_true] at e
    obtain ⟨e1, e2⟩ := e
    obtain ⟨ds, e2⟩ := Option.isSome_iff_exists.mp e2
    obtain ⟨a, vs, rfl, h1, _⟩ := lst_of s h e2
    exact .inl ⟨eq_of_beq e1, vs, SqL.of h1⟩
theorem bind_rvL {r : Res (List RV)} {f : List RV → Store → Res RV} (h : ∀ a S rv S', f a S = .ok rv S' → ∀ ds, rv ≠ .l false ds) : ∀ rv S', r.bind f = .ok rv S' → ∀ ds, rv ≠ .l false ds := by
  intro rv S' e
  cases r with
  | ok a S => exact h a S rv S' e
  | ex c p S => cases e
  | bad => cases e
section
variable {G : GT} {W : WX} {X : Cx} {o e : Expr} {as : List Expr} {mo : ME} {ms : List ME} {name : Str} {apos cpos : Pos} {T id : String} {r : V → List V → Hp → VK → Prop} {f : FM}
theorem se_mt (pa : PlainAttrs T) (slot : PySem.Slot T name id) (hty : typeOf (.builtin id) = pure (.type "method_descriptor")) (hm : MtR X id r) (hs : SOM G r f) (ho : SE G W X o mo) (ha : SA G W X (e :: as) ms)
    (hbase : attributeBase o name X.env (eval o X.env) = eval o X.env := by rfl)
    (hfew : ((backTo cpos (starEach (e :: as) X.env)).all (fun x => !x.1) && (backToKw cpos (keywordEach [] X.env)).all (fun x => x.1.isSome)
      && decide ((e :: as).length + ([] : List Keyword).length + (if ([] : List Keyword).isEmpty then 0 else 1) < 30)) = true := by rfl)
    (hline : (apos.endLine == cpos.line) = true := by rfl) (hst : starEach (e :: as) X.env = (false, eval e X.env) :: starEach as X.env := by rfl) (hplain : (backTo cpos (starEach as X.env)).any (·.1) = false := by rfl) :
    SE G W X (.Call (.Attribute o name apos) (e :: as) [] cpos) (eMt T f mo ms) := by
  refine ⟨ho.k, PE.of (pe_bm pa slot hty hm ho.pe ha.pa hbase hfew hline hst hplain) fun σ H Q h => ?_⟩
  obtain ⟨P, ρ, es, S, s, q, h⟩ := h
  refine rdE_then s q h fun x S1 v ρ1 H1 e1 s1 k1 rr h => ?_
  obtain ⟨P1, hp, s1', rr1⟩ := protect s1 rr
  by_cases ht : tyF T S1 x.weak = true
  · rw [if_pos ht] at h
    refine ⟨by rw [ho.k]; exact tyF_ok s1' rr1 ht, P1, ρ1, es, S1, s1', (q.next k1).more hp, ?_⟩
    have h := Aft.more hp (bind_rvL fun _ _ => ofO_rv) h
    cases e2 : eArgs ms es S1 with
    | bad => rw [e2] at h; exact h
    | ex c p S2 => rw [e2] at h; exact h
    | ok xs S2 =>
      rw [e2] at h
      intro vs P' ρ' H' hp' s' k' rrs
      dsimp only [Res.bind] at h
      cases e3 : f S2 x.weak xs with
      | none => rw [e3] at h; exact h.elim
      | some ov =>
        rw [e3] at h
        refine hs P' ρ' H' S2 x.weak xs v vs Q ov s' ?_ rrs e3 (op_end s' hp' (Aft.next k' h))
        exact RR.more (RR.weak_mono k' rr1) hp'
  · rw [if_neg ht] at h; exact h.elim
end
def cntF : FM := fun S x xs => match xs with
  | [y] => match pyR S x, pyR S y with
    | some (.list ds), some d => if SeqAt.shaped (.list ds) = true ∧ SeqAt.shaped d = true then some (.d (.int (ds.countP fun z => PyData.eqv z d : Nat))) else none
    | _, _ => none
  | _ => none
def idxF : FM := fun S x xs => match xs with
  | [y] => match pyR S x, pyR S y with
    | some (.list ds), some d => if SeqAt.shaped (.list ds) = true ∧ SeqAt.shaped d = true then (ds.findIdx? fun z => PyData.eqv z d).map fun j => .d (.int (j : Nat)) else none
    | _, _ => none
  | _ => none
theorem dp_ref {K : PySem.W.Frag} {H : Hp} {v : V} {ds : List PyData} (h : Dp K H v (.list ds)) : ∃ a, v = .ref a := by cases h; exact ⟨_, rfl⟩
theorem so_cnt {G : GT} : SOM G (rCntD G.K) cntF := by
  intro P ρ H S x xs v vs Q ov s h1 h2 e k
  unfold cntF at e
  split at e
  · rename_i y
    obtain ⟨w, rfl, r2⟩ := rrs1 h2
    split at e
    · rename_i ds d e1 e2
      split at e
      · rename_i hc
        cases e
        have d1 := dpR_of s h1 e1
        obtain ⟨a, rfl⟩ := dp_ref d1
        exact ⟨a, w, d, ds, rfl, rfl, d1, dpR_of s r2 e2, hc.1, hc.2, op_d k (.int _)⟩
      · cases e
    · cases e
  · cases e
theorem so_idx {G : GT} : SOM G (rIndexD G.K) idxF := by
  intro P ρ H S x xs v vs Q ov s h1 h2 e k
  unfold idxF at e
  split at e
  · rename_i y
    obtain ⟨w, rfl, r2⟩ := rrs1 h2
    split at e
    · rename_i ds d e1 e2
      split at e
      · rename_i hc
        cases z : ds.findIdx? fun z => PyData.eqv z d with
        | none => rw [z] at e; cases e
        | some j =>
          rw [z] at e
          cases e
          have d1 := dpR_of s h1 e1
          obtain ⟨a, rfl⟩ := dp_ref d1
          obtain ⟨hj, hp, hn⟩ := List.findIdx?_eq_some_iff_getElem.mp z
          refine ⟨a, w, d, ds, j, ds[j], rfl, rfl, d1, dpR_of s r2 e2, hc.1, hc.2, List.getElem?_eq_getElem hj, hp, fun m z' hm hz' => ?_, op_d k (.int _)⟩
          have hml : m < ds.length := by omega
          rw [List.getElem?_eq_getElem hml] at hz'
          cases hz'
          have := hn m hm
          simpa using this
      · cases e
    · cases e
  · cases e
section
variable {G : GT} {W : WX} {X : Cx} {o e : Expr} {as : List Expr} {mo : ME} {ms : List ME} {apos cpos : Pos} {k : Nat}
theorem se_count (hr : Room k X.A) (ho : SE G W X o mo) (ha : SA G W X (e :: as) ms)
    (hbase : attributeBase o "count" X.env (eval o X.env) = eval o X.env := by rfl)
    (hfew : ((backTo cpos (starEach (e :: as) X.env)).all (fun x => !x.1) && (backToKw cpos (keywordEach [] X.env)).all (fun x => x.1.isSome)
      && decide ((e :: as).length + ([] : List Keyword).length + (if ([] : List Keyword).isEmpty then 0 else 1) < 30)) = true := by rfl)
    (hline : (apos.endLine == cpos.line) = true := by rfl) (hst : starEach (e :: as) X.env = (false, eval e X.env) :: starEach as X.env := by rfl) (hplain : (backTo cpos (starEach as X.env)).any (·.1) = false := by rfl) :
    SE G W X (.Call (.Attribute o "count" apos) (e :: as) [] cpos) (eMt "list" cntF mo ms) :=
  se_mt PySem.F.plainAttrs_list PySem.F.slot_list_count PySem.F.type_list_count (mt_countD (Room.u65 hr)) (by rw [ho.k]; exact so_cnt) ho ha hbase hfew hline hst hplain
theorem se_index (hr : Room k X.A) (ho : SE G W X o mo) (ha : SA G W X (e :: as) ms)
    (hbase : attributeBase o "index" X.env (eval o X.env) = eval o X.env := by rfl)
    (hfew : ((backTo cpos (starEach (e :: as) X.env)).all (fun x => !x.1) && (backToKw cpos (keywordEach [] X.env)).all (fun x => x.1.isSome)
      && decide ((e :: as).length + ([] : List Keyword).length + (if ([] : List Keyword).isEmpty then 0 else 1) < 30)) = true := by rfl)
    (hline : (apos.endLine == cpos.line) = true := by rfl) (hst : starEach (e :: as) X.env = (false, eval e X.env) :: starEach as X.env := by rfl) (hplain : (backTo cpos (starEach as X.env)).any (·.1) = false := by rfl) :
    SE G W X (.Call (.Attribute o "index" apos) (e :: as) [] cpos) (eMt "list" idxF mo ms) :=
  se_mt PySem.F.plainAttrs_list PySem.F.slot_list_index PySem.F.type_list_index (mt_indexD (Room.u65 hr)) (by rw [ho.k]; exact so_idx) ho ha hbase hfew hline hst hplain
end
end DM

namespace DM
open PySem PySem.Spec L2

theorem nr {T : Sort _} {a b : T} (h : a = b) : a = b := h
abbrev QX := Nat → List D → Store → Prop
def WR {T : Type} (r : Res T) (Q : T → Store → Prop) (X : QX) : Prop := match r with
  | .ok a S => Q a S
  | .ex c p S => X c p S
  | .bad => False
structure En where
  nx : Env → Store → Prop
  rt : RV → Store → Prop
  bk : Env → Store → Prop
  ct : Env → Store → Prop
  ex : Nat → List D → Env → Store → Prop
def WS (r : SR) (E : En) : Prop := match r with
  | .nx es S => E.nx es S
  | .rt r S => E.rt r S
  | .bk es S => E.bk es S
  | .ct es S => E.ct es S
  | .ex c p es S => E.ex c p es S
  | .bad => False
def QO (o : Option OV) (S : Store) (Q : RV → Store → Prop) : Prop := match o with
  | some ov => Q ov.rv S
  | none => False
def QV (o : Option Slot) (S : Store) (Q : RV → Store → Prop) : Prop := match o with
  | some (.v x) => Q (.d x) S
  | some (.own ds) => Q (.l false ds) S
  | some (.bor ds) => Q (.l false ds) S
  | _ => False
def QI (r : RV) (S : Store) (Q : D → Store → Prop) : Prop := match r with
  | .d x => Q x S
  | .l true ds => Q (.loc S.length) (S ++ [.lst ds])
  | .l false _ => False
def QA (o : Option D) (S : Store) (Q : RV → Store → Prop) : Prop := match o with
  | some d => Q (.d d) S
  | none => False
theorem WR_bind {T U : Type} {r : Res T} {f : T → Store → Res U} {Q : U → Store → Prop} {X : QX} : WR (r.bind f) Q X = WR r (fun a S => WR (f a S) Q X) X := by cases r <;> rfl
theorem WR_mono {T : Type} {r : Res T} {Q Q' : T → Store → Prop} {X X' : QX} (h : WR r Q X) (hq : ∀ a S, Q a S → Q' a S) (hx : ∀ c p S, X c p S → X' c p S) : WR r Q' X' := by
  cases r with
  | ok a S => exact hq _ _ h
  | ex c p S => exact hx _ _ _ h
  | bad => exact h.elim
theorem WR_ofO {o : Option OV} {S : Store} {Q : RV → Store → Prop} {X : QX} : WR (ofO o S) Q X = QO o S Q := by cases o <;> rfl
theorem WR_item {r : RV} {S : Store} {Q : D → Store → Prop} {X : QX} : WR (item r S) Q X = QI r S Q := by
  cases r with
  | d x => rfl
  | l f ds => cases f <;> rfl
theorem WS_bindS {T : Type} {r : Res T} {es : Env} {f : T → Store → SR} {E : En} : WS (bindS r es f) E = WR r (fun a S => WS (f a S) E) (fun c p S => E.ex c p es S) := by cases r <;> rfl
theorem QV_v {x : D} {S : Store} {Q : RV → Store → Prop} : QV (some (.v x)) S Q = Q (.d x) S := nr rfl
theorem QV_own {x : List D} {S : Store} {Q : RV → Store → Prop} : QV (some (.own x)) S Q = Q (.l false x) S := nr rfl
theorem QV_bor {x : List D} {S : Store} {Q : RV → Store → Prop} : QV (some (.bor x)) S Q = Q (.l false x) S := nr rfl
theorem QI_d {x : D} {S : Store} {Q : D → Store → Prop} : QI (.d x) S Q = Q x S := nr rfl
theorem QI_l {ds : List D} {S : Store} {Q : D → Store → Prop} : QI (.l true ds) S Q = Q (.loc S.length) (S ++ [.lst ds]) := nr rfl
theorem QO_d {x : D} {S : Store} {Q : RV → Store → Prop} : QO (some (.d x)) S Q = Q (.d x) S := nr rfl
theorem QO_l {x : List D} {S : Store} {Q : RV → Store → Prop} : QO (some (.l x)) S Q = Q (.l true x) S := nr rfl
theorem QO_ite {c : Prop} [Decidable c] {o : OV} {S : Store} {Q : RV → Store → Prop} : QO (if c then some o else none) S Q = (c ∧ QO (some o) S Q) := by
  by_cases h : c
  · rw [if_pos h]; exact propext ⟨fun q => ⟨h, q⟩, fun q => q.2⟩
  · rw [if_neg h]; exact propext ⟨fun q => q.elim, fun q => (h q.1).elim⟩
theorem QO_A {o : Option D} {S : Store} {Q : RV → Store → Prop} : QO (o.map OV.d) S Q = QA o S Q := by cases o <;> rfl
theorem QA_s {d : D} {S : Store} {Q : RV → Store → Prop} : QA (some d) S Q = Q (.d d) S := nr rfl

section
variable {es : Env} {S : Store} {Q : RV → Store → Prop} {X : QX} {a b c m : ME} {ms : List ME} {f : F2} {g : F1} {h : FN} {t : MB}
theorem w_C {x : D} : WR (eC x es S) Q X = Q (.d x) S := nr rfl
theorem w_var {i : Nat} : WR (eVar i es S) Q X = QV es[i]? S Q := by
  unfold eVar QV
  cases es[i]? with
  | none => rfl
  | some s => cases s <;> rfl
def kA2 (f : F2) (b : ME) (es : Env) (Q : RV → Store → Prop) (X : QX) (x : RV) (S : Store) : Prop := WR (b es S) (fun y S2 => QO (f S2 x.weak y.weak) S2 Q) X
def kB2 (f : F2) (x : RV) (Q : RV → Store → Prop) (y : RV) (S : Store) : Prop := QO (f S x.weak y.weak) S Q
theorem kA2_e {x : RV} : kA2 f b es Q X x S = WR (b es S) (kB2 f x Q) X := nr rfl
theorem kB2_dd {x y : D} : kB2 f (.d x) Q (.d y) S = QO (f S (.d x) (.d y)) S Q := nr rfl
theorem kB2_ld {p : Bool} {x : List D} {y : D} : kB2 f (.l p x) Q (.d y) S = QO (f S (.l false x) (.d y)) S Q := nr rfl
theorem kB2_dl {p : Bool} {y : List D} {x : D} : kB2 f (.d x) Q (.l p y) S = QO (f S (.d x) (.l false y)) S Q := nr rfl
theorem kB2_ll {p q : Bool} {x y : List D} : kB2 f (.l p x) Q (.l q y) S = QO (f S (.l false x) (.l false y)) S Q := nr rfl
theorem w_op2 : WR (eOp2 f a b es S) Q X = WR (a es S) (kA2 f b es Q X) X := by
  unfold eOp2 kA2
  simp only [WR_bind, WR_ofO]
def kA1 (g : F1) (Q : RV → Store → Prop) (x : RV) (S : Store) : Prop := QO (g S x.weak) S Q
theorem kA1_d {x : D} : kA1 g Q (.d x) S = QO (g S (.d x)) S Q := nr rfl
theorem w_op1 : WR (eOp1 g a es S) Q X = WR (a es S) (kA1 g Q) X := by
  unfold eOp1 kA1
  simp only [WR_bind, WR_ofO]
def kArg2 (r : RV) (Q : List RV → Store → Prop) (rs : List RV) (S : Store) : Prop := Q (r.weak :: rs) S
def kArg (ms : List ME) (es : Env) (Q : List RV → Store → Prop) (X : QX) (r : RV) (S : Store) : Prop := WR (eArgs ms es S) (kArg2 r Q) X
theorem kArg_e {Q : List RV → Store → Prop} {r : RV} : kArg ms es Q X r S = WR (eArgs ms es S) (kArg2 r Q) X := nr rfl
theorem kArg2_d {Q : List RV → Store → Prop} {x : D} {rs : List RV} : kArg2 (.d x) Q rs S = Q (.d x :: rs) S := nr rfl
theorem kArg2_l {Q : List RV → Store → Prop} {p : Bool} {x : List D} {rs : List RV} : kArg2 (.l p x) Q rs S = Q (.l false x :: rs) S := nr rfl
theorem w_args0 {Q : List RV → Store → Prop} : WR (eArgs [] es S) Q X = Q [] S := nr rfl
theorem w_args {Q : List RV → Store → Prop} : WR (eArgs (m :: ms) es S) Q X = WR (m es S) (kArg ms es Q X) X := by
  show WR ((m es S).bind _) Q X = _
  simp only [WR_bind]
  rfl
def kOpN (h : FN) (Q : RV → Store → Prop) (rs : List RV) (S : Store) : Prop := QO (h S rs) S Q
theorem kOpN_e {rs : List RV} : kOpN h Q rs S = QO (h S rs) S Q := nr rfl
theorem w_opN : WR (eOpN h ms es S) Q X = WR (eArgs ms es S) (kOpN h Q) X := by
  unfold eOpN kOpN
  simp only [WR_bind, WR_ofO]
def kIt3 (d : D) (Q : List D → Store → Prop) (ds : List D) (S : Store) : Prop := Q (d :: ds) S
def kIt2 (ms : List ME) (es : Env) (Q : List D → Store → Prop) (X : QX) (d : D) (S : Store) : Prop := WR (eItems ms es S) (kIt3 d Q) X
def kIt (ms : List ME) (es : Env) (Q : List D → Store → Prop) (X : QX) (r : RV) (S : Store) : Prop := QI r S (kIt2 ms es Q X)
theorem kIt_e {Q : List D → Store → Prop} {r : RV} : kIt ms es Q X r S = QI r S (kIt2 ms es Q X) := nr rfl
theorem kIt2_e {Q : List D → Store → Prop} {d : D} : kIt2 ms es Q X d S = WR (eItems ms es S) (kIt3 d Q) X := nr rfl
theorem kIt3_e {Q : List D → Store → Prop} {d : D} {ds : List D} : kIt3 d Q ds S = Q (d :: ds) S := nr rfl
theorem w_items0 {Q : List D → Store → Prop} : WR (eItems [] es S) Q X = Q [] S := nr rfl
theorem w_items {Q : List D → Store → Prop} : WR (eItems (m :: ms) es S) Q X = WR (m es S) (kIt ms es Q X) X := by
  show WR (((m es S).bind item).bind _) Q X = _
  simp only [WR_bind, WR_item]
  rfl
def kTup (Q : RV → Store → Prop) (ds : List D) (S : Store) : Prop := ds.length ≤ sizeLine ∧ Q (.d (.tup ds)) S
def kLst (Q : RV → Store → Prop) (ds : List D) (S : Store) : Prop := ds.length ≤ sizeLine ∧ Q (.l true ds) S
theorem kTup_e {ds : List D} : kTup Q ds S = (ds.length ≤ sizeLine ∧ Q (.d (.tup ds)) S) := nr rfl
theorem kLst_e {ds : List D} : kLst Q ds S = (ds.length ≤ sizeLine ∧ Q (.l true ds) S) := nr rfl
theorem WR_ite {T : Type} {c : Prop} {hc : Decidable c} {r : Res T} {Q : T → Store → Prop} : WR (@ite _ c hc r .bad) Q X = (c ∧ WR r Q X) := by
  by_cases h : c
  · rw [if_pos h]; exact propext ⟨fun q => ⟨h, q⟩, fun q => q.2⟩
  · rw [if_neg h]; exact propext ⟨fun q => q.elim, fun q => (h q.1).elim⟩
theorem w_tup : WR (eTup ms es S) Q X = WR (eItems ms es S) (kTup Q) X := by
  unfold eTup kTup
  simp only [WR_bind, WR_ite]
  rfl
theorem w_lst : WR (eLst ms es S) Q X = WR (eItems ms es S) (kLst Q) X := by
  unfold eLst kLst
  simp only [WR_bind, WR_ite]
  rfl
def kB (Q : Bool → Store → Prop) (r : RV) (S : Store) : Prop := match r with
  | .d (.bl b) => Q b S
  | _ => False
theorem kB_e {Q : Bool → Store → Prop} {b : Bool} : kB Q (.d (.bl b)) S = Q b S := nr rfl
theorem w_bOf {Q : Bool → Store → Prop} : WR (bOf m es S) Q X = WR (m es S) (kB Q) X := by
  unfold bOf kB
  simp only [WR_bind]
  congr 1
  funext r S1
  cases r with
  | l _ _ => rfl
  | d x => cases x <;> rfl
def kAnd (t : MB) (es : Env) (Q : Bool → Store → Prop) (X : QX) (x : Bool) (S : Store) : Prop := if x = true then WR (t es S) Q X else Q false S
def kOr (t : MB) (es : Env) (Q : Bool → Store → Prop) (X : QX) (x : Bool) (S : Store) : Prop := if x = true then Q true S else WR (t es S) Q X
def kNot (Q : Bool → Store → Prop) (x : Bool) (S : Store) : Prop := Q (!x) S
theorem kAnd_t {Q : Bool → Store → Prop} : kAnd t es Q X true S = WR (t es S) Q X := nr rfl
theorem kAnd_f {Q : Bool → Store → Prop} : kAnd t es Q X false S = Q false S := nr rfl
theorem kOr_t {Q : Bool → Store → Prop} : kOr t es Q X true S = Q true S := nr rfl
theorem kOr_f {Q : Bool → Store → Prop} : kOr t es Q X false S = WR (t es S) Q X := nr rfl
theorem kNot_e {Q : Bool → Store → Prop} {x : Bool} : kNot Q x S = Q (!x) S := nr rfl
theorem w_bAnd {t u : MB} {Q : Bool → Store → Prop} : WR (bAnd t u es S) Q X = WR (t es S) (kAnd u es Q X) X := by
  unfold bAnd kAnd
  simp only [WR_bind]
  congr 1
  funext x S1
  cases x <;> rfl
theorem w_bOr {t u : MB} {Q : Bool → Store → Prop} : WR (bOr t u es S) Q X = WR (t es S) (kOr u es Q X) X := by
  unfold bOr kOr
  simp only [WR_bind]
  congr 1
  funext x S1
  cases x <;> rfl
theorem w_bNot {Q : Bool → Store → Prop} : WR (bNot t es S) Q X = WR (t es S) (kNot Q) X := by
  unfold bNot kNot
  simp only [WR_bind]
  rfl
theorem w_bYes {Q : Bool → Store → Prop} : WR (bYes es S) Q X = Q true S := nr rfl
theorem kAnd_br {Q : Bool → Store → Prop} {x : Bool} (h1 : x = true → WR (t es S) Q X) (h2 : x = false → Q false S) : kAnd t es Q X x S := by
  cases x with
  | true => exact h1 rfl
  | false => exact h2 rfl
theorem kOr_br {Q : Bool → Store → Prop} {x : Bool} (h1 : x = true → Q true S) (h2 : x = false → WR (t es S) Q X) : kOr t es Q X x S := by
  cases x with
  | true => exact h1 rfl
  | false => exact h2 rfl
def kEAnd (b : ME) (es : Env) (Q : RV → Store → Prop) (X : QX) (x : Bool) (S : Store) : Prop := if x = true then WR (b es S) Q X else Q (.d (.bl false)) S
def kEOr (b : ME) (es : Env) (Q : RV → Store → Prop) (X : QX) (x : Bool) (S : Store) : Prop := if x = true then Q (.d (.bl true)) S else WR (b es S) Q X
def kENot (Q : RV → Store → Prop) (x : Bool) (S : Store) : Prop := Q (.d (.bl (!x))) S
theorem kEAnd_t : kEAnd b es Q X true S = WR (b es S) Q X := nr rfl
theorem kEAnd_f : kEAnd b es Q X false S = Q (.d (.bl false)) S := nr rfl
theorem kEOr_t : kEOr b es Q X true S = Q (.d (.bl true)) S := nr rfl
theorem kEOr_f : kEOr b es Q X false S = WR (b es S) Q X := nr rfl
theorem kENot_e {x : Bool} : kENot Q x S = Q (.d (.bl (!x))) S := nr rfl
theorem w_eAnd : WR (eAnd a b es S) Q X = WR (a es S) (kB (kEAnd b es Q X)) X := by
  unfold eAnd kB
  simp only [WR_bind]
  congr 1
  funext r S1
  split
  · rfl
  · rfl
  · rename_i h1 h2
    split
    · rename_i b
      cases b
      · exact absurd rfl h2
      · exact absurd rfl h1
    · rfl
theorem w_eOr : WR (eOr a b es S) Q X = WR (a es S) (kB (kEOr b es Q X)) X := by
  unfold eOr kB
  simp only [WR_bind]
  congr 1
  funext r S1
  split
  · rfl
  · rfl
  · rename_i h1 h2
    split
    · rename_i b
      cases b
      · exact absurd rfl h1
      · exact absurd rfl h2
    · rfl
theorem w_eNot : WR (eNot a es S) Q X = WR (a es S) (kB (kENot Q)) X := by
  unfold eNot kB
  simp only [WR_bind]
  congr 1
  funext r S1
  cases r with
  | l _ _ => rfl
  | d x => cases x <;> rfl
def kEIf (a b : ME) (es : Env) (Q : RV → Store → Prop) (X : QX) (x : Bool) (S : Store) : Prop := if x = true then WR (a es S) Q X else WR (b es S) Q X
theorem kEIf_t : kEIf a b es Q X true S = WR (a es S) Q X := nr rfl
theorem kEIf_f : kEIf a b es Q X false S = WR (b es S) Q X := nr rfl
theorem kEIf_br {x : Bool} (h1 : x = true → WR (a es S) Q X) (h2 : x = false → WR (b es S) Q X) : kEIf a b es Q X x S := by
  cases x with
  | true => exact h1 rfl
  | false => exact h2 rfl
theorem w_eIf : WR (eIf t a b es S) Q X = WR (t es S) (kEIf a b es Q X) X := by
  unfold eIf kEIf
  simp only [WR_bind]
  congr 1
  funext x S1
  cases x <;> rfl
def kCall (m : MF) (Q : RV → Store → Prop) (X : QX) (rs : List RV) (S : Store) : Prop := WR (okR (m rs S)) Q X
theorem kCall_e {m : MF} {rs : List RV} : kCall m Q X rs S = WR (okR (m rs S)) Q X := nr rfl
theorem w_call {m : MF} : WR (eCall m ms es S) Q X = WR (eArgs ms es S) (kCall m Q X) X := by
  unfold eCall kCall
  simp only [WR_bind]
theorem okR_d {x : D} : WR (okR (.ok (.d x) S)) Q X = Q (.d x) S := nr rfl
theorem okR_l {x : List D} : WR (okR (.ok (.l true x) S)) Q X = Q (.l true x) S := nr rfl
theorem okR_ex {n : Nat} {p : List D} : WR (okR (.ex n p S)) Q X = X n p S := nr rfl
def kPart2 (f : Option Int → Store → Prop) (r : RV) (S : Store) : Prop := match r with
  | .d (.int i) => f (some i) S
  | _ => False
theorem kPart2_e {f : Option Int → Store → Prop} {i : Int} : kPart2 f (.d (.int i)) S = f (some i) S := nr rfl
theorem w_part0 {Q : Option Int → Store → Prop} : WR (ePart none es S) Q X = Q none S := nr rfl
theorem w_part {Q : Option Int → Store → Prop} : WR (ePart (some m) es S) Q X = WR (m es S) (kPart2 Q) X := by
  unfold ePart kPart2
  simp only [WR_bind]
  congr 1
  funext r S1
  cases r with
  | l _ _ => rfl
  | d x => cases x <;> rfl
def kSl3 (r : RV) (lo : Option Int) (Q : RV → Store → Prop) (hi : Option Int) (S : Store) : Prop := QO (slF S r.weak lo hi) S Q
def kSl2 (r : RV) (hi : Option ME) (es : Env) (Q : RV → Store → Prop) (X : QX) (lo : Option Int) (S : Store) : Prop := WR (ePart hi es S) (kSl3 r lo Q) X
def kSl (lo hi : Option ME) (es : Env) (Q : RV → Store → Prop) (X : QX) (r : RV) (S : Store) : Prop := WR (ePart lo es S) (kSl2 r hi es Q X) X
theorem kSl3_d {x : D} {lo hi : Option Int} : kSl3 (.d x) lo Q hi S = QO (slF S (.d x) lo hi) S Q := nr rfl
theorem kSl3_l {p : Bool} {x : List D} {lo hi : Option Int} : kSl3 (.l p x) lo Q hi S = QO (slF S (.l false x) lo hi) S Q := nr rfl
theorem kSl2_e {r : RV} {hi : Option ME} {lo : Option Int} : kSl2 r hi es Q X lo S = WR (ePart hi es S) (kSl3 r lo Q) X := nr rfl
theorem kSl_e {r : RV} {lo hi : Option ME} : kSl lo hi es Q X r S = WR (ePart lo es S) (kSl2 r hi es Q X) X := nr rfl
theorem w_sl {lo hi : Option ME} : WR (eSl lo hi m es S) Q X = WR (m es S) (kSl lo hi es Q X) X := by
  unfold eSl kSl kSl2 kSl3
  simp only [WR_bind, WR_ofO]
def kCh2 (g : F2) (c : ME) (y : RV) (es : Env) (Q : RV → Store → Prop) (X : QX) (x : Bool) (S : Store) : Prop := if x = true then WR (c es S) (kB2 g y Q) X else Q (.d (.bl false)) S
def kCh1 (f g : F2) (c : ME) (x : RV) (es : Env) (Q : RV → Store → Prop) (X : QX) (y : RV) (S : Store) : Prop := kB2 f x (kB (kCh2 g c y es Q X)) y S
def kCh (f g : F2) (b c : ME) (es : Env) (Q : RV → Store → Prop) (X : QX) (x : RV) (S : Store) : Prop := WR (b es S) (kCh1 f g c x es Q X) X
theorem kCh_e {g : F2} {x : RV} : kCh f g b c es Q X x S = WR (b es S) (kCh1 f g c x es Q X) X := nr rfl
theorem kCh1_e {g : F2} {x y : RV} : kCh1 f g c x es Q X y S = kB2 f x (kB (kCh2 g c y es Q X)) y S := nr rfl
theorem kCh2_t {g : F2} {y : RV} : kCh2 g c y es Q X true S = WR (c es S) (kB2 g y Q) X := nr rfl
theorem kCh2_f {g : F2} {y : RV} : kCh2 g c y es Q X false S = Q (.d (.bl false)) S := nr rfl
theorem w_chain {g : F2} : WR (eChain f g a b c es S) Q X = WR (a es S) (kCh f g b c es Q X) X := by
  unfold eChain kCh kCh1 kCh2 kB2 QO
  simp only [WR_bind]
  congr 1
  funext x S1
  congr 1
  funext y S2
  cases f S2 x.weak y.weak with
  | none => rfl
  | some o =>
    cases o with
    | l _ => rfl
    | d d =>
      cases d <;> try rfl
      rename_i b
      cases b
      · rfl
      · show WR (Res.bind _ _) Q X = _
        simp only [WR_bind, WR_ofO]
        rfl
end
end DM

namespace DM
open PySem PySem.Spec L2

def sCut (m : MS) : MS := m
def eCut (m : ME) : ME := m
def En.seq (E : En) (b : MS) : En := ⟨fun es S => WS (b es S) E, E.rt, E.bk, E.ct, E.ex⟩
def kX (es : Env) (E : En) (c : Nat) (p : List D) (S : Store) : Prop := E.ex c p es S
section
variable {es es0 : Env} {S : Store} {E : En} {a b : MS} {m mi : ME} {t : MB} {i k : Nat}
theorem seq_nx : (E.seq b).nx es S = WS (b es S) E := nr rfl
theorem seq_rt {r : RV} : (E.seq b).rt r S = E.rt r S := nr rfl
theorem seq_bk : (E.seq b).bk es S = E.bk es S := nr rfl
theorem seq_ct : (E.seq b).ct es S = E.ct es S := nr rfl
theorem seq_ex {c : Nat} {p : List D} : (E.seq b).ex c p es S = E.ex c p es S := nr rfl
def En.cut (E : En) (P : Env → Store → Prop) : En := ⟨P, E.rt, E.bk, E.ct, E.ex⟩
theorem cut_nx {P : Env → Store → Prop} : (E.cut P).nx es S = P es S := nr rfl
theorem cut_rt {P : Env → Store → Prop} {r : RV} : (E.cut P).rt r S = E.rt r S := nr rfl
theorem cut_bk {P : Env → Store → Prop} : (E.cut P).bk es S = E.bk es S := nr rfl
theorem cut_ct {P : Env → Store → Prop} : (E.cut P).ct es S = E.ct es S := nr rfl
theorem cut_ex {P : Env → Store → Prop} {c : Nat} {p : List D} : (E.cut P).ex c p es S = E.ex c p es S := nr rfl
theorem w_cut : WS (sCut a es S) E = WS (a es S) E := nr rfl
theorem cut_seq (P : Env → Store → Prop) (h : WS (a es S) (E.cut P)) (k : ∀ es S, P es S → WS (b es S) E) : WS (sCut a es S) (E.seq b) := by
  show WS (a es S) (E.seq b)
  cases e : a es S with
  | nx es' S' => rw [e] at h; exact k _ _ h
  | rt r S' => rw [e] at h; exact h
  | bk es' S' => rw [e] at h; exact h
  | ct es' S' => rw [e] at h; exact h
  | ex c p es' S' => rw [e] at h; exact h
  | bad => rw [e] at h; exact h
theorem w_ecut {Q : RV → Store → Prop} {X : QX} : WR (eCut m es S) Q X = WR (m es S) Q X := nr rfl
theorem kX_e {c : Nat} {p : List D} : kX es E c p S = E.ex c p es S := nr rfl
theorem w_seq : WS (sSeq a b es S) E = WS (a es S) (E.seq b) := by
  unfold sSeq
  cases a es S <;> rfl
theorem w_nop : WS (sNop es S) E = E.nx es S := nr rfl
theorem w_brk : WS (sBrk es S) E = E.bk es S := nr rfl
theorem w_cnt : WS (sCnt es S) E = E.ct es S := nr rfl
def kIf (a b : MS) (es : Env) (E : En) (x : Bool) (S : Store) : Prop := if x = true then WS (a es S) E else WS (b es S) E
theorem kIf_t : kIf a b es E true S = WS (a es S) E := nr rfl
theorem kIf_f : kIf a b es E false S = WS (b es S) E := nr rfl
theorem kIf_br {x : Bool} (h1 : x = true → WS (a es S) E) (h2 : x = false → WS (b es S) E) : kIf a b es E x S := by
  cases x with
  | true => exact h1 rfl
  | false => exact h2 rfl
theorem w_if : WS (sIf t a b es S) E = WR (t es S) (kIf a b es E) (kX es E) := by
  unfold sIf kIf kX
  rw [WS_bindS]
  congr 1
  funext x S1
  cases x <;> rfl
def kRet (E : En) (r : RV) (S : Store) : Prop := match r with
  | .l false _ => False
  | r => E.rt r S
theorem kRet_d {x : D} : kRet E (.d x) S = E.rt (.d x) S := nr rfl
theorem kRet_l {x : List D} : kRet E (.l true x) S = E.rt (.l true x) S := nr rfl
theorem w_ret : WS (sRet m es S) E = WR (m es S) (kRet E) (kX es E) := by
  unfold sRet kRet kX
  rw [WS_bindS]
  congr 1
  funext r S1
  cases r with
  | d _ => rfl
  | l f _ => cases f <;> rfl
theorem w_retN : WS (sRetN es S) E = E.rt (.d .non) S := nr rfl
def QRV (o : Option Slot) (S : Store) (E : En) : Prop := match o with
  | some (.v x) => E.rt (.d x) S
  | some (.own ds) => E.rt (.l true ds) S
  | _ => False
theorem QRV_v {x : D} : QRV (some (.v x)) S E = E.rt (.d x) S := nr rfl
theorem QRV_own {x : List D} : QRV (some (.own x)) S E = E.rt (.l true x) S := nr rfl
theorem w_retV : WS (sRetV i es S) E = QRV es[i]? S E := by
  unfold sRetV QRV
  cases es[i]? with
  | none => rfl
  | some s => cases s <;> rfl
def kDrop (es : Env) (E : En) (_ : RV) (S : Store) : Prop := E.nx es S
theorem kDrop_e {r : RV} : kDrop es E r S = E.nx es S := nr rfl
theorem w_drop : WS (sDrop m es S) E = WR (m es S) (kDrop es E) (kX es E) := by
  unfold sDrop kDrop kX
  rw [WS_bindS]
  rfl
def kSet (i : Nat) (es : Env) (E : En) (r : RV) (S : Store) : Prop := match r with
  | .d x => E.nx (es.set i (.v x)) S
  | .l true ds => E.nx (es.set i (.own ds)) S
  | .l false _ => False
theorem kSet_d {x : D} : kSet i es E (.d x) S = E.nx (es.set i (.v x)) S := nr rfl
theorem kSet_l {x : List D} : kSet i es E (.l true x) S = E.nx (es.set i (.own x)) S := nr rfl
theorem w_set : WS (sSet i m es S) E = WR (m es S) (kSet i es E) (kX es E) := by
  unfold sSet kSet kX
  rw [WS_bindS]
  congr 1
  funext r S1
  cases r with
  | d _ => rfl
  | l f _ => cases f <;> rfl
def kSetS (i : Nat) (es : Env) (E : En) (r : RV) (S : Store) : Prop := QI r S fun x S1 => E.nx (es.set i (.v x)) S1
theorem kSetS_d {x : D} : kSetS i es E (.d x) S = E.nx (es.set i (.v x)) S := nr rfl
theorem kSetS_l {x : List D} : kSetS i es E (.l true x) S = E.nx (es.set i (.v (.loc S.length))) (S ++ [.lst x]) := nr rfl
theorem w_setS : WS (sSetS i m es S) E = WR (m es S) (kSetS i es E) (kX es E) := by
  unfold sSetS kSetS kX
  rw [WS_bindS]
  simp only [WR_bind, WR_item]
  rfl
def QMv (o : Option Slot) (i j : Nat) (es : Env) (S : Store) (E : En) : Prop := match o with
  | some (.own ds) => E.nx ((es.set j .no).set i (.own ds)) S
  | _ => False
theorem QMv_e {ds : List D} {j : Nat} : QMv (some (.own ds)) i j es S E = E.nx ((es.set j .no).set i (.own ds)) S := nr rfl
theorem w_move {j : Nat} : WS (sMove i j es S) E = QMv es[j]? i j es S E := by
  unfold sMove QMv
  cases es[j]? with
  | none => rfl
  | some s => cases s <;> rfl
def QG (o : Option Env) (S : Store) (E : En) : Prop := match o with
  | some es => E.nx es S
  | none => False
theorem QG_e : QG (some es) S E = E.nx es S := nr rfl
theorem tg_name {x : D} : tgName i x es = some (es.set i (.v x)) := nr rfl
theorem tg_tup {n : Nat} {gs : MGs} {ds : List D} : tgTup n gs (.tup ds) es = if ds.length = n then gs ds es else none := nr rfl
theorem tg_tup1 {gs : MGs} {x : D} : tgTup 1 gs (.tup [x]) es = gs [x] es := nr rfl
theorem tg_tup2 {gs : MGs} {x y : D} : tgTup 2 gs (.tup [x, y]) es = gs [x, y] es := nr rfl
theorem tg_tup3 {gs : MGs} {x y z : D} : tgTup 3 gs (.tup [x, y, z]) es = gs [x, y, z] es := nr rfl
theorem tg_tup4 {gs : MGs} {x y z u : D} : tgTup 4 gs (.tup [x, y, z, u]) es = gs [x, y, z, u] es := nr rfl
theorem tg_nil : tgNil [] es = some es := nr rfl
theorem tg_cons {g : MG} {gs : MGs} {d : D} {ds : List D} : tgCons g gs (d :: ds) es = (g d es).bind fun es1 => gs ds es1 := nr rfl
theorem ob_some {T U : Type} {a : T} {f : T → Option U} : (some a).bind f = f a := nr rfl
def kAsg (g : MG) (es : Env) (E : En) (r : RV) (S : Store) : Prop := QI r S fun x S1 => QG (g x es) S1 E
theorem kAsg_d {g : MG} {x : D} : kAsg g es E (.d x) S = QG (g x es) S E := nr rfl
theorem w_asg {g : MG} : WS (sAsg g m es S) E = WR (m es S) (kAsg g es E) (kX es E) := by
  unfold sAsg kAsg kX QG
  rw [WS_bindS]
  simp only [WR_bind, WR_item]
  congr 1
  funext r S1
  congr 1
  funext x S2
  cases g x es <;> rfl
def kPar (i j : Nat) (es : Env) (E : En) (ds : List D) (S : Store) : Prop := match ds with
  | [x, y] => E.nx ((es.set i (.v x)).set j (.v y)) S
  | _ => False
theorem kPar_e {j : Nat} {x y : D} : kPar i j es E [x, y] S = E.nx ((es.set i (.v x)).set j (.v y)) S := nr rfl
theorem w_par {j : Nat} {ms : List ME} : WS (sPar i j ms es S) E = WR (eItems ms es S) (kPar i j es E) (kX es E) := by
  unfold sPar kPar kX
  rw [WS_bindS]
  congr 1
  funext ds S1
  match ds with
  | [] => rfl
  | [_] => rfl
  | [_, _] => rfl
  | _ :: _ :: _ :: _ => rfl
def kSixN (o : Option Nat) (ds : List D) (k : Nat) (x : D) (es : Env) (E : En) (S : Store) : Prop := match o with
  | some j => E.nx (es.set k (.own (ds.set j x))) S
  | none => False
def kSixL (o : Option Nat) (ds : List D) (l : Nat) (x : D) (es : Env) (E : En) (S : Store) : Prop := match o with
  | some j => E.nx es (S.set l (.lst (ds.set j x)))
  | none => False
theorem kSixN_e {j : Nat} {ds : List D} {x : D} : kSixN (some j) ds k x es E S = E.nx (es.set k (.own (ds.set j x))) S := nr rfl
theorem kSixL_e {j l : Nat} {ds : List D} {x : D} : kSixL (some j) ds l x es E S = E.nx es (S.set l (.lst (ds.set j x))) := nr rfl
def QSt (o : Option O) (n : Int) (l : Nat) (x : D) (es : Env) (E : En) (S : Store) : Prop := match o with
  | some (.lst ds) => kSixL (ixN ds.length n) ds l x es E S
  | _ => False
theorem QSt_e {ds : List D} {n : Int} {l : Nat} {x : D} : QSt (some (.lst ds)) n l x es E S = kSixL (ixN ds.length n) ds l x es E S := nr rfl
def kSixO (ds : List D) (k : Nat) (x : D) (es : Env) (E : En) (r : RV) (S : Store) : Prop := match r with
  | .d (.int n) => kSixN (ixN ds.length n) ds k x es E S
  | _ => False
def kSixT (l : Nat) (x : D) (es : Env) (E : En) (r : RV) (S : Store) : Prop := match r with
  | .d (.int n) => QSt S[l]? n l x es E S
  | _ => False
theorem kSixO_e {ds : List D} {x : D} {n : Int} : kSixO ds k x es E (.d (.int n)) S = kSixN (ixN ds.length n) ds k x es E S := nr rfl
theorem kSixT_e {l : Nat} {x : D} {n : Int} : kSixT l x es E (.d (.int n)) S = QSt S[l]? n l x es E S := nr rfl
def QSix (o : Option Slot) (k : Nat) (mi : ME) (es : Env) (x : D) (S : Store) (E : En) : Prop := match o with
  | some (.own ds) => WR (mi es S) (kSixO ds k x es E) (kX es E)
  | some (.v (.loc l)) => WR (mi es S) (kSixT l x es E) (kX es E)
  | _ => False
theorem QSix_o {ds : List D} {x : D} : QSix (some (.own ds)) k mi es x S E = WR (mi es S) (kSixO ds k x es E) (kX es E) := nr rfl
theorem QSix_l {l : Nat} {x : D} : QSix (some (.v (.loc l))) k mi es x S E = WR (mi es S) (kSixT l x es E) (kX es E) := nr rfl
def kSix (k : Nat) (mi : ME) (es : Env) (E : En) (r : RV) (S : Store) : Prop := QI r S fun x S1 => QSix es[k]? k mi es x S1 E
theorem kSix_d {x : D} : kSix k mi es E (.d x) S = QSix es[k]? k mi es x S E := nr rfl
theorem kSix_l {x : List D} : kSix k mi es E (.l true x) S = QSix es[k]? k mi es (.loc S.length) (S ++ [.lst x]) E := nr rfl
theorem w_setix : WS (sSetIx k mi m es S) E = WR (m es S) (kSix k mi es E) (kX es E) := by
  unfold sSetIx kSix kX
  rw [WS_bindS]
  simp only [WR_bind, WR_item]
  congr 1
  funext r S1
  congr 1
  funext x S2
  unfold QSix
  cases es[k]? with
  | none => rfl
  | some s =>
    cases s with
    | no => rfl
    | bor _ => rfl
    | own ds =>
      show WS (bindS _ _ _) E = _
      rw [WS_bindS]
      show WR _ _ _ = WR _ _ _
      congr 1
      funext r S3
      cases r with
      | l _ _ => rfl
      | d y =>
        cases y <;> try rfl
        rename_i n
        show WS (match ixN ds.length n with | some j => _ | none => _) E = kSixN _ _ _ _ _ _ _
        cases ixN ds.length n <;> rfl
    | v y =>
      cases y <;> try rfl
      rename_i l
      show WS (bindS _ _ _) E = _
      rw [WS_bindS]
      show WR _ _ _ = WR _ _ _
      congr 1
      funext r S3
      cases r with
      | l _ _ => rfl
      | d y =>
        cases y <;> try rfl
        rename_i n
        show WS (match S3[l]? with | some (.lst ds) => (match ixN ds.length n with | some j => _ | none => _) | _ => _) E = QSt _ _ _ _ _ _ _
        cases S3[l]? with
        | none => rfl
        | some o =>
          cases o <;> try rfl
          rename_i ds
          show WS (match ixN ds.length n with | some j => _ | none => _) E = kSixL _ _ _ _ _ _ _
          cases ixN ds.length n <;> rfl
def kAppO (ds : List D) (k : Nat) (es : Env) (E : En) (r : RV) (S : Store) : Prop := QI r S fun x S1 => ds.length < sizeLine ∧ E.nx (es.set k (.own (ds ++ [x]))) S1
theorem kAppO_d {ds : List D} {x : D} : kAppO ds k es E (.d x) S = (ds.length < sizeLine ∧ E.nx (es.set k (.own (ds ++ [x]))) S) := nr rfl
theorem kAppO_l {ds : List D} {x : List D} : kAppO ds k es E (.l true x) S = (ds.length < sizeLine ∧ E.nx (es.set k (.own (ds ++ [.loc S.length]))) (S ++ [.lst x])) := nr rfl
def QAppT (o : Option O) (l : Nat) (x : D) (es : Env) (E : En) (S : Store) : Prop := match o with
  | some (.lst ds) => ds.length < sizeLine ∧ E.nx es (S.set l (.lst (ds ++ [x])))
  | _ => False
theorem QAppT_e {ds : List D} {l : Nat} {x : D} : QAppT (some (.lst ds)) l x es E S = (ds.length < sizeLine ∧ E.nx es (S.set l (.lst (ds ++ [x])))) := nr rfl
def kAppT (l : Nat) (es : Env) (E : En) (r : RV) (S : Store) : Prop := QI r S fun x S1 => QAppT S1[l]? l x es E S1
theorem kAppT_d {l : Nat} {x : D} : kAppT l es E (.d x) S = QAppT S[l]? l x es E S := nr rfl
theorem kAppT_l {l : Nat} {x : List D} : kAppT l es E (.l true x) S = QAppT (S ++ [.lst x])[l]? l (.loc S.length) es E (S ++ [.lst x]) := nr rfl
def QApp (o : Option Slot) (k : Nat) (m : ME) (es : Env) (S : Store) (E : En) : Prop := match o with
  | some (.own ds) => WR (m es S) (kAppO ds k es E) (kX es E)
  | some (.v (.loc l)) => (∃ ds, S[l]? = some (.lst ds)) ∧ WR (m es S) (kAppT l es E) (kX es E)
  | _ => False
theorem QApp_o {ds : List D} : QApp (some (.own ds)) k m es S E = WR (m es S) (kAppO ds k es E) (kX es E) := nr rfl
theorem QApp_l {l : Nat} : QApp (some (.v (.loc l))) k m es S E = ((∃ ds, S[l]? = some (.lst ds)) ∧ WR (m es S) (kAppT l es E) (kX es E)) := nr rfl
theorem WS_ite {c : Prop} {hc : Decidable c} {r : SR} : WS (@ite _ c hc r .bad) E = (c ∧ WS r E) := by
  by_cases h : c
  · rw [if_pos h]; exact propext ⟨fun q => ⟨h, q⟩, fun q => q.2⟩
  · rw [if_neg h]; exact propext ⟨fun q => q.elim, fun q => (h q.1).elim⟩
theorem w_app : WS (sApp k m es S) E = QApp es[k]? k m es S E := by
  unfold sApp QApp
  cases es[k]? with
  | none => rfl
  | some s =>
    cases s with
    | no => rfl
    | bor _ => rfl
    | own ds =>
      show WS (bindS _ _ _) E = _
      rw [WS_bindS]
      simp only [WR_bind, WR_item, WS_ite]
      rfl
    | v y =>
      cases y <;> try rfl
      rename_i l
      show WS (match S[l]? with | some (.lst _) => _ | _ => _) E = (_ ∧ _)
      cases e : S[l]? with
      | none => exact propext ⟨fun q => q.elim, fun ⟨⟨_, z⟩, _⟩ => by cases z⟩
      | some o =>
        cases o with
        | dic _ => exact propext ⟨fun q => q.elim, fun ⟨⟨_, z⟩, _⟩ => by cases z⟩
        | ins _ _ => exact propext ⟨fun q => q.elim, fun ⟨⟨_, z⟩, _⟩ => by cases z⟩
        | obj _ _ => exact propext ⟨fun q => q.elim, fun ⟨⟨_, z⟩, _⟩ => by cases z⟩
        | lst d0 =>
          show WS (bindS _ _ _) E = _
          rw [WS_bindS]
          simp only [WR_bind, WR_item]
          refine (propext ⟨fun q => ⟨⟨_, rfl⟩, ?_⟩, fun q => ?_⟩)
          · refine WR_mono q (fun r S1 h => ?_) fun _ _ _ h => h
            unfold kAppT
            have e2 : (fun a S => WS (match S[l]? with | some (O.lst ds) => @ite _ (ds.length < sizeLine) _ (SR.nx es (S.set l (O.lst (ds ++ [a])))) SR.bad | _ => SR.bad) E) = fun x S1 => QAppT S1[l]? l x es E S1 := by
              funext x S2
              unfold QAppT
              cases S2[l]? with
              | none => rfl
              | some o => cases o <;> first | rfl | exact WS_ite
            rw [← e2]
            exact h
          · refine WR_mono q.2 (fun r S1 h => ?_) fun _ _ _ h => h
            unfold kAppT at h
            have e2 : (fun a S => WS (match S[l]? with | some (O.lst ds) => @ite _ (ds.length < sizeLine) _ (SR.nx es (S.set l (O.lst (ds ++ [a])))) SR.bad | _ => SR.bad) E) = fun x S1 => QAppT S1[l]? l x es E S1 := by
              funext x S2
              unfold QAppT
              cases S2[l]? with
              | none => rfl
              | some o => cases o <;> first | rfl | exact WS_ite
            rw [← e2] at h
            exact h
def kExtO (ds : List D) (k : Nat) (es : Env) (E : En) (r : RV) (S : Store) : Prop := match lstOf S r.weak with
  | some ys => ds.length + ys.length ≤ sizeLine ∧ E.nx (es.set k (.own (ds ++ ys))) S
  | none => False
theorem kExtO_l {ds ys : List D} {p : Bool} : kExtO ds k es E (.l p ys) S = (ds.length + ys.length ≤ sizeLine ∧ E.nx (es.set k (.own (ds ++ ys))) S) := nr rfl
def QExt (o : Option Slot) (k : Nat) (m : ME) (es : Env) (S : Store) (E : En) : Prop := match o with
  | some (.own ds) => WR (m es S) (kExtO ds k es E) (kX es E)
  | _ => False
theorem QExt_o {ds : List D} : QExt (some (.own ds)) k m es S E = WR (m es S) (kExtO ds k es E) (kX es E) := nr rfl
end
end DM

namespace DM
open PySem PySem.Spec L2

section
variable {es es0 : Env} {S : Store} {E : En} {a b : MS} {m n : ME} {i : Nat} {X : QX}
abbrev QM := List D × SK → Store → Prop
abbrev QMI := List D × (Store → Prop) → Store → Prop
def QSL (o : Option O) (n : Nat) (S : Store) (Q : QM) : Prop := match o with
  | some (.lst ds) => Q (ds, .s n) S
  | _ => False
def QS (x : D) (S : Store) (Q : QM) : Prop := match x with
  | .tup ds => Q (ds, .t) S
  | .loc n => QSL S[n]? n S Q
  | _ => False
theorem QS_t {ds : List D} {Q : QM} : QS (.tup ds) S Q = Q (ds, .t) S := nr rfl
theorem QS_l {n : Nat} {Q : QM} : QS (.loc n) S Q = QSL S[n]? n S Q := nr rfl
theorem QSL_e {n : Nat} {ds : List D} {Q : QM} : QSL (some (.lst ds)) n S Q = Q (ds, .s n) S := nr rfl
theorem WR_ofSeq {x : D} {Q : QM} : WR (ofSeq x S) Q X = QS x S Q := by
  cases x <;> try rfl
  rename_i n
  show WR (match S[n]? with | some (.lst ds) => _ | _ => _) Q X = QSL S[n]? n S Q
  cases S[n]? with
  | none => rfl
  | some o => cases o <;> rfl
def QQ (o : Option Slot) (S : Store) (Q : QM) : Prop := match o with
  | some (.bor ds) => Q (ds, .p) S
  | some (.v x) => QS x S Q
  | _ => False
theorem QQ_b {ds : List D} {Q : QM} : QQ (some (.bor ds)) S Q = Q (ds, .p) S := nr rfl
theorem QQ_v {x : D} {Q : QM} : QQ (some (.v x)) S Q = QS x S Q := nr rfl
theorem w_qVar {Q : QM} : WR (qVar i es S) Q X = QQ es[i]? S Q := by
  unfold qVar QQ
  cases es[i]? with
  | none => rfl
  | some s => cases s <;> first | rfl | exact WR_ofSeq
def kQE (Q : QM) (r : RV) (S : Store) : Prop := match r with
  | .l true ds => Q (ds, .p) S
  | .d x => QS x S Q
  | _ => False
theorem kQE_l {ds : List D} {Q : QM} : kQE Q (.l true ds) S = Q (ds, .p) S := nr rfl
theorem kQE_d {x : D} {Q : QM} : kQE Q (.d x) S = QS x S Q := nr rfl
theorem w_qE {Q : QM} : WR (qE m es S) Q X = WR (m es S) (kQE Q) X := by
  unfold qE kQE
  rw [WR_bind]
  congr 1
  funext r S1
  cases r with
  | d x => exact WR_ofSeq
  | l f _ => cases f <;> rfl
def kQC (Q : QM) (r : RV) (S : Store) : Prop := match r with
  | .l _ ds => Q (ds, .p) S
  | .d x => QS x S Q
theorem kQC_l {p : Bool} {ds : List D} {Q : QM} : kQC Q (.l p ds) S = Q (ds, .p) S := nr rfl
theorem kQC_d {x : D} {Q : QM} : kQC Q (.d x) S = QS x S Q := nr rfl
theorem w_qC {Q : QM} : WR (qC m es S) Q X = WR (m es S) (kQC Q) X := by
  unfold qC kQC
  rw [WR_bind]
  congr 1
  funext r S1
  cases r with
  | d x => exact WR_ofSeq
  | l f _ => rfl
def kSeq (Q : QMI) (x : List D × SK) (S : Store) : Prop := Q (x.1, chk x.2 x.1) S
theorem kSeq_e {ds : List D} {k : SK} {Q : QMI} : kSeq Q (ds, k) S = Q (ds, chk k ds) S := nr rfl
theorem w_miSeq {q : MQ} {Q : QMI} : WR (miSeq q es S) Q X = WR (q es S) (kSeq Q) X := by
  unfold miSeq
  rw [WR_bind]
  rfl
def kRev (Q : QMI) (x : List D × SK) (S : Store) : Prop := Q (x.1.reverse, chk x.2 x.1) S
theorem kRev_e {ds : List D} {k : SK} {Q : QMI} : kRev Q (ds, k) S = Q (ds.reverse, chk k ds) S := nr rfl
theorem w_miRev {q : MQ} {Q : QMI} : WR (miRev q es S) Q X = WR (q es S) (kRev Q) X := by
  unfold miRev
  rw [WR_bind]
  rfl
def kEnum (Q : QMI) (x : List D × SK) (S : Store) : Prop := isT x.2 = false ∧ Q (enumD x.1, chk x.2 x.1) S
theorem kEnum_e {ds : List D} {k : SK} {Q : QMI} : kEnum Q (ds, k) S = (isT k = false ∧ Q (enumD ds, chk k ds) S) := nr rfl
theorem w_miEnum {q : MQ} {Q : QMI} : WR (miEnum q es S) Q X = WR (q es S) (kEnum Q) X := by
  unfold miEnum
  simp only [WR_bind, WR_ite]
  rfl
def kZip2 (x : List D × SK) (Q : QMI) (y : List D × SK) (S : Store) : Prop := (isT x.2 = isT y.2 ∧ chk x.2 x.1 S) ∧ Q (zipD x.1 y.1, fun S => chk x.2 x.1 S ∧ chk y.2 y.1 S) S
def kZip (q : MQ) (es : Env) (Q : QMI) (X : QX) (x : List D × SK) (S : Store) : Prop := WR (q es S) (kZip2 x Q) X
theorem kZip_e {q : MQ} {x : List D × SK} {Q : QMI} : kZip q es Q X x S = WR (q es S) (kZip2 x Q) X := nr rfl
theorem kZip2_e {ds ds' : List D} {k k' : SK} {Q : QMI} : kZip2 (ds, k) Q (ds', k') S = ((isT k = isT k' ∧ chk k ds S) ∧ Q (zipD ds ds', fun S => chk k ds S ∧ chk k' ds' S) S) := nr rfl
theorem w_miZip {p q : MQ} {Q : QMI} : WR (miZip p q es S) Q X = WR (p es S) (kZip q es Q X) X := by
  unfold miZip
  simp only [WR_bind, WR_ite]
  rfl
def rngD (n : Nat) : List D := (List.range n).map fun (i : Nat) => D.int (i : Int)
def rngD2 (a : Int) (n : Nat) : List D := (List.range n).map fun (i : Nat) => D.int (a + (i : Int))
def rngD3 (a c : Int) (n : Nat) : List D := (List.range n).map fun (i : Nat) => D.int (a + (i : Int) * c)
def kR1 (Q : QMI) (rs : List RV) (S : Store) : Prop := match rs with
  | [.d (.int n)] => (-(2 ^ 62) ≤ n ∧ n < 2 ^ 62) ∧ Q (rngD n.toNat, fun _ => True) S
  | _ => False
theorem kR1_e {z : Int} {Q : QMI} : kR1 Q [.d (.int z)] S = ((-(2 ^ 62) ≤ z ∧ z < 2 ^ 62) ∧ Q (rngD z.toNat, fun _ => True) S) := nr rfl
theorem w_miRng1 {Q : QMI} : WR (miRng1 m es S) Q X = WR (eArgs [m] es S) (kR1 Q) X := by
  unfold miRng1
  rw [WR_bind]
  congr 1
  funext rs S1
  split
  · rw [WR_ite]; rfl
  · rename_i h
    match rs with
    | [] => rfl
    | [.l _ _] => rfl
    | [.d x] => cases x <;> first | rfl | exact (h _ rfl).elim
    | r :: _ :: _ =>
      cases r with
      | l _ _ => rfl
      | d x => cases x <;> rfl
def kR2 (Q : QMI) (rs : List RV) (S : Store) : Prop := match rs with
  | [.d (.int a), .d (.int b)] => (-(2 ^ 62) ≤ a ∧ a < 2 ^ 62 ∧ -(2 ^ 62) ≤ b ∧ b < 2 ^ 62) ∧ Q (rngD2 a (b - a).toNat, fun _ => True) S
  | _ => False
theorem kR2_e {y z : Int} {Q : QMI} : kR2 Q [.d (.int y), .d (.int z)] S = ((-(2 ^ 62) ≤ y ∧ y < 2 ^ 62 ∧ -(2 ^ 62) ≤ z ∧ z < 2 ^ 62) ∧ Q (rngD2 y (z - y).toNat, fun _ => True) S) := nr rfl
def kR3 (Q : QMI) (rs : List RV) (S : Store) : Prop := match rs with
  | [.d (.int a), .d (.int b), .d (.int c)] => RgC a b c (Builtin.Range.rangeSize a b c).toNat ∧ Q (rngD3 a c (Builtin.Range.rangeSize a b c).toNat, fun _ => True) S
  | _ => False
theorem kR3_e {x y z : Int} {Q : QMI} : kR3 Q [.d (.int x), .d (.int y), .d (.int z)] S = (RgC x y z (Builtin.Range.rangeSize x y z).toNat ∧ Q (rngD3 x z (Builtin.Range.rangeSize x y z).toNat, fun _ => True) S) := nr rfl
theorem rngD_get {n j : Nat} {x : D} (h : (rngD n)[j]? = some x) : x = .int j ∧ j < n := by
  unfold rngD at h
  rw [List.getElem?_map] at h
  cases e : (List.range n)[j]? with
  | none => rw [e] at h; cases h
  | some k =>
    rw [e] at h
    have hl := (List.getElem?_eq_some_iff.mp e).1
    rw [List.length_range] at hl
    rw [List.getElem?_range hl] at e
    cases e
    exact ⟨(Option.some.inj h).symm, hl⟩
theorem rngD_len {n : Nat} : (rngD n).length = n := by simp [rngD]
theorem rngD2_len {a : Int} {n : Nat} : (rngD2 a n).length = n := by simp [rngD2]
theorem chk_t {ds : List D} : chk .t ds S = True := nr rfl
theorem chk_p {ds : List D} : chk .p ds S = True := nr rfl
theorem chk_s {k : Nat} {ds : List D} : chk (.s k) ds S = (S[k]? = some (.lst ds)) := nr rfl
theorem isT_t : isT .t = true := nr rfl
theorem isT_p : isT .p = false := nr rfl
theorem isT_s {k : Nat} : isT (.s k) = false := nr rfl

def kFor (g : MG) (b : MS) (es : Env) (E : En) (x : List D × (Store → Prop)) (S : Store) : Prop := WS (forL x.2 g b x.1 es S) E
theorem kFor_e {g : MG} {x : List D × (Store → Prop)} : kFor g b es E x S = WS (forL x.2 g b x.1 es S) E := nr rfl
theorem w_for {mi : MI} {g : MG} : WS (sFor mi g b es S) E = WR (mi es S) (kFor g b es E) (kX es E) := by
  unfold sFor kFor kX
  rw [WS_bindS]
def En.lp (E : En) (I : Env → Store → Prop) : En := ⟨I, E.rt, E.nx, I, E.ex⟩
theorem lp_nx {I : Env → Store → Prop} : (E.lp I).nx es S = I es S := nr rfl
theorem lp_rt {I : Env → Store → Prop} {r : RV} : (E.lp I).rt r S = E.rt r S := nr rfl
theorem lp_bk {I : Env → Store → Prop} : (E.lp I).bk es S = E.nx es S := nr rfl
theorem lp_ct {I : Env → Store → Prop} : (E.lp I).ct es S = I es S := nr rfl
theorem lp_ex {I : Env → Store → Prop} {c : Nat} {p : List D} : (E.lp I).ex c p es S = E.ex c p es S := nr rfl
theorem forL_inv {ck : Store → Prop} {g : MG} {ds : List D} (I : Nat → Env → Store → Prop) (hck : ∀ i es S, I i es S → ck S)
    (step : ∀ i x es S, ds[i]? = some x → I i es S → ∃ es1, g x es = some es1 ∧ WS (b es1 S) (E.lp (I (i + 1)))) (fin : ∀ es S, I ds.length es S → E.nx es S) :
    ∀ (xs : List D) (i : Nat) (es : Env) (S : Store), i + xs.length = ds.length → (∀ j, xs[j]? = ds[i + j]?) → I i es S → WS (forL ck g b xs es S) E
  | [], i, es, S, hl, _, h => by
    show WS (@ite _ (ck S) (Classical.propDecidable _) _ _) E
    rw [WS_ite]
    have e : i = ds.length := hl
    subst e
    exact ⟨hck _ _ _ h, fin _ _ h⟩
  | x :: xs, i, es, S, hl, hj, h => by
    show WS (@ite _ (ck S) (Classical.propDecidable _) _ _) E
    rw [WS_ite]
    refine ⟨hck _ _ _ h, ?_⟩
    obtain ⟨es1, e1, w⟩ := step i x es S ((hj 0).symm.trans rfl) h
    rw [e1]
    have ih : ∀ es S, I (i + 1) es S → WS (forL ck g b xs es S) E := fun es S q =>
      forL_inv I hck step fin xs (i + 1) es S (by simp at hl; omega) (fun j => by have := hj (j + 1); simp at this; rw [this]; congr 1; omega) q
    show WS (match b es1 S with | .nx es2 S2 => _ | .ct es2 S2 => _ | .bk es2 S2 => _ | r => r) E
    cases z : b es1 S with
    | nx es2 S2 => rw [z] at w; exact ih _ _ w
    | ct es2 S2 => rw [z] at w; exact ih _ _ w
    | bk es2 S2 => rw [z] at w; exact w
    | rt r S2 => rw [z] at w; exact w
    | ex c p es2 S2 => rw [z] at w; exact w
    | bad => rw [z] at w; exact w.elim
theorem for_inv {ck : Store → Prop} {g : MG} {ds : List D} (I : Nat → Env → Store → Prop) (h0 : I 0 es S) (hck : ∀ i es S, I i es S → ck S)
    (step : ∀ i x es S, ds[i]? = some x → I i es S → ∃ es1, g x es = some es1 ∧ WS (b es1 S) (E.lp (I (i + 1)))) (fin : ∀ es S, I ds.length es S → E.nx es S) : kFor g b es E (ds, ck) S :=
  forL_inv I hck step fin ds 0 es S (by simp) (fun j => by simp) h0
def En.fl (E : En) (ck : Store → Prop) (g : MG) (b : MS) (xs : List D) : En := ⟨fun es S => WS (forL ck g b xs es S) E, E.rt, E.nx, fun es S => WS (forL ck g b xs es S) E, E.ex⟩
def En.fb (E : En) (ck : Store → Prop) (g : MG) (b : MS) (xs : List D) : En := ⟨fun es S => WS (b es S) (E.fl ck g b xs), E.rt, E.bk, E.ct, E.ex⟩
theorem for_nil {ck : Store → Prop} {g : MG} : WS (forL ck g b [] es S) E = (ck S ∧ E.nx es S) := WS_ite
theorem for_cons {ck : Store → Prop} {g : MG} {x : D} {xs : List D} : WS (forL ck g b (x :: xs) es S) E = (ck S ∧ QG (g x es) S (E.fb ck g b xs)) := by
  show WS (@ite _ (ck S) (Classical.propDecidable _) _ _) E = _
  rw [WS_ite]
  congr 1
  cases g x es with
  | none => rfl
  | some es1 =>
    show WS (match b es1 S with | .nx es2 S2 => _ | .ct es2 S2 => _ | .bk es2 S2 => _ | r => r) E = WS (b es1 S) (E.fl ck g b xs)
    cases b es1 S <;> rfl
theorem fb_nx {ck : Store → Prop} {g : MG} {xs : List D} : (E.fb ck g b xs).nx es S = WS (b es S) (E.fl ck g b xs) := nr rfl
theorem fl_nx {ck : Store → Prop} {g : MG} {xs : List D} : (E.fl ck g b xs).nx es S = WS (forL ck g b xs es S) E := nr rfl
theorem fl_ct {ck : Store → Prop} {g : MG} {xs : List D} : (E.fl ck g b xs).ct es S = WS (forL ck g b xs es S) E := nr rfl
theorem fl_bk {ck : Store → Prop} {g : MG} {xs : List D} : (E.fl ck g b xs).bk es S = E.nx es S := nr rfl
theorem fl_rt {ck : Store → Prop} {g : MG} {xs : List D} {r : RV} : (E.fl ck g b xs).rt r S = E.rt r S := nr rfl
theorem fl_ex {ck : Store → Prop} {g : MG} {xs : List D} {c : Nat} {p : List D} : (E.fl ck g b xs).ex c p es S = E.ex c p es S := nr rfl
theorem while_inv {c : MB} (I : Nat → Env → Store → Prop)
    (step : ∀ k es S, I k es S → WR (c es S) (fun x S1 => (x = true → WS (b es S1) (E.lp fun es S => ∃ j, j < k ∧ I j es S)) ∧ (x = false → E.nx es S1)) (kX es E)) :
    ∀ (n k : Nat) (es : Env) (S : Store), I k es S → k < n → WS (sWhile c b n es S) E
  | 0, _, _, _, _, hk => by omega
  | n + 1, k, es, S, h, hk => by
    show WS (bindS _ _ _) E
    rw [WS_bindS]
    refine WR_mono (step k es S h) (fun x S1 q => ?_) fun _ _ _ h => h
    cases x with
    | false => exact q.2 rfl
    | true =>
      have w := q.1 rfl
      show WS (match b es S1 with | .nx es2 S2 => _ | .ct es2 S2 => _ | .bk es2 S2 => _ | r => r) E
      have ih : ∀ es S, (∃ j, j < k ∧ I j es S) → WS (sWhile c b n es S) E := fun es S ⟨j, hj, q⟩ => while_inv I step n j es S q (by omega)
      cases z : b es S1 with
      | nx es2 S2 => rw [z] at w; exact ih _ _ w
      | ct es2 S2 => rw [z] at w; exact ih _ _ w
      | bk es2 S2 => rw [z] at w; exact w
      | rt r S2 => rw [z] at w; exact w
      | ex c p es2 S2 => rw [z] at w; exact w
      | bad => rw [z] at w; exact w.elim
def frzQ (o : Option Slot) (i : Nat) (es : Env) : Env := match o with
  | some (.own ds) => es.set i (.bor ds)
  | _ => es
theorem frzS_e : frzS i es = frzQ es[i]? i es := nr rfl
theorem frzQ_o {ds : List D} : frzQ (some (.own ds)) i es = es.set i (.bor ds) := nr rfl
theorem frzQ_v {x : D} : frzQ (some (.v x)) i es = es := nr rfl
theorem frzQ_b {ds : List D} : frzQ (some (.bor ds)) i es = es := nr rfl
theorem frzQ_n : frzQ (some .no) i es = es := nr rfl
def unfQ (o o' : Option Slot) (i : Nat) (es : Env) : Env := match o, o' with
  | some (.own ds), some (.bor _) => es.set i (.own ds)
  | _, _ => es
theorem unfS_e : unfS i es0 es = unfQ es0[i]? es[i]? i es := nr rfl
theorem unfQ_o {ds ds' : List D} : unfQ (some (.own ds)) (some (.bor ds')) i es = es.set i (.own ds) := nr rfl
theorem unfQ_v {x : D} {o : Option Slot} : unfQ (some (.v x)) o i es = es := nr rfl
theorem unfQ_b {ds : List D} {o : Option Slot} : unfQ (some (.bor ds)) o i es = es := nr rfl
theorem unfQ_n {o : Option Slot} : unfQ (some .no) o i es = es := nr rfl
def En.unf (E : En) (i : Nat) (es0 : Env) : En := ⟨fun es S => E.nx (unfS i es0 es) S, E.rt, fun es S => E.bk (unfS i es0 es) S, fun es S => E.ct (unfS i es0 es) S, fun c p es S => E.ex c p (unfS i es0 es) S⟩
theorem unf_nx : (E.unf i es0).nx es S = E.nx (unfS i es0 es) S := nr rfl
theorem unf_rt {r : RV} : (E.unf i es0).rt r S = E.rt r S := nr rfl
theorem unf_bk : (E.unf i es0).bk es S = E.bk (unfS i es0 es) S := nr rfl
theorem unf_ct : (E.unf i es0).ct es S = E.ct (unfS i es0 es) S := nr rfl
theorem unf_ex {c : Nat} {p : List D} : (E.unf i es0).ex c p es S = E.ex c p (unfS i es0 es) S := nr rfl
theorem w_frz : WS (sFrz i a es S) E = WS (a (frzS i es) S) (E.unf i es) := by
  unfold sFrz
  cases a (frzS i es) S <;> rfl
theorem WR_noEx {T : Type} {r : Res T} {Q : T → Store → Prop} (h : WR r Q fun _ _ _ => False) : WR (noEx r) Q X := by
  cases r with
  | ok _ _ => exact h
  | ex _ _ _ => exact h.elim
  | bad => exact h
abbrev XF : QX := fun _ _ _ => False
def kComp (g : MG) (t : MB) (m : ME) (vs : List Nat) (es : Env) (Q : RV → Store → Prop) (X : QX) (x : List D × (Store → Prop)) (S : Store) : Prop :=
  x.1.length ≤ sizeLine ∧ WR (noEx (compL x.2 g t m (wipeE es vs) x.1 S)) (fun ds S2 => Q (.l true ds) S2) X
theorem w_comp {mi : MI} {g : MG} {t : MB} {vs : List Nat} {Q : RV → Store → Prop} : WR (eComp mi g t m vs es S) Q X = WR (mi es S) (kComp g t m vs es Q X) X := by
  unfold eComp kComp
  simp only [WR_bind, WR_ite]
  rfl
theorem compL_inv {ck : Store → Prop} {g : MG} {t : MB} {ds : List D} (I : Nat → List D → Store → Prop) (hck : ∀ i ys S, I i ys S → ck S)
    (step : ∀ i x ys S, ds[i]? = some x → I i ys S → ∃ es1, g x es = some es1 ∧ WR (t es1 S) (fun x S1 => (x = true → WR (m es1 S1) (fun r S2 => QI r S2 fun d S3 => I (i + 1) (ys ++ [d]) S3) XF) ∧ (x = false → I (i + 1) ys S1)) XF) :
    ∀ (xs : List D) (i : Nat) (ys : List D) (S : Store), i + xs.length = ds.length → (∀ j, xs[j]? = ds[i + j]?) → I i ys S → WR (compL ck g t m es xs S) (fun zs S1 => I ds.length (ys ++ zs) S1) XF
  | [], i, ys, S, hl, _, h => by
    show WR (@ite _ (ck S) (Classical.propDecidable _) _ _) _ _
    rw [WR_ite]
    have e : i = ds.length := hl
    subst e
    exact ⟨hck _ _ _ h, (by rw [List.append_nil]; exact h : I ds.length (ys ++ []) S)⟩
  | x :: xs, i, ys, S, hl, hj, h => by
    show WR (@ite _ (ck S) (Classical.propDecidable _) _ _) _ _
    rw [WR_ite]
    refine ⟨hck _ _ _ h, ?_⟩
    obtain ⟨es1, e1, w⟩ := step i x ys S ((hj 0).symm.trans rfl) h
    rw [e1]
    show WR (Res.bind _ _) _ _
    rw [WR_bind]
    refine WR_mono w (fun b S1 q => ?_) fun _ _ _ h => h
    have ih := fun ys S q => compL_inv I hck step xs (i + 1) ys S (by simp at hl; omega) (fun j => by have := hj (j + 1); simp at this; rw [this]; congr 1; omega) q
    cases b with
    | false => exact ih ys S1 (q.2 rfl)
    | true =>
      show WR (Res.bind _ _) _ _
      simp only [WR_bind, WR_item]
      refine WR_mono (q.1 rfl) (fun r S2 q => ?_) fun _ _ _ h => h
      cases r with
      | l f _ =>
        cases f with
        | false => exact q.elim
        | true => exact WR_mono (ih _ _ q) (fun zs S3 z => by rw [List.append_assoc] at z; exact z) fun _ _ _ h => h
      | d d => exact WR_mono (ih _ _ q) (fun zs S3 z => by rw [List.append_assoc] at z; exact z) fun _ _ _ h => h
theorem comp_inv {ck : Store → Prop} {g : MG} {t : MB} {ds : List D} {vs : List Nat} {Q : RV → Store → Prop} (I : Nat → List D → Store → Prop) (hl : ds.length ≤ sizeLine) (h0 : I 0 [] S) (hck : ∀ i ys S, I i ys S → ck S)
    (step : ∀ i x ys S, ds[i]? = some x → I i ys S → ∃ es1, g x (wipeE es vs) = some es1 ∧ WR (t es1 S) (fun x S1 => (x = true → WR (m es1 S1) (fun r S2 => QI r S2 fun d S3 => I (i + 1) (ys ++ [d]) S3) XF) ∧ (x = false → I (i + 1) ys S1)) XF)
    (fin : ∀ ys S, I ds.length ys S → Q (.l true ys) S) : kComp g t m vs es Q X (ds, ck) S :=
  ⟨hl, WR_noEx (WR_mono (compL_inv I hck step ds 0 [] S (by simp) (fun j => by simp) h0) (fun zs S1 q => fin _ _ q) fun _ _ _ h => h)⟩
theorem comp_pure {ck : Store → Prop} {g : MG} {t : MB} {ds : List D} {vs : List Nat} {Q : RV → Store → Prop} (p : D → Bool) (f : D → D) (hl : ds.length ≤ sizeLine) (hck : ck S)
    (step : ∀ (i : Nat) x, ds[i]? = some x → ∃ es1, g x (wipeE es vs) = some es1 ∧ WR (t es1 S) (fun y S1 => y = p x ∧ S1 = S) XF ∧ (p x = true → WR (m es1 S) (fun r S1 => r = .d (f x) ∧ S1 = S) XF))
    (fin : Q (.l true ((ds.filter p).map f)) S) : kComp g t m vs es Q X (ds, ck) S := by
  refine comp_inv (fun i ys S1 => S1 = S ∧ ys = ((ds.take i).filter p).map f) hl ⟨rfl, by simp⟩ (fun i ys S1 h => h.1 ▸ hck) (fun i x ys S1 hx h => ?_) (fun ys S1 h => ?_)
  · obtain ⟨rfl, rfl⟩ := h
    obtain ⟨es1, e1, ht, hm⟩ := step i x hx
    have tk : ds.take (i + 1) = ds.take i ++ [x] := by
      rw [List.take_succ, hx]; rfl
    refine ⟨es1, e1, WR_mono ht (fun y S2 h => ?_) fun _ _ _ h => h⟩
    obtain ⟨rfl, rfl⟩ := h
    refine ⟨fun hp => WR_mono (hm hp) (fun r S3 h => ?_) (fun _ _ _ h => h), fun hp => ⟨rfl, ?_⟩⟩
    · obtain ⟨rfl, rfl⟩ := h
      refine ⟨rfl, ?_⟩
      rw [tk, List.filter_append, List.map_append]
      simp [hp]
    · rw [tk, List.filter_append, List.map_append]
      simp [hp]
  · obtain ⟨rfl, rfl⟩ := h
    rw [List.take_length]
    exact fin
theorem comp_map {ck : Store → Prop} {g : MG} {ds : List D} {vs : List Nat} {Q : RV → Store → Prop} (f : D → D) (hl : ds.length ≤ sizeLine) (hck : ck S)
    (step : ∀ (i : Nat) x, ds[i]? = some x → ∃ es1, g x (wipeE es vs) = some es1 ∧ WR (m es1 S) (fun r S1 => r = .d (f x) ∧ S1 = S) XF)
    (fin : Q (.l true (ds.map f)) S) : kComp g bYes m vs es Q X (ds, ck) S :=
  comp_pure (fun _ => true) f hl hck (fun i x hx => let ⟨es1, e1, h⟩ := step i x hx; ⟨es1, e1, ⟨rfl, rfl⟩, fun _ => h⟩) (by rw [List.filter_eq_self.mpr (fun _ _ => rfl)]; exact fin)
end

section
variable {S : Store} {Q : RV → Store → Prop} {X : QX} {rs : List RV} {m n k : Nat} {b : MS}
def EnF (Q : RV → Store → Prop) (X : QX) : En := ⟨fun _ S => Q (.d .non) S, fun r S => match r with
  | .l false _ => False
  | r => Q r S, fun _ _ => False, fun _ _ => False, fun c p _ S => X c p S⟩
theorem EnF_nx {es : Env} : (EnF Q X).nx es S = Q (.d .non) S := nr rfl
theorem EnF_d {x : D} : (EnF Q X).rt (.d x) S = Q (.d x) S := nr rfl
theorem EnF_l {x : List D} : (EnF Q X).rt (.l true x) S = Q (.l true x) S := nr rfl
theorem EnF_ex {es : Env} {c : Nat} {p : List D} : (EnF Q X).ex c p es S = X c p S := nr rfl
theorem fun_w (h : WS (b (startE k rs) S) (EnF Q X)) (hl : rs.length = n := by rfl) : WR (okR (mFun n k b rs S)) Q X := by
  unfold mFun
  rw [if_pos hl]
  cases e : b (startE k rs) S with
  | nx es S' => rw [e] at h; exact h
  | rt r S' =>
    rw [e] at h
    cases r with
    | d x => exact h
    | l f x =>
      cases f with
      | true => exact h
      | false => exact h.elim
  | bk es S' => rw [e] at h; exact h.elim
  | ct es S' => rw [e] at h; exact h.elim
  | ex c p es S' => rw [e] at h; exact h
  | bad => rw [e] at h; exact h.elim
theorem eq_of {f : Res RV} {r : RV} {S' : Store} (h : WR (okR f) (fun a S1 => a = r ∧ S1 = S') XF) : f = .ok r S' := by
  cases f with
  | ok a S1 =>
    cases a with
    | d x => obtain ⟨e1, e2⟩ := h; rw [e1, e2]
    | l p x =>
      cases p with
      | true => obtain ⟨e1, e2⟩ := h; rw [e1, e2]
      | false => exact h.elim
  | ex _ _ _ => exact h.elim
  | bad => exact h.elim
end
theorem startE_1 {k : Nat} {a : RV} : startE (k + 1) [a] = slotOf a :: List.replicate k .no := nr rfl
theorem startE_2 {k : Nat} {a b : RV} : startE (k + 2) [a, b] = slotOf a :: slotOf b :: List.replicate k .no := nr rfl
theorem startE_3 {k : Nat} {a b c : RV} : startE (k + 3) [a, b, c] = slotOf a :: slotOf b :: slotOf c :: List.replicate k .no := nr rfl
theorem startE_4 {k : Nat} {a b c d : RV} : startE (k + 4) [a, b, c, d] = slotOf a :: slotOf b :: slotOf c :: slotOf d :: List.replicate k .no := nr rfl
theorem slot_d {x : D} : slotOf (.d x) = .v x := nr rfl
theorem slot_f {x : List D} : slotOf (.l false x) = .bor x := nr rfl
end DM

namespace DM
open PySem PySem.Spec L2

open Classical in
noncomputable def gd (c : Prop) (o : OV) : Option OV := if c then some o else none
theorem gd_of {c : Prop} {hc : Decidable c} {o : OV} : @ite _ c hc (some o) none = gd c o := by
  unfold gd
  by_cases h : c
  · rw [if_pos h, if_pos h]
  · rw [if_neg h, if_neg h]
theorem QO_gd {c : Prop} {o : OV} {S : Store} {Q : RV → Store → Prop} : QO (gd c o) S Q = (c ∧ QO (some o) S Q) := by
  unfold gd
  by_cases h : c
  · rw [if_pos h]; exact propext ⟨fun q => ⟨h, q⟩, fun q => q.2⟩
  · rw [if_neg h]; exact propext ⟨fun q => q.elim, fun q => (h q.1).elim⟩
section
variable {S : Store} {i j : Int} {x y : Str} {xs ys : List D} {p q : Bool}
theorem add_ii : addF S (.d (.int i)) (.d (.int j)) = some (.d (.int (i + j))) := nr rfl
theorem add_ss : addF S (.d (.str x)) (.d (.str y)) = gd (x.length + y.length ≤ sizeLine) (.d (.str (x ++ y))) := gd_of
theorem add_tt : addF S (.d (.tup xs)) (.d (.tup ys)) = gd (xs.length + ys.length ≤ sizeLine) (.d (.tup (xs ++ ys))) := gd_of
theorem add_ll : addF S (.l p xs) (.l q ys) = gd (xs.length + ys.length ≤ sizeLine) (.l (xs ++ ys)) := gd_of
theorem sub_ii : subF S (.d (.int i)) (.d (.int j)) = some (.d (.int (i - j))) := nr rfl
theorem mul_ii : mulF S (.d (.int i)) (.d (.int j)) = gd (CMul i j ∨ CMulW i j) (.d (.int (i * j))) := gd_of
theorem mul_li : mulF S (.l p xs) (.d (.int j)) = gd (-(2 ^ 63) ≤ j ∧ j < 2 ^ 63 ∧ xs.length * j.toNat ≤ sizeLine) (.l (repL j.toNat xs)) := gd_of
theorem div_ii : fdivF S (.d (.int i)) (.d (.int j)) = gd (CDivW i j) (.d (.int (i / j))) := gd_of
theorem mod_ii : modF S (.d (.int i)) (.d (.int j)) = gd (0 < j) (.d (.int (i % j))) := gd_of
theorem pow_ii : powF S (.d (.int i)) (.d (.int j)) = gd (CPow i j) (.d (.int (i ^ j.toNat))) := gd_of
theorem shl_ii : shlF S (.d (.int i)) (.d (.int j)) = gd (CPow i j) (.d (.int (i * 2 ^ j.toNat))) := gd_of
theorem shr_ii : shrF S (.d (.int i)) (.d (.int j)) = gd (0 ≤ j) (.d (.int (i / 2 ^ j.toNat))) := gd_of
theorem lt_ii : ltF S (.d (.int i)) (.d (.int j)) = some (.d (.bl (decide (i < j)))) := nr rfl
theorem le_ii : leF S (.d (.int i)) (.d (.int j)) = some (.d (.bl (decide (i ≤ j)))) := nr rfl
theorem gt_ii : gtF S (.d (.int i)) (.d (.int j)) = some (.d (.bl (decide (j < i)))) := nr rfl
theorem ge_ii : geF S (.d (.int i)) (.d (.int j)) = some (.d (.bl (decide (j ≤ i)))) := nr rfl
theorem neg_i : negF S (.d (.int i)) = some (.d (.int (-i))) := nr rfl
theorem and_ii : andF S (.d (.int i)) (.d (.int j)) = some (.d (.int (Builtin.bitAnd i j))) := nr rfl
theorem or_ii : orF S (.d (.int i)) (.d (.int j)) = some (.d (.int (Builtin.bitOr i j))) := nr rfl
theorem xor_ii : xorF S (.d (.int i)) (.d (.int j)) = some (.d (.int (Builtin.bitXor i j))) := nr rfl
theorem is_n {r : RV} : isF S r (.d .non) = some (.d (.bl (isNon r))) := nr rfl
theorem isnt_n {r : RV} : isntF S r (.d .non) = some (.d (.bl (!isNon r))) := nr rfl
theorem isNon_n : isNon (.d .non) = true := nr rfl
theorem isNon_b : isNon (.d (.bl p)) = false := nr rfl
theorem isNon_i : isNon (.d (.int i)) = false := nr rfl
theorem isNon_s : isNon (.d (.str x)) = false := nr rfl
theorem isNon_t : isNon (.d (.tup xs)) = false := nr rfl
theorem isNon_o {n : Nat} : isNon (.d (.loc n)) = false := nr rfl
theorem isNon_l : isNon (.l p xs) = false := nr rfl
theorem isNon_e {c : Nat} {ps : List D} : isNon (.d (.exn c ps)) = false := nr rfl
def lstO (o : Option O) : Option (List D) := match o with
  | some (.lst ds) => some ds
  | _ => none
theorem lstO_e : lstO (some (.lst xs)) = some xs := nr rfl
theorem lstOf_l : lstOf S (.l p xs) = some xs := nr rfl
theorem lstOf_o {n : Nat} : lstOf S (.d (.loc n)) = lstO S[n]? := nr rfl
theorem om_some {T U : Type} {a : T} {f : T → U} : (some a).map f = some (f a) := nr rfl
theorem ix_t : ixF S (.d (.tup xs)) (.d (.int i)) = (atI xs i).map OV.d := nr rfl
theorem ix_s : ixF S (.d (.str x)) (.d (.int i)) = if x.length ≤ sizeLine then (atI x.cps.toList i).map fun c => OV.d (.str ⟨#[c]⟩) else none := nr rfl
theorem ix_l : ixF S (.l p xs) (.d (.int i)) = (atI xs i).map OV.d := nr rfl
theorem ix_o {n : Nat} : ixF S (.d (.loc n)) (.d (.int i)) = (lstO S[n]?).bind fun ds => (atI ds i).map OV.d := nr rfl
theorem len_s : lenF S [.d (.str x)] = gd (x.length ≤ sizeLine) (.d (.int (x.length : Nat))) := gd_of
theorem len_t : lenF S [.d (.tup xs)] = some (.d (.int (xs.length : Nat))) := nr rfl
theorem len_l : lenF S [.l p xs] = some (.d (.int (xs.length : Nat))) := nr rfl
theorem len_o {n : Nat} : lenF S [.d (.loc n)] = (lstO S[n]?).map fun ds => .d (.int (ds.length : Nat)) := nr rfl
theorem intsOf_map : ∀ ns : List Int, intsOf (ns.map D.int) = some ns
  | [] => rfl
  | n :: r => by show (intsOf (r.map D.int)).map _ = _; rw [intsOf_map r]; rfl
theorem blsOf_map : ∀ ns : List Bool, blsOf (ns.map D.bl) = some ns
  | [] => rfl
  | n :: r => by show (blsOf (r.map D.bl)).map _ = _; rw [blsOf_map r]; rfl
theorem sum_l : sumF S [.l p xs] = (intsOf xs).bind fun ns => some (.d (.int ns.sum)) := nr rfl
theorem all_l : allF S [.l p xs] = (blsOf xs).bind fun ns => some (.d (.bl (ns.all id))) := nr rfl
theorem any_l : anyF S [.l p xs] = (blsOf xs).bind fun ns => some (.d (.bl (ns.any id))) := nr rfl
theorem max_ii : maxF S [.d (.int i), .d (.int j)] = some (.d (.int (if j > i then j else i))) := nr rfl
theorem min_ii : minF S [.d (.int i), .d (.int j)] = some (.d (.int (if j < i then j else i))) := nr rfl
theorem max_l : maxF S [.l p xs] = (intsOf xs).bind fun ns => gd (ns ≠ []) (.d (.int (maxI ns))) := by
  show (intsOf xs).bind _ = _
  congr 1
  funext ns
  show (if ns = [] then none else some _) = _
  unfold gd
  by_cases h : ns = []
  · rw [if_pos h, if_neg (fun z => z h)]
  · rw [if_neg h, if_pos h]
theorem min_l : minF S [.l p xs] = (intsOf xs).bind fun ns => gd (ns ≠ []) (.d (.int (minI ns))) := by
  show (intsOf xs).bind _ = _
  congr 1
  funext ns
  show (if ns = [] then none else some _) = _
  unfold gd
  by_cases h : ns = []
  · rw [if_pos h, if_neg (fun z => z h)]
  · rw [if_neg h, if_pos h]
theorem tup_t : tupF S [.d (.tup xs)] = some (.d (.tup xs)) := nr rfl
theorem tup_l : tupF S [.l p xs] = some (.d (.tup xs)) := nr rfl
theorem tup_o {n : Nat} : tupF S [.d (.loc n)] = (lstO S[n]?).map fun ds => .d (.tup ds) := nr rfl
theorem list_t : listF S [.d (.tup xs)] = some (.l xs) := nr rfl
theorem list_l : listF S [.l p xs] = some (.l xs) := nr rfl
theorem list_o {n : Nat} : listF S [.d (.loc n)] = (lstO S[n]?).map fun ds => .l ds := nr rfl
theorem int_i : intF S [.d (.int i)] = some (.d (.int i)) := nr rfl
theorem int_b : intF S [.d (.bl p)] = some (.d (.int (if p = true then 1 else 0))) := by cases p <;> rfl
theorem str_i : strF S [.d (.int i)] = gd (i.natAbs.log2 < 1920) (.d (.str (toString i))) := gd_of
theorem sl_t {lo hi : Option Int} : slF S (.d (.tup xs)) lo hi = some (.d (.tup (cutL xs lo hi))) := nr rfl
theorem sl_l {lo hi : Option Int} : slF S (.l p xs) lo hi = some (.l (cutL xs lo hi)) := nr rfl
theorem sl_s {ns : List Int} {lo hi : Option Int} : slF S (.d (.scr ns)) lo hi = some (.l ((cutL ns lo hi).map D.int)) := nr rfl
theorem eq_ii : eqF S (.d (.int i)) (.d (.int j)) = some (.d (.bl (decide (i = j)))) := by
  have e : eqF S (.d (.int i)) (.d (.int j)) = some (OV.d (D.bl (PyData.eqv (.int i) (.int j)))) := rfl
  rw [e]
  congr 3
theorem ne_ii : neF S (.d (.int i)) (.d (.int j)) = some (.d (.bl (!decide (i = j)))) := by
  have e : neF S (.d (.int i)) (.d (.int j)) = some (OV.d (D.bl (!PyData.eqv (.int i) (.int j)))) := rfl
  rw [e]
  congr 3
theorem eq_bb : eqF S (.d (.bl p)) (.d (.bl q)) = some (.d (.bl (p == q))) := by
  cases p <;> cases q <;> rfl
theorem ne_bb : neF S (.d (.bl p)) (.d (.bl q)) = some (.d (.bl (!(p == q)))) := by
  cases p <;> cases q <;> rfl
theorem isi_non_int : isiF S [.d .non, .d (.ty "int")] = some (.d (.bl false)) := nr rfl
theorem isi_non_bool : isiF S [.d .non, .d (.ty "bool")] = some (.d (.bl false)) := nr rfl
theorem isi_non_str : isiF S [.d .non, .d (.ty "str")] = some (.d (.bl false)) := nr rfl
theorem isi_non_tuple : isiF S [.d .non, .d (.ty "tuple")] = some (.d (.bl false)) := nr rfl
theorem isi_non_list : isiF S [.d .non, .d (.ty "list")] = some (.d (.bl false)) := nr rfl
theorem isi_non_tl : isiF S [.d .non, .d (.tup [.ty "tuple", .ty "list"])] = some (.d (.bl false)) := nr rfl
theorem isi_bl_int {b : Bool} : isiF S [.d (.bl b), .d (.ty "int")] = some (.d (.bl true)) := nr rfl
theorem isi_bl_bool {b : Bool} : isiF S [.d (.bl b), .d (.ty "bool")] = some (.d (.bl true)) := nr rfl
theorem isi_bl_str {b : Bool} : isiF S [.d (.bl b), .d (.ty "str")] = some (.d (.bl false)) := nr rfl
theorem isi_bl_tuple {b : Bool} : isiF S [.d (.bl b), .d (.ty "tuple")] = some (.d (.bl false)) := nr rfl
theorem isi_bl_list {b : Bool} : isiF S [.d (.bl b), .d (.ty "list")] = some (.d (.bl false)) := nr rfl
theorem isi_bl_tl {b : Bool} : isiF S [.d (.bl b), .d (.tup [.ty "tuple", .ty "list"])] = some (.d (.bl false)) := nr rfl
theorem isi_int_int {i : Int} : isiF S [.d (.int i), .d (.ty "int")] = some (.d (.bl true)) := nr rfl
theorem isi_int_bool {i : Int} : isiF S [.d (.int i), .d (.ty "bool")] = some (.d (.bl false)) := nr rfl
theorem isi_int_str {i : Int} : isiF S [.d (.int i), .d (.ty "str")] = some (.d (.bl false)) := nr rfl
theorem isi_int_tuple {i : Int} : isiF S [.d (.int i), .d (.ty "tuple")] = some (.d (.bl false)) := nr rfl
theorem isi_int_list {i : Int} : isiF S [.d (.int i), .d (.ty "list")] = some (.d (.bl false)) := nr rfl
theorem isi_int_tl {i : Int} : isiF S [.d (.int i), .d (.tup [.ty "tuple", .ty "list"])] = some (.d (.bl false)) := nr rfl
theorem isi_str_int {x : Str} : isiF S [.d (.str x), .d (.ty "int")] = some (.d (.bl false)) := nr rfl
theorem isi_str_bool {x : Str} : isiF S [.d (.str x), .d (.ty "bool")] = some (.d (.bl false)) := nr rfl
theorem isi_str_str {x : Str} : isiF S [.d (.str x), .d (.ty "str")] = some (.d (.bl true)) := nr rfl
theorem isi_str_tuple {x : Str} : isiF S [.d (.str x), .d (.ty "tuple")] = some (.d (.bl false)) := nr rfl
theorem isi_str_list {x : Str} : isiF S [.d (.str x), .d (.ty "list")] = some (.d (.bl false)) := nr rfl
theorem isi_str_tl {x : Str} : isiF S [.d (.str x), .d (.tup [.ty "tuple", .ty "list"])] = some (.d (.bl false)) := nr rfl
theorem isi_tup_int {ds : List D} : isiF S [.d (.tup ds), .d (.ty "int")] = some (.d (.bl false)) := nr rfl
theorem isi_tup_bool {ds : List D} : isiF S [.d (.tup ds), .d (.ty "bool")] = some (.d (.bl false)) := nr rfl
theorem isi_tup_str {ds : List D} : isiF S [.d (.tup ds), .d (.ty "str")] = some (.d (.bl false)) := nr rfl
theorem isi_tup_tuple {ds : List D} : isiF S [.d (.tup ds), .d (.ty "tuple")] = some (.d (.bl true)) := nr rfl
theorem isi_tup_list {ds : List D} : isiF S [.d (.tup ds), .d (.ty "list")] = some (.d (.bl false)) := nr rfl
theorem isi_tup_tl {ds : List D} : isiF S [.d (.tup ds), .d (.tup [.ty "tuple", .ty "list"])] = some (.d (.bl true)) := nr rfl
theorem isi_l_int {p : Bool} {ds : List D} : isiF S [.l p ds, .d (.ty "int")] = some (.d (.bl false)) := nr rfl
theorem isi_l_bool {p : Bool} {ds : List D} : isiF S [.l p ds, .d (.ty "bool")] = some (.d (.bl false)) := nr rfl
theorem isi_l_str {p : Bool} {ds : List D} : isiF S [.l p ds, .d (.ty "str")] = some (.d (.bl false)) := nr rfl
theorem isi_l_tuple {p : Bool} {ds : List D} : isiF S [.l p ds, .d (.ty "tuple")] = some (.d (.bl false)) := nr rfl
theorem isi_l_list {p : Bool} {ds : List D} : isiF S [.l p ds, .d (.ty "list")] = some (.d (.bl true)) := nr rfl
theorem isi_l_tl {p : Bool} {ds : List D} : isiF S [.l p ds, .d (.tup [.ty "tuple", .ty "list"])] = some (.d (.bl true)) := nr rfl
theorem st_self {n : Nat} {o : O} (h : S[n]? = some o) (x : O) : (S.set n x)[n]? = some x := by
  have := (List.getElem?_eq_some_iff.mp h).1
  rw [List.getElem?_set_self this]
theorem st_ne {n k : Nat} (h : n ≠ k) (x : O) : (S.set n x)[k]? = S[k]? := List.getElem?_set_ne h
theorem st_new {o : O} : (S ++ [o])[S.length]? = some o := by simp
theorem st_old {n : Nat} {o o' : O} (h : S[n]? = some o) : (S ++ [o'])[n]? = some o := by
  have := (List.getElem?_eq_some_iff.mp h).1
  rw [List.getElem?_append_left this, h]
theorem ixN_nat {n j : Nat} (h : j < n) : ixN n (j : Int) = some j := by
  unfold ixN
  rw [if_pos (Int.natCast_nonneg j), if_pos (by omega)]
  rfl
theorem ixN_int {n : Nat} {i : Int} (h : 0 ≤ i) (h2 : i < n) : ixN n i = some i.toNat := by
  unfold ixN
  rw [if_pos h, if_pos h2]
theorem ixN_00 {n : Nat} : ixN (n + 1) 0 = some 0 := by
  unfold ixN
  rw [if_pos (by decide), if_pos (by omega)]
  rfl
theorem ixN_1 {n : Nat} : ixN (n + 2) 1 = some 1 := by
  unfold ixN
  rw [if_pos (by decide), if_pos (by omega)]
  rfl
theorem ixN_2 {n : Nat} : ixN (n + 3) 2 = some 2 := by
  unfold ixN
  rw [if_pos (by decide), if_pos (by omega)]
  rfl
theorem ixN_3 {n : Nat} : ixN (n + 4) 3 = some 3 := by
  unfold ixN
  rw [if_pos (by decide), if_pos (by omega)]
  rfl
theorem atI_0 {a : D} : atI (a :: xs) 0 = some a := by unfold atI; rw [List.length_cons, ixN_00]; rfl
theorem atI_1 {a b : D} : atI (a :: b :: xs) 1 = some b := by unfold atI; rw [List.length_cons, List.length_cons, ixN_1]; rfl
theorem atI_2 {a b c : D} : atI (a :: b :: c :: xs) 2 = some c := by unfold atI; rw [List.length_cons, List.length_cons, List.length_cons, ixN_2]; rfl
theorem atI_3 {a b c d : D} : atI (a :: b :: c :: d :: xs) 3 = some d := by unfold atI; rw [List.length_cons, List.length_cons, List.length_cons, List.length_cons, ixN_3]; rfl
theorem atI_nat {T : Type} {l : List T} {j : Nat} (h : j < l.length) : atI l (j : Int) = l[j]? := by unfold atI; rw [ixN_nat h]; rfl
theorem atI_int {T : Type} {l : List T} {i : Int} (h : 0 ≤ i) (h2 : i < l.length) : atI l i = l[i.toNat]? := by unfold atI; rw [ixN_int h h2]; rfl
theorem atI_map {T U : Type} {l : List T} {f : T → U} {i : Int} : atI (l.map f) i = (atI l i).map f := by
  unfold atI
  rw [List.length_map]
  cases ixN l.length i with
  | none => rfl
  | some j => simp
theorem atI_get {T : Type} {l : List T} {i : Int} (h : 0 ≤ i) (h2 : i < l.length) : ∃ a, atI l i = some a ∧ a ∈ l ∧ l[i.toNat]? = some a := by
  rw [atI_int h h2]
  have : i.toNat < l.length := by omega
  exact ⟨l[i.toNat], List.getElem?_eq_getElem this, List.getElem_mem this, List.getElem?_eq_getElem this⟩
end
end DM

namespace DM
open PySem PySem.Spec L2
section
variable {es : Env} {S : Store} {E : En} {b : MS} {n y c : Nat}
theorem w_raise : WS (sRaise c es S) E = E.ex c [] es S := nr rfl
def En.tr (E : En) (n y : Nat) : En := ⟨E.nx, E.rt, E.bk, E.ct, fun c p es S => match p with
  | [] => E.nx ((es.set y (.v (.exn c []))).set n .no) S
  | [d] => E.nx ((es.set y (.v (.exn c [d]))).set n .no) S
  | _ => False⟩
theorem tr_nx : (E.tr n y).nx es S = E.nx es S := nr rfl
theorem tr_rt {r : RV} : (E.tr n y).rt r S = E.rt r S := nr rfl
theorem tr_bk : (E.tr n y).bk es S = E.bk es S := nr rfl
theorem tr_ct : (E.tr n y).ct es S = E.ct es S := nr rfl
theorem tr_ex : (E.tr n y).ex c [] es S = E.nx ((es.set y (.v (.exn c []))).set n .no) S := nr rfl
theorem tr_ex1 {d : D} : (E.tr n y).ex c [d] es S = E.nx ((es.set y (.v (.exn c [d]))).set n .no) S := nr rfl
theorem w_try : WS (sTry n y b es S) E = WS (b es S) (E.tr n y) := by
  unfold sTry
  cases b es S with
  | ex c p es' S' =>
    cases p with
    | nil => exact (tr_ex).symm
    | cons a r => cases r <;> rfl
  | _ => rfl
end
section
variable {es : Env} {S : Store} {Q : RV → Store → Prop} {X : QX} {ms : List ME} {tbl : Nat → MF} {i n : Nat} {o : ME} {f : FM} {T : String}
def QCL (s : Option Slot) (tbl : Nat → MF) (ms : List ME) (es : Env) (S : Store) (Q : RV → Store → Prop) (X : QX) : Prop := match s with
  | some (.v (.fn n)) => WR (eArgs ms es S) (kCall (tbl n) Q X) X
  | _ => False
theorem QCL_e : QCL (some (.v (.fn n))) tbl ms es S Q X = WR (eArgs ms es S) (kCall (tbl n) Q X) X := nr rfl
theorem w_callL : WR (eCallL i tbl ms es S) Q X = QCL es[i]? tbl ms es S Q X := by
  unfold eCallL QCL
  cases es[i]? with
  | none => rfl
  | some s =>
    cases s with
    | v x =>
      cases x <;> try rfl
      exact w_call
    | _ => rfl
def kMt2 (f : FM) (x : RV) (Q : RV → Store → Prop) (xs : List RV) (S : Store) : Prop := QO (f S x xs) S Q
def kMt (T : String) (f : FM) (ms : List ME) (es : Env) (Q : RV → Store → Prop) (X : QX) (x : RV) (S : Store) : Prop := tyF T S x.weak = true ∧ WR (eArgs ms es S) (kMt2 f x.weak Q) X
theorem kMt2_e {x : RV} {xs : List RV} : kMt2 f x Q xs S = QO (f S x xs) S Q := nr rfl
theorem kMt_l {p : Bool} {ds : List D} : kMt "list" f ms es Q X (.l p ds) S = WR (eArgs ms es S) (kMt2 f (.l false ds) Q) X := nr (propext ⟨fun h => h.2, fun h => ⟨rfl, h⟩⟩)
theorem kMt_s {z : Str} : kMt "str" f ms es Q X (.d (.str z)) S = WR (eArgs ms es S) (kMt2 f (.d (.str z)) Q) X := nr (propext ⟨fun h => h.2, fun h => ⟨rfl, h⟩⟩)
theorem kMt_o {n : Nat} : kMt "list" f ms es Q X (.d (.loc n)) S = ((lstO S[n]?).isSome = true ∧ WR (eArgs ms es S) (kMt2 f (.d (.loc n)) Q) X) := nr (by
  unfold kMt
  congr 1)
theorem w_mt : WR (eMt T f o ms es S) Q X = WR (o es S) (kMt T f ms es Q X) X := by
  unfold eMt kMt
  simp only [WR_bind, WR_ite, WR_ofO]
  rfl
theorem isx_c {c k : Nat} (h : 1 ≤ c ∧ c ≤ 5 ∧ k ≤ 6) : isxF S [.d (.exn c []), .d (.cls k)] = some (.d (.bl (subX c k))) := by
  show (if 1 ≤ c ∧ c ≤ 5 ∧ k ≤ 6 then _ else _) = _
  rw [if_pos h]
theorem isx_v {c : Nat} (h : 1 ≤ c ∧ c ≤ 5) : isxF S [.d (.exn c []), .d (.ty "ValueError")] = some (.d (.bl true)) := by
  show (if 1 ≤ c ∧ c ≤ 5 ∧ "ValueError" = "ValueError" then _ else _) = _
  rw [if_pos ⟨h.1, h.2, rfl⟩]
end
end DM

namespace DM
open PySem PySem.Spec L2
section
variable {es : Env} {S : Store} {E : En} {X : QX} {m n k : ME} {i l : Nat}
def QXT (o : Option (List D)) (o' : Option O) (l : Nat) (es : Env) (E : En) (S : Store) : Prop := match o, o' with
  | some ys, some (.lst ds) => ds.length + ys.length ≤ sizeLine ∧ E.nx es (S.set l (.lst (ds ++ ys)))
  | _, _ => False
theorem QXT_e {ys ds : List D} : QXT (some ys) (some (.lst ds)) l es E S = (ds.length + ys.length ≤ sizeLine ∧ E.nx es (S.set l (.lst (ds ++ ys)))) := nr rfl
def kExtT (l : Nat) (es : Env) (E : En) (r : RV) (S : Store) : Prop := QXT (lstOf S r.weak) S[l]? l es E S
theorem kExtT_l {p : Bool} {ys : List D} : kExtT l es E (.l p ys) S = QXT (some ys) S[l]? l es E S := nr rfl
theorem kExtT_d {x : D} : kExtT l es E (.d x) S = QXT (lstOf S (.d x)) S[l]? l es E S := nr rfl
def QExt2 (o : Option Slot) (i : Nat) (m : ME) (es : Env) (S : Store) (E : En) : Prop := match o with
  | some (.own ds) => WR (m es S) (kExtO ds i es E) (kX es E)
  | some (.v (.loc l)) => (∃ ds, S[l]? = some (.lst ds)) ∧ WR (m es S) (kExtT l es E) (kX es E)
  | _ => False
theorem QExt2_o {ds : List D} : QExt2 (some (.own ds)) i m es S E = WR (m es S) (kExtO ds i es E) (kX es E) := nr rfl
theorem QExt2_l : QExt2 (some (.v (.loc l))) i m es S E = ((∃ ds, S[l]? = some (.lst ds)) ∧ WR (m es S) (kExtT l es E) (kX es E)) := nr rfl
theorem exo_e {ds : List D} : (∃ ds', O.lst ds = O.lst ds') = True := nr (propext ⟨fun _ => trivial, fun _ => ⟨ds, rfl⟩⟩)
theorem w_ext2 : WS (sExt i m es S) E = QExt2 es[i]? i m es S E := by
  unfold sExt QExt2
  cases es[i]? with
  | none => rfl
  | some s =>
    cases s with
    | no => rfl
    | bor _ => rfl
    | own ds =>
      show WS (bindS _ _ _) E = _
      rw [WS_bindS]
      congr 1
      funext r S1
      show WS (match lstOf S1 r.weak with | some ys => _ | none => _) E = kExtO ds i es E r S1
      unfold kExtO
      cases lstOf S1 r.weak with
      | none => rfl
      | some ys => exact WS_ite
    | v y =>
      cases y <;> try rfl
      rename_i l
      show WS (match S[l]? with | some (.lst _) => _ | _ => _) E = (_ ∧ _)
      cases e : S[l]? with
      | none => exact propext ⟨fun q => q.elim, fun ⟨⟨_, z⟩, _⟩ => by cases z⟩
      | some o =>
        cases o with
        | dic _ => exact propext ⟨fun q => q.elim, fun ⟨⟨_, z⟩, _⟩ => by cases z⟩
        | ins _ _ => exact propext ⟨fun q => q.elim, fun ⟨⟨_, z⟩, _⟩ => by cases z⟩
        | obj _ _ => exact propext ⟨fun q => q.elim, fun ⟨⟨_, z⟩, _⟩ => by cases z⟩
        | lst d0 =>
          show WS (bindS _ _ _) E = _
          rw [WS_bindS]
          refine Eq.trans (b := WR (m es S) (kExtT l es E) (kX es E)) ?_ (propext ⟨fun q => ⟨⟨_, rfl⟩, q⟩, fun q => q.2⟩)
          congr 1
          funext r S1
          unfold kExtT QXT
          cases lstOf S1 r.weak with
          | none => rfl
          | some ys =>
            cases S1[l]? with
            | none => rfl
            | some o => cases o <;> first | rfl | exact WS_ite
theorem w_rng2 {Q : QMI} : WR (miRng2 m n es S) Q X = WR (eArgs [m, n] es S) (kR2 Q) X := by
  unfold miRng2
  rw [WR_bind]
  congr 1
  funext rs S1
  unfold kR2
  split
  · rw [WR_ite]; rfl
  · rename_i h
    first
      | rfl
      | (split
         · exact (h _ _ rfl).elim
         · rfl)
theorem w_rng3 {Q : QMI} : WR (miRng3 m n k es S) Q X = WR (eArgs [m, n, k] es S) (kR3 Q) X := by
  unfold miRng3
  rw [WR_bind]
  congr 1
  funext rs S1
  unfold kR3
  split
  · rw [WR_ite]; rfl
  · rename_i h
    first
      | rfl
      | (split
         · exact (h _ _ _ rfl).elim
         · rfl)
end
section
variable {G : GT} {W : WX} {X : Cx} {a b c : Expr} {ma mb mc : ME} {pos : Pos}
theorem chain_imp {r r' : R2} {f g : F2} (ho : SO2 G r f) (ho' : SO2 G r' g) (ha : SE G W X a ma) (hb : SE G W X b mb) (hc : SE G W X c mc) {σ : St} {H : Hp} {Q : VK} (h : rdE G W (eChain f g ma mb mc) σ H Q) : tChain r r' (rdE G W ma) (rdE G W mb) (rdE G W mc) σ H Q := by
  obtain ⟨P, ρ, es, S, s, q, h⟩ := h
  have nl : ∀ (x y : RV) (S2 : Store) rv S', (match f S2 x.weak y.weak with
      | some (.d (.bl true)) => (mc es S2).bind fun z S3 => ofO (g S3 y.weak z.weak) S3
      | some (.d (.bl false)) => .ok (.d (.bl false)) S2
      | _ => Res.bad) = .ok rv S' → ∀ ds, rv ≠ .l false ds := by
    intro x y S2 rv S' e
    split at e
    · exact bind_rv (fun _ _ => ofO_rv) rv S' e
    · cases e; intro ds z; cases z
    · cases e
  refine rdE_then s q h fun r1 S1 v ρ1 H1 e1 s1 k1 rr h => ?_
  obtain ⟨P1, hp, s1', rr1⟩ := protect s1 rr
  refine rdE_then s1' ((q.next k1).more hp) (Aft.more hp (bind_rv fun y S2 => nl r1 y S2) h) fun r2 S2 w ρ2 H2 e2 s2 k2 rr2 h2 => ?_
  obtain ⟨P2, hp2, s2', rr2'⟩ := protect s2 rr2
  have h3 := Aft.more hp2 (nl r1 r2 S2) h2
  have sub : ∀ a o, P a = some o → P2 a = some o := fun a o z => hp2 a o (hp a o z)
  split at h3
  · rename_i ef
    refine ho P2 ρ2 H2 S2 r1.weak r2.weak v w _ _ s2' (RR.more (RR.weak_mono k2 rr1) hp2) rr2' ef fun u H3 op => ?_
    obtain ⟨gr, ru⟩ := op
    cases ru
    refine ⟨true, rfl, ?_⟩
    show rdE G W mc σ H3 _
    have s3 := s2'.grow gr
    have tk3 : TK ρ2 H2 ρ2 H3 := TK.same gr
    have q3 := (((q.next k1).next k2).next tk3).more sub
    refine rdE_then s3 q3 (Aft.next tk3 h3) fun r4 S4 z ρ4 H4 e4 s4 k4 rr4 h4 => ?_
    obtain ⟨P4, hp4, s4', rr4'⟩ := protect s4 rr4
    cases eg : g S4 r2.weak r4.weak with
    | none => rw [eg] at h4; exact h4.elim
    | some ov =>
      rw [eg] at h4
      exact ho' P4 ρ4 H4 S4 r2.weak r4.weak w z Q ov s4' (RR.more (RR.weak_mono (tk3.trans k4) rr2') hp4) rr4' eg (op_end s4' hp4 h4)
  · rename_i ef
    refine ho P2 ρ2 H2 S2 r1.weak r2.weak v w _ _ s2' (RR.more (RR.weak_mono k2 rr1) hp2) rr2' ef fun u H3 op => ?_
    obtain ⟨gr, ru⟩ := op
    cases ru
    refine ⟨false, rfl, ?_⟩
    show Q (.bl false) H3
    exact h3 (.bl false) ρ2 H3 (s2'.grow gr) (TK.same gr) (.bl false)
  · exact h3.elim
theorem sb_chain {op op' : CmpOp} {r r' : R2} {f g : F2} (ho : OpR X (compareOp op) r ∧ SO2 G r f) (ho' : OpR X (compareOp op') r' ∧ SO2 G r' g) (ha : SE G W X a ma) (hb : SE G W X b mb) (hc : SE G W X c mc)
    (hm : lastMarks [op, op'] [b, c] = false := by with_unfolding_all rfl) : SB G W X (.Compare a [op, op'] [b, c] pos) (bOf (eChain f g ma mb mc)) :=
  ⟨(se_chain (pos := pos) ho ho' ha hb hc hm).k, PT.of (pt_chain ho.1 ho'.1 ha.pe hb.pe hc.pe hm) fun _ _ _ h => chain_imp ho.2 ho'.2 ha hb hc (rd_bOf h fun b _ q => ⟨b, rfl, q⟩)⟩
end
def isBF : F2 := fun _ a b => match a, b with
  | .d (.bl p), .d (.bl q) => some (.d (.bl (p == q)))
  | _, _ => none
def isntBF : F2 := fun _ a b => match a, b with
  | .d (.bl p), .d (.bl q) => some (.d (.bl (!(p == q))))
  | _, _ => none
section
variable {G : GT} {W : WX} {X : Cx} {a b : Expr} {ma mb : ME} {pos : Pos}
theorem isB_bb {S : Store} {p q : Bool} : isBF S (.d (.bl p)) (.d (.bl q)) = some (.d (.bl (p == q))) := nr rfl
theorem isntB_bb {S : Store} {p q : Bool} : isntBF S (.d (.bl p)) (.d (.bl q)) = some (.d (.bl (!(p == q)))) := nr rfl
end
end DM

namespace L2
open PySem PySem.Spec PyProof.Rows
end L2
namespace DM
open PySem PySem.Spec L2
section
variable {G : GT} {W : WX} {X : Cx} {a : Expr} {as : List Expr} {ms : List ME} {p pos : Pos}
end
section
variable {P : Program} {w : World} {K : PySem.W.Frag} {mg : Str → Option Value} {base : Heap} {G : GT}
end
end DM

namespace PySem
open Sem (wp)
section
variable {prog : Program} {w : World} {A : Around} {E : Value → Shared → Prop} {s : Shared}
end
end PySem
namespace L2
open PySem PySem.Spec PyProof.Rows
end L2
namespace L2
open PySem PySem.Spec PyProof.Rows
section
variable {X : Cx} {a b : Expr} {t : TA} {p p2 pos ppos : Pos}
theorem prg_a1 (hg : Gl X "range") (hm : X.mg "range" = none) (ha : PA X [a] t) (hs : starEach [a] X.env = [(false, eval a X.env)]) : PRg X (.Call (.Name "range" p) [a] [] pos) (fun σ H Q => t σ H fun xs H1 => ∃ n, xs = [.int n] ∧ Q 0 n H1) := by
  intro pins s σ H Q I h
  refine Call_ (ld_blt I hg hm boot_range (PyProof.Rows.callWith_type1 (thn (ha.run pos pins s σ H _ I h) fun us s1 ⟨vs, H1, I1, r1, q1⟩ => ?_) hs rfl))
  obtain ⟨n, e, q⟩ := q1
  subst e
  cases r1 with
  | cons r rr =>
    cases rr
    obtain ⟨t, rfl⟩ := r
    exact call_range_1 ⟨_, 0, n, _, _, _, H1, rfl, IsRange.new _ _ _ _ _ _ _, I1.kept fun b u e => Heap.get?_push_of_some _ e, q⟩
end
def tTupRgK (te : St → Hp → (Int → Int → Hp → Prop) → Prop) : TE := fun σ H Q => te σ H fun a b H1 => RgOk a b ∧ ∀ q o, H1 q = none → Obj.dict o = none → Q (.ref q) (upd H1 q (.frz o (.tup (rgV a b))))
theorem pe_tupRgK {X : Cx} {e : Expr} {te : St → Hp → (Int → Int → Hp → Prop) → Prop} {p pos : Pos} (hc : X.calm = true) (hg : Gl X "tuple") (hm : X.mg "tuple" = none) (he : PRg X e te) (na : starEach [e] X.env = (false, eval e X.env) :: starEach [] X.env := by rfl) : PE X (.Call (.Name "tuple" p) [e] [] pos) (tTupRgK te) := by
  refine ⟨fun pins s σ H Q I h => Call_ (ld_blt I hg hm PyProof.Rows.boot_tuple (PyProof.Rows.callWith_type1 (args_cons (thn (he pins s σ H _ I h) ?_) na) na))⟩
  rintro x s1 ⟨r, a, b, t, u, v, H1, rfl, hr, I1, ⟨b1, b2, b3, b4, b5⟩, q⟩
  refine args_nil (call_tuple_range (n := (b - a).toNat) (I1.ok.hd hc) hr (small_one b1 b2 b3 b4) (rangeSize_nat a b) b5 fun h' tk acc hk hi => ?_)
  have I2 : Inv X pins σ H1 { s1 with heap := h', toks := tk } := I1.kept hk
  have L := DM.laidK (tk := tk) (us := acc.toList) I2 (by rw [rgV_length, sizeLine_eq]; omega) (vals_rg hi)
  rw [Array.toArray_toList] at L
  exact ⟨.ref _, _, L, rfl, q _ _ (I2.hok.fresh (Nat.le_refl _)) rfl⟩
def rTupRg1 : List V → Hp → VK → Prop := fun xs H Q => ∃ n, xs = [.int n] ∧ RgOk 0 n ∧ ∀ q o, H q = none → Obj.dict o = none → Q (.ref q) (upd H q (.frz o (.tup (rgV 0 n))))
end L2
namespace DM
open PySem PySem.Spec L2
def rgD (a b : Int) : List D := (List.range (b - a).toNat).map fun (i : Nat) => D.int (a + (i : Int))
instance {a b : Int} : Decidable (RgOk a b) := by unfold RgOk; infer_instance
def tupRgF : FN := fun _ rs => match rs with
  | [.d (.int n)] => if RgOk 0 n then some (.d (.tup (rgD 0 n))) else none
  | _ => none
theorem reps_map {G : GT} {ρ : List Addr} {H : Hp} {a : Int} : ∀ l : List Nat, Reps G ρ H (l.map fun (i : Nat) => D.int (a + (i : Int))) (l.map fun i => V.int (a + (i : Nat)))
  | [] => .nil
  | _ :: r => .cons (.int _) (reps_map r)
theorem reps_rg {G : GT} {ρ : List Addr} {H : Hp} {a b : Int} : Reps G ρ H (rgD a b) (rgV a b) := reps_map _
theorem so_tupRg {G : GT} : SON G rTupRg1 tupRgF := fun P ρ H S rs vs Q ov s h e k => by
  unfold tupRgF at e
  split at e
  · split at e
    · cases e
      exact ⟨_, rrs_i1 h, by assumption, op_tup k reps_rg⟩
    · cases e
  · cases e
section
variable {G : GT} {W : WX} {X : Cx} {a b : Expr} {ma mb : ME} {p pos p2 pos2 : Pos}
theorem se_tupRg1 (hc : X.calm = true) (hl : Gl X "tuple") (hlm : X.mg "tuple" = none) (hg : Gl X "range") (hm : X.mg "range" = none) (ha : SA G W X [a] [ma]) (hs : starEach [a] X.env = [(false, eval a X.env)] := by rfl)
    (na : starEach [.Call (.Name "range" p2) [a] [] pos2] X.env = (false, eval (.Call (.Name "range" p2) [a] [] pos2) X.env) :: starEach [] X.env := by rfl) : SE G W X (.Call (.Name "tuple" p) [.Call (.Name "range" p2) [a] [] pos2] [] pos) (eOpN tupRgF [ma]) :=
  opN_core so_tupRg ha fun t h => PE.of (pe_tupRgK hc hl hlm (prg_a1 hg hm h hs) na) fun σ H Q q => q
end
theorem tupRg_e {S : Store} {n : Int} (h : 0 ≤ n) (h1 : n ≤ 16777216) : tupRgF S [.d (.int n)] = some (.d (.tup (rngD n.toNat))) := by
  show (if _ then _ else _) = _
  rw [if_pos (RgOk.of_le (by omega) h1 (by omega) h)]
  unfold rgD rngD
  simp
def revF (S : Store) (r : RV) : Option OV := (lstOf S r).map fun ds => .l ds.reverse
def eRev (m : ME) : ME := fun es S => (m es S).bind fun r S1 => ofO (revF S1 r.weak) S1
section
variable {G : GT} {W : WX} {X : Cx} {e : Expr} {m : ME} {p1 p2 p3 pos : Pos} {k : Nat}
end
def kRevE (Q : RV → Store → Prop) (r : RV) (S : Store) : Prop := QO (revF S r.weak) S Q
theorem kRevE_l {Q : RV → Store → Prop} {S : Store} {p : Bool} {x : List D} : kRevE Q (.l p x) S = Q (.l true x.reverse) S := nr rfl
theorem w_revE {Q : RV → Store → Prop} {X : QX} {m : ME} {es : Env} {S : Store} : WR (eRev m es S) Q X = WR (m es S) (kRevE Q) X := by
  unfold eRev kRevE
  simp only [WR_bind, WR_ofO]
open Classical in
noncomputable def sIns0 (k : Nat) (me : ME) : MS := fun es S => match es[k]? with
  | some (.own ds) => bindS ((me es S).bind item) es fun x S1 => if ds.length < sizeLine then .nx (es.set k (.own (x :: ds))) S1 else .bad
  | _ => .bad
section
variable {G : GT} {W : WX} {X : Cx} {e : Expr} {me : ME} {pos : Pos}
end
def kInsO (ds : List D) (k : Nat) (es : Env) (E : En) (r : RV) (S : Store) : Prop := QI r S fun x S1 => ds.length < sizeLine ∧ E.nx (es.set k (.own (x :: ds))) S1
theorem kInsO_d {k : Nat} {es : Env} {E : En} {S : Store} {ds : List D} {x : D} : kInsO ds k es E (.d x) S = (ds.length < sizeLine ∧ E.nx (es.set k (.own (x :: ds))) S) := nr rfl
def QIns (o : Option Slot) (k : Nat) (m : ME) (es : Env) (S : Store) (E : En) : Prop := match o with
  | some (.own ds) => WR (m es S) (kInsO ds k es E) (kX es E)
  | _ => False
theorem QIns_o {k : Nat} {m : ME} {es : Env} {S : Store} {E : En} {ds : List D} : QIns (some (.own ds)) k m es S E = WR (m es S) (kInsO ds k es E) (kX es E) := nr rfl
theorem w_ins0 {k : Nat} {m : ME} {es : Env} {S : Store} {E : En} : WS (sIns0 k m es S) E = QIns es[k]? k m es S E := by
  unfold sIns0 QIns
  cases es[k]? with
  | none => rfl
  | some s =>
    cases s with
    | no => rfl
    | bor _ => rfl
    | own ds =>
      show WS (bindS _ _ _) E = _
      rw [WS_bindS]
      simp only [WR_bind, WR_item, WS_ite]
      rfl
    | v y => rfl
def miEnumA (m : MQ) : MI := fun es S => (m es S).bind fun x S1 => .ok (enumD x.1, chk x.2 x.1) S1
def kEnumA (Q : QMI) (x : List D × SK) (S : Store) : Prop := Q (enumD x.1, chk x.2 x.1) S
theorem kEnumA_e {S : Store} {ds : List D} {k : SK} {Q : QMI} : kEnumA Q (ds, k) S = Q (enumD ds, chk k ds) S := nr rfl
theorem w_miEnumA {S : Store} {es : Env} {X : QX} {q : MQ} {Q : QMI} : WR (miEnumA q es S) Q X = WR (q es S) (kEnumA Q) X := by
  unfold miEnumA
  rw [WR_bind]
  rfl
def popS (S : Store) (x i : RV) : Res RV := match x, i with
  | .d (.loc n), .d (.int j) => (match S[n]? with
    | some (.lst ds) => (match seqIndex? j ds.length with
      | some k => (match ds[k]? with
        | some d => if -(2 ^ 63) ≤ j ∧ j < 2 ^ 63 then .ok (.d d) (S.set n (.lst (ds.eraseIdx k))) else .bad
        | none => .bad)
      | none => .bad)
    | _ => .bad)
  | _, _ => .bad
def ePopAt (mo mi : ME) : ME := fun es S => (mo es S).bind fun x S1 => if tyF "list" S1 x.weak = true then (eArgs [mi] es S1).bind fun is S2 => (match is with
  | [i] => popS S2 x i
  | _ => .bad) else .bad
section
variable {G : GT} {W : WX} {X : Cx} {o e : Expr} {mo mi : ME} {apos cpos : Pos}
end
def kPop2 (x : RV) (Q : RV → Store → Prop) (X : QX) (is : List RV) (S : Store) : Prop := WR (match is with | [i] => popS S x i | _ => .bad) Q X
def kPop (mi : ME) (es : Env) (Q : RV → Store → Prop) (X : QX) (x : RV) (S : Store) : Prop := tyF "list" S x.weak = true ∧ WR (eArgs [mi] es S) (kPop2 x Q X) X
theorem kPop_e {S : Store} {es : Env} {mi : ME} {Q : RV → Store → Prop} {X : QX} {n : Nat} : kPop mi es Q X (.d (.loc n)) S = (tyF "list" S (.d (.loc n)) = true ∧ WR (eArgs [mi] es S) (kPop2 (.d (.loc n)) Q X) X) := nr rfl
theorem kPop2_e {S : Store} {x i : RV} {Q : RV → Store → Prop} {X : QX} : kPop2 x Q X [i] S = WR (popS S x i) Q X := nr rfl
theorem w_popAt {S : Store} {es : Env} {mo mi : ME} {Q : RV → Store → Prop} {X : QX} : WR (ePopAt mo mi es S) Q X = WR (mo es S) (kPop mi es Q X) X := by
  unfold ePopAt kPop kPop2
  rw [WR_bind]
  congr 1
  funext x S1
  by_cases h : tyF "list" S1 x.weak = true
  · rw [if_pos h, WR_bind]; exact propext ⟨fun z => ⟨h, z⟩, fun z => z.2⟩
  · rw [if_neg h]; exact propext ⟨fun z => z.elim, fun z => (h z.1).elim⟩
end DM

namespace L2
open PySem PySem.Spec PyProof.Rows
def metN (ns : List Int) : List Int := PyProof.Rows.firstMet (fun i => ns.getD i 0) ns.length
end L2
namespace DM
open PySem PySem.Spec L2
def sortI (ns : List Int) : List Int := ns.mergeSort fun a b => decide (a ≤ b)
def sortedF : FN := liF fun ns => some (.l ((sortI ns).map D.int))
section
variable {G : GT} {W : WX} {X : Cx} {a : Expr} {as : List Expr} {ms : List ME} {p pos : Pos}
end
theorem sorted_e {S : Store} {b : Bool} {ns : List Int} : sortedF S [.l b (ns.map .int)] = some (.l ((sortI ns).map D.int)) := by
  show (intsOf (ns.map D.int)).bind _ = _
  rw [intsOf_map]
  rfl
instance {i j : Int} : Decidable (CDiv i j) := by unfold CDiv; infer_instance
def divmodF : FN := fun _ rs => match rs with
  | [.d (.int i), .d (.int j)] => if CDiv i j then some (.d (.tup [.int (i / j), .int (i % j)])) else none
  | _ => none
section
variable {G : GT} {W : WX} {X : Cx} {a : Expr} {as : List Expr} {ms : List ME} {p pos : Pos}
end
theorem divmod_e {S : Store} {i j : Int} : divmodF S [.d (.int i), .d (.int j)] = gd (CDiv i j) (.d (.tup [.int (i / j), .int (i % j)])) := gd_of
def lenSetF (S : Store) (r : RV) : Option OV := (lstOf S r).bind fun ds => (intsOf ds).bind fun ns => if ns.length ≤ 4000 then some (.d (.int ((metN ns).length : Nat))) else none
def eLenSet (m : ME) : ME := fun es S => (m es S).bind fun r S1 => ofO (lenSetF S1 r.weak) S1
section
variable {G : GT} {W : WX} {X : Cx} {e : Expr} {m : ME} {p p2 q pos : Pos}
end
def kLenSet (Q : RV → Store → Prop) (r : RV) (S : Store) : Prop := QO (lenSetF S r.weak) S Q
theorem kLenSet_l {Q : RV → Store → Prop} {S : Store} {p : Bool} {x : List D} : kLenSet Q (.l p x) S = QO (lenSetF S (.l false x)) S Q := nr rfl
theorem w_lenSet {Q : RV → Store → Prop} {X : QX} {m : ME} {es : Env} {S : Store} : WR (eLenSet m es S) Q X = WR (m es S) (kLenSet Q) X := by
  unfold eLenSet kLenSet
  simp only [WR_bind, WR_ofO]
end DM

namespace DM
open PySem PySem.Spec PyProof.Rows HT L2
section
variable {prog : Program} {w : World} {A : Around} {E : Value → Shared → Prop} {s : Shared}
end
section
variable {X : Cx}
end
end DM
namespace DM
open PySem PySem.Spec L2
def revAF (S : Store) (r : RV) : Option OV := match r with
  | .d (.tup ds) => some (.d (.tup ds.reverse))
  | r => (lstOf S r).map fun ds => .l ds.reverse
def eRevA (m : ME) : ME := fun es S => (m es S).bind fun r S1 => ofO (revAF S1 r.weak) S1
section
variable {G : GT} {W : WX} {X : Cx} {e : Expr} {m : ME} {p1 p2 p3 pos : Pos} {k : Nat}
end
def kRevA (Q : RV → Store → Prop) (r : RV) (S : Store) : Prop := QO (revAF S r.weak) S Q
theorem kRevA_l {Q : RV → Store → Prop} {S : Store} {p : Bool} {x : List D} : kRevA Q (.l p x) S = Q (.l true x.reverse) S := nr rfl
theorem kRevA_t {Q : RV → Store → Prop} {S : Store} {x : List D} : kRevA Q (.d (.tup x)) S = Q (.d (.tup x.reverse)) S := nr rfl
theorem kRevA_o {Q : RV → Store → Prop} {S : Store} {n : Nat} : kRevA Q (.d (.loc n)) S = QO ((lstO S[n]?).map fun ds => .l ds.reverse) S Q := nr rfl
theorem w_revA {Q : RV → Store → Prop} {X : QX} {m : ME} {es : Env} {S : Store} : WR (eRevA m es S) Q X = WR (m es S) (kRevA Q) X := by
  unfold eRevA kRevA
  simp only [WR_bind, WR_ofO]
end DM

namespace DM
open PySem PySem.Spec L2
open Classical in
noncomputable def miZipM (m n : MQ) : MI := fun es S => (m es S).bind fun x S1 => (n es S1).bind fun y S2 =>
  if chk x.2 x.1 S2 then .ok (zipD x.1 y.1, fun S => chk x.2 x.1 S ∧ chk y.2 y.1 S) S2 else .bad
def kZipM2 (x : List D × SK) (Q : QMI) (y : List D × SK) (S : Store) : Prop := chk x.2 x.1 S ∧ Q (zipD x.1 y.1, fun S => chk x.2 x.1 S ∧ chk y.2 y.1 S) S
def kZipM (q : MQ) (es : Env) (Q : QMI) (X : QX) (x : List D × SK) (S : Store) : Prop := WR (q es S) (kZipM2 x Q) X
theorem kZipM_e {q : MQ} {es : Env} {S : Store} {X : QX} {x : List D × SK} {Q : QMI} : kZipM q es Q X x S = WR (q es S) (kZipM2 x Q) X := nr rfl
theorem kZipM2_e {S : Store} {ds ds' : List D} {k k' : SK} {Q : QMI} : kZipM2 (ds, k) Q (ds', k') S = (chk k ds S ∧ Q (zipD ds ds', fun S => chk k ds S ∧ chk k' ds' S) S) := nr rfl
theorem w_miZipM {p q : MQ} {es : Env} {S : Store} {X : QX} {Q : QMI} : WR (miZipM p q es S) Q X = WR (p es S) (kZipM q es Q X) X := by
  unfold miZipM kZipM kZipM2
  simp only [WR_bind, WR_ite]
  rfl
open Classical in
noncomputable def appS (S : Store) (x i : RV) : Res RV := match x with
  | .d (.loc n) => (item i S).bind fun d S1 => match S1[n]? with
    | some (.lst ds) => if ds.length < sizeLine then .ok (.d .non) (S1.set n (.lst (ds ++ [d]))) else .bad
    | _ => .bad
  | _ => .bad
noncomputable def eAppD (mo mi : ME) : ME := fun es S => (mo es S).bind fun x S1 => if tyF "list" S1 x.weak = true then (eArgs [mi] es S1).bind fun is S2 => (match is with
  | [.d d] => appS S2 x (.d d)
  | _ => .bad) else .bad
section
variable {G : GT} {W : WX} {X : Cx} {o e : Expr} {mo mi : ME} {apos cpos : Pos}
end
def kAppD2 (x : RV) (Q : RV → Store → Prop) (X : QX) (is : List RV) (S : Store) : Prop := WR (match is with | [.d d] => appS S x (.d d) | _ => .bad) Q X
def kAppD (mi : ME) (es : Env) (Q : RV → Store → Prop) (X : QX) (x : RV) (S : Store) : Prop := tyF "list" S x.weak = true ∧ WR (eArgs [mi] es S) (kAppD2 x Q X) X
theorem kAppD_e {S : Store} {es : Env} {mi : ME} {Q : RV → Store → Prop} {X : QX} {n : Nat} : kAppD mi es Q X (.d (.loc n)) S = (tyF "list" S (.d (.loc n)) = true ∧ WR (eArgs [mi] es S) (kAppD2 (.d (.loc n)) Q X) X) := nr rfl
theorem kAppD2_e {S : Store} {x : RV} {d : D} {Q : RV → Store → Prop} {X : QX} : kAppD2 x Q X [.d d] S = WR (appS S x (.d d)) Q X := nr rfl
theorem w_appD {S : Store} {es : Env} {mo mi : ME} {Q : RV → Store → Prop} {X : QX} : WR (eAppD mo mi es S) Q X = WR (mo es S) (kAppD mi es Q X) X := by
  unfold eAppD kAppD kAppD2
  rw [WR_bind]
  congr 1
  funext x S1
  by_cases h : tyF "list" S1 x.weak = true
  · rw [if_pos h, WR_bind]; exact propext ⟨fun z => ⟨h, z⟩, fun z => z.2⟩
  · rw [if_neg h]; exact propext ⟨fun z => z.elim, fun z => (h z.1).elim⟩
end DM

namespace SrtO
open PySem PyProof.Rows Srt
section
variable {prog : Program} {w : World} {A : Around} {E : Value → Shared → Prop} {s : Shared}
end
end SrtO
namespace L2
open PySem PySem.Spec PyProof.Rows
end L2
namespace DM
open PySem PySem.Spec L2
section
variable {G : GT} {W : WX} {X : Cx} {a : Expr} {as : List Expr} {ms : List ME} {p pos : Pos}
end
end DM

namespace DM
open PySem PySem.Spec L2
section
variable {G : GT} {W : WX} {X : Cx} {a : Expr} {ma : ME} {pos pt : Pos} {ts : List Expr} {k : Nat}
end
section
variable {es : Env} {S : Store} {E : En} {m : ME} {n : Nat} {gs : MGs}
end
section
variable {G : GT} {W : WX} {X : Cx} {o : Expr} {mo : ME} {apos cpos : Pos}
end
end DM

namespace DM
open PySem PySem.Spec L2
section
variable {G : GT} {P : Hp} {ρ : List Addr} {H : Hp} {S : Store}
theorem VS.push {a : Addr} {y : HO} {o : O} (s : VS G P ρ H S) (hn : H a = none) (r : ∀ ρ', OR G ρ' (upd H a y) o a) : VS G P (ρ ++ [a]) (upd H a y) (S ++ [o]) := by
  have tk : TK ρ H (ρ ++ [a]) (upd H a y) := TK.new hn
  have hf := s.free hn
  refine ⟨by simp [s.len], ?_, fun n b o' e1 e2 => ?_, fun b o' e => ?_⟩
  · rw [List.nodup_append]
    refine ⟨s.nd, by simp, fun x hx y hy => ?_⟩
    have : y = a := by simpa using hy
    subst this
    exact fun z => hf.1 (z ▸ hx)
  · by_cases hl : n < ρ.length
    · rw [List.getElem?_append_left hl] at e1
      rw [List.getElem?_append_left (by rw [← s.len]; exact hl)] at e2
      have hb : b ≠ a := fun z => hf.1 (z ▸ List.mem_of_getElem? e1)
      exact (s.st n b o' e1 e2).next tk (upd_ne hb)
    · have hn' : n = ρ.length := by
        have := (List.getElem?_eq_some_iff.mp e1).1
        simp at this
        omega
      subst hn'
      rw [List.getElem?_append_right (Nat.le_refl _)] at e1
      rw [s.len, List.getElem?_append_right (Nat.le_refl _)] at e2
      simp at e1 e2
      subst e1 e2
      exact r _
  · obtain ⟨q1, q2⟩ := s.pr b o' e
    have hb : b ≠ a := fun z => by rw [z, hn] at q1; cases q1
    refine ⟨by rw [upd_ne hb]; exact q1, fun m => ?_⟩
    rcases List.mem_append.mp m with m | m
    · exact q2 m
    · exact hb (by simpa using m)
end
def key1 : D → Option Key
  | .int i => some (.inl i)
  | .str x => some (.inr x)
  | _ => none
def keyOf : Bool → D → Option (List Key)
  | true, .tup ds => ds.mapM key1
  | true, _ => none
  | false, d => (key1 d).map fun k => [k]
def valD (kvs : List (List Key × D)) (k : List Key) : Option D := (kvs.find? fun kv => decide (kv.1 = k)).map (·.2)
def putD (kvs : List (List Key × D)) (k : List Key) (v : D) : List (List Key × D) :=
  if (kvs.any fun kv => decide (kv.1 = k)) = true then kvs.map (fun kv => if kv.1 = k then (kv.1, v) else kv) else kvs ++ [(k, v)]
section
variable {G : GT} {P : Hp} {ρ : List Addr} {H : Hp} {S : Store}
def KR (G : GT) (ρ : List Addr) (H : Hp) (kvs : List (List Key × D)) (us : List (List Key × V)) : Prop := kvs.map (·.1) = us.map (·.1) ∧ Reps G ρ H (kvs.map (·.2)) (us.map (·.2))
theorem KR.cons {p : List Key × D} {q : List Key × V} {kvs : List (List Key × D)} {us : List (List Key × V)} (h : KR G ρ H (p :: kvs) (q :: us)) : p.1 = q.1 ∧ Rep G ρ H p.2 q.2 ∧ KR G ρ H kvs us := by
  obtain ⟨h1, h2⟩ := h
  rw [List.map_cons, List.map_cons] at h1 h2
  injection h1 with h1 h3
  cases h2 with
  | cons a b => exact ⟨h1, a, h3, b⟩
theorem KR.mk {p : List Key × D} {q : List Key × V} {kvs : List (List Key × D)} {us : List (List Key × V)} (h1 : p.1 = q.1) (h2 : Rep G ρ H p.2 q.2) (h : KR G ρ H kvs us) : KR G ρ H (p :: kvs) (q :: us) := by
  refine ⟨?_, ?_⟩
  · rw [List.map_cons, List.map_cons, h1, h.1]
  · rw [List.map_cons, List.map_cons]; exact .cons h2 h.2
theorem KR.nil' {us : List (List Key × V)} (h : KR G ρ H [] us) : us = [] := by
  have := h.1
  cases us with
  | nil => rfl
  | cons _ _ => cases this
theorem KR.len : ∀ {kvs : List (List Key × D)} {us : List (List Key × V)}, KR G ρ H kvs us → kvs.length = us.length := fun h => by
  have := congrArg List.length h.1
  simpa using this
theorem KR.val : ∀ {kvs : List (List Key × D)} {us : List (List Key × V)} (k : List Key), KR G ρ H kvs us → match valD kvs k, valV us k with
    | some d, some v => Rep G ρ H d v
    | none, none => True
    | _, _ => False
  | [], us, k, h => by cases h.nil'; trivial
  | p :: kvs, [], k, h => by have := h.1; cases this
  | p :: kvs, q :: us, k, h => by
    obtain ⟨h1, h2, h3⟩ := h.cons
    have ih := KR.val k h3
    by_cases e : p.1 = k
    · have a : valD (p :: kvs) k = some p.2 := by simp [valD, List.find?_cons, e]
      rw [a, valV_pos (h1.symm.trans e)]
      exact h2
    · have a : valD (p :: kvs) k = valD kvs k := by simp [valD, List.find?_cons, e]
      rw [a, valV_neg (fun z => e (h1.trans z))]
      exact ih
theorem KR.any : ∀ {kvs : List (List Key × D)} {us : List (List Key × V)} (k : List Key), KR G ρ H kvs us → (kvs.any fun kv => decide (kv.1 = k)) = (us.any fun kv => decide (kv.1 = k))
  | [], us, k, h => by cases h.nil'; rfl
  | p :: kvs, [], k, h => by have := h.1; cases this
  | p :: kvs, q :: us, k, h => by
    obtain ⟨h1, h2, h3⟩ := h.cons
    rw [List.any_cons, List.any_cons, KR.any k h3, h1]
theorem KR.repl : ∀ {kvs : List (List Key × D)} {us : List (List Key × V)} (k : List Key) {d : D} {v : V}, Rep G ρ H d v → KR G ρ H kvs us →
    KR G ρ H (kvs.map fun kv => if kv.1 = k then (kv.1, d) else kv) (us.map fun kv => if kv.1 = k then (kv.1, v) else kv)
  | [], us, k, d, v, r, h => by cases h.nil'; exact h
  | p :: kvs, [], k, d, v, r, h => by have := h.1; cases this
  | p :: kvs, q :: us, k, d, v, r, h => by
    obtain ⟨h1, h2, h3⟩ := h.cons
    rw [List.map_cons, List.map_cons]
    refine KR.mk ?_ ?_ (KR.repl k r h3)
    · split <;> split <;> exact h1
    · by_cases e : p.1 = k
      · rw [if_pos e, if_pos (h1.symm.trans e)]; exact r
      · rw [if_neg e, if_neg (fun z => e (h1.trans z))]; exact h2
theorem KR.snoc : ∀ {kvs : List (List Key × D)} {us : List (List Key × V)} (k : List Key) {d : D} {v : V}, Rep G ρ H d v → KR G ρ H kvs us → KR G ρ H (kvs ++ [(k, d)]) (us ++ [(k, v)])
  | [], us, k, d, v, r, h => by cases h.nil'; exact KR.mk rfl r h
  | p :: kvs, [], k, d, v, r, h => by have := h.1; cases this
  | p :: kvs, q :: us, k, d, v, r, h => by
    obtain ⟨h1, h2, h3⟩ := h.cons
    exact KR.mk h1 h2 (KR.snoc k r h3)
theorem KR.put {kvs : List (List Key × D)} {us : List (List Key × V)} (k : List Key) {d : D} {v : V} (r : Rep G ρ H d v) (h : KR G ρ H kvs us) : KR G ρ H (putD kvs k d) (putK us k v) := by
  unfold putD putK
  rw [h.any k]
  split
  · exact h.repl k r
  · exact h.snoc k r
theorem KR.mono {ρ' : List Addr} {H' : Hp} {kvs : List (List Key × D)} {us : List (List Key × V)} (h : KR G ρ H kvs us) (k : TK ρ H ρ' H') : KR G ρ' H' kvs us := ⟨h.1, h.2.mono k⟩
end
def dicAt (S : Store) (r : RV) : Option (Nat × Bool × List (List Key × D)) := match r with
  | .d (.loc n) => (match S[n]? with
    | some (.dic t kvs) => some (n, t, kvs)
    | _ => none)
  | _ => none
def dicRd (S : Store) (r : RV) : Option (Nat × Bool × List (List Key × D)) := match r with
  | .d (.loc n) => (match S[n]? with
    | some (.dic t kvs) => some (n, t, kvs)
    | some (.ins t kvs) => some (n, t, kvs)
    | _ => none)
  | _ => none
def dfind (S : Store) (a b : RV) : Option (Option D) := match dicRd S a, b with
  | some (_, t, kvs), .d kd => (keyOf t kd).map fun ks => valD kvs ks
  | _, _ => none
def dgetF : F2 := fun S a b => match dfind S a b with
  | some (some d) => some (.d d)
  | _ => none
def dninF : F2 := fun S b a => (dfind S a b).map fun o => .d (.bl (!o.isSome))
section
variable {G : GT} {P : Hp} {ρ : List Addr} {H : Hp} {S : Store}
end
def eDNew (t : Bool) : ME := fun _ S => .ok (.d (.loc S.length)) (S ++ [.dic t []])
def eDGet2 (md mk mx : ME) : ME := fun es S => (md es S).bind fun a S1 => if (dicAt S1 a).isSome = true then (mk es S1).bind fun b S2 => (mx es S2).bind fun c S3 => (match dfind S3 a b, c with
  | some o, .d x => .ok (.d (o.getD x)) S3
  | _, _ => .bad) else .bad
noncomputable def dputS (S : Store) (es : Env) (x : D) (a b : RV) : SR := match dicAt S a, b with
  | some (n, t, kvs), .d kd => (match keyOf t kd with
    | some ks => @ite _ (kvs.length < sizeLine) (Classical.propDecidable _) (.nx es (S.set n (.dic t (putD kvs ks x)))) .bad
    | none => .bad)
  | _, _ => .bad
noncomputable def sDPut (md mk me : ME) : MS := fun es S => bindS ((me es S).bind item) es fun x S1 => bindS (md es S1) es fun a S2 => bindS (mk es S2) es fun b S3 => dputS S3 es x a b
section
variable {G : GT} {W : WX} {X : Cx} {o i e f : Expr} {mo mi me mf : ME} {pos p3 apos cpos : Pos} {k : Nat}
end
section
variable {es : Env} {S : Store} {E : En} {Q : RV → Store → Prop} {X : QX} {a b c : ME} {t : Bool} {n : Nat} {kvs : List (List Key × D)} {kd x : D} {ks : List Key}
theorem w_dnew : WR (eDNew t es S) Q X = Q (.d (.loc S.length)) (S ++ [.dic t []]) := nr rfl
def kDG3 (a b : RV) (Q : RV → Store → Prop) (X : QX) (c : RV) (S : Store) : Prop := WR (match dfind S a b, c with
  | some o, .d x => .ok (.d (o.getD x)) S
  | _, _ => .bad) Q X
def kDG2 (mx : ME) (es : Env) (a : RV) (Q : RV → Store → Prop) (X : QX) (b : RV) (S : Store) : Prop := WR (mx es S) (kDG3 a b Q X) X
def kDG1 (mk mx : ME) (es : Env) (Q : RV → Store → Prop) (X : QX) (a : RV) (S : Store) : Prop := (dicAt S a).isSome = true ∧ WR (mk es S) (kDG2 mx es a Q X) X
theorem kDG1_e {r : RV} : kDG1 b c es Q X r S = ((dicAt S r).isSome = true ∧ WR (b es S) (kDG2 c es r Q X) X) := nr rfl
theorem kDG2_e {r q : RV} : kDG2 c es r Q X q S = WR (c es S) (kDG3 r q Q X) X := nr rfl
theorem w_dget2 : WR (eDGet2 a b c es S) Q X = WR (a es S) (kDG1 b c es Q X) X := by
  unfold eDGet2 kDG1 kDG2 kDG3
  rw [WR_bind]
  congr 1
  funext r S1
  by_cases h : (dicAt S1 r).isSome = true
  · rw [if_pos h, WR_bind]
    simp only [WR_bind]
    exact propext ⟨fun z => ⟨h, z⟩, fun z => z.2⟩
  · rw [if_neg h]; exact propext ⟨fun z => z.elim, fun z => (h z.1).elim⟩
def kDP3 (x : D) (a : RV) (es : Env) (E : En) (b : RV) (S : Store) : Prop := WS (dputS S es x a b) E
def kDP2 (mk : ME) (x : D) (es : Env) (E : En) (a : RV) (S : Store) : Prop := WR (mk es S) (kDP3 x a es E) (kX es E)
def kDP1 (md mk : ME) (es : Env) (E : En) (r : RV) (S : Store) : Prop := QI r S fun x S1 => WR (md es S1) (kDP2 mk x es E) (kX es E)
theorem kDP1_d {y : D} : kDP1 a b es E (.d y) S = WR (a es S) (kDP2 b y es E) (kX es E) := nr rfl
theorem kDP2_e {y : D} {r : RV} : kDP2 b y es E r S = WR (b es S) (kDP3 y r es E) (kX es E) := nr rfl
theorem w_dput : WS (sDPut a b c es S) E = WR (c es S) (kDP1 a b es E) (kX es E) := by
  unfold sDPut kDP1 kDP2 kDP3 kX
  rw [WS_bindS]
  simp only [WR_bind, WR_item, WS_bindS]
end
end DM

namespace DM
open PySem PySem.Spec L2 PyProof.Rows
section
variable {X : Cx}
end
noncomputable def mulTF : F2 := fun S a b => match a, b with
  | .d (.tup xs), .d (.int j) => if -(2 ^ 63) ≤ j ∧ j ≤ 1000 ∧ xs.length ≤ 1000 then some (.d (.tup (repL j.toNat xs))) else none
  | _, _ => none
section
variable {G : GT} {W : WX} {X : Cx} {a b : Expr} {ma mb : ME} {pos : Pos} {S : Store}
end
end DM

namespace DTW
open PySem PySem.SeqAt PyProof.Rows PySem.W
section
variable {prog : Program} {w : World} {A : Around} {E : Value → Shared → Prop} {s : Shared}
end
end DTW
namespace L2
open PySem PySem.Spec PyProof.Rows PySem.W
section
variable {X : Cx}
def rMaxT (K : PySem.W.Frag) : List V → Hp → VK → Prop := fun vs H Q => ∃ (a : Addr) (n : Int) (ns : List Int), vs = [V.ref a] ∧ SqT K H a ((n :: ns).map V.int) ∧ Q (.int (ns.foldl max n)) H
theorem dp_ints {K : PySem.W.Frag} {H : Hp} : ∀ ns : List Int, DpAll K H (ns.map V.int) (ns.map PyData.int)
  | [] => .nil
  | n :: ns => .cons (.int n) (dp_ints ns)
theorem alike_intsL {ns : List Int} : AlikeAll (ns.map PyData.int) := by
  refine ⟨fun x hx y hy => ?_, fun x hx => ?_⟩
  · obtain ⟨a, _, rfl⟩ := List.mem_map.mp hx
    obtain ⟨b, _, rfl⟩ := List.mem_map.mp hy
    simp [alike]
  · obtain ⟨a, _, rfl⟩ := List.mem_map.mp hx
    exact fun z => by cases z
theorem cr_maxT (hc : X.calm = true) (hu : X.A.units + 65 < cLine) : CallR X (.builtin "max") (rMaxT X.K) := by
  intro pins s σ H vs us Q I r h
  obtain ⟨a, n, ns, rfl, hs, q⟩ := h
  obtain ⟨its, rv, hl, _⟩ := I.tuple hs
  rw [Vals.ref1 r]
  obtain ⟨as, hr⟩ := Dp.readsAll I ((n :: ns).map PyData.int) _ its (dp_ints (n :: ns)) rv
  have hd := depth_ints (n :: ns)
  refine max_tuple_data (vs := its.toArray) (I.ok.hd hc) hl hr (alike_intsL (ns := n :: ns)) (by
    show X.A.units + 1 + PyData.depthAll ((n :: ns).map PyData.int) < cLine
    rw [hd]; omega) fun i v h' tk bs hv hrd hk => ?_
  rw [show (List.map PyData.int ns) = ns.map .int from rfl, maxD_ints] at hrd
  cases hrd
  exact ⟨.int _, H, I.kept hk, ⟨_, rfl⟩, q⟩
end
end L2
namespace DM
open PySem PySem.Spec L2 PyProof.Rows PySem.W
mutual
def backD : PyData → D
  | .none => .non
  | .bool b => .bl b
  | .int i => .int i
  | .str x => .str x
  | .tuple ds => .tup (backL ds)
  | _ => .non
def backL : List PyData → List D
  | [] => []
  | d :: ds => backD d :: backL ds
end
mutual
def tupB : PyData → Bool
  | .none | .bool _ | .int _ | .str _ => true
  | .tuple ds => tupL ds
  | _ => false
def tupL : List PyData → Bool
  | [] => true
  | d :: ds => tupB d && tupL ds
end
def tiF (f : Int → List Int → Int) : FN := fun S rs => match rs with
  | [.d (.tup ds)] => (intsOf ds).bind fun ns => match ns with
    | n :: r => some (.d (.int (f n r)))
    | [] => none
  | _ => none
def maxTF : FN := tiF fun n r => r.foldl max n
theorem ti_ok {G : GT} {P : Hp} {ρ : List Addr} {H : Hp} {S : Store} {rs : List RV} {vs : List V} {f : Int → List Int → Int} {ov : OV} (s : VS G P ρ H S) (h : RRs G P ρ H rs vs) (e : tiF f S rs = some ov) : ∃ a n ns, vs = [.ref a] ∧ SqT G.K H a ((n :: ns).map V.int) ∧ ov = .d (.int (f n ns)) := by
  unfold tiF at e
  split at e
  · rename_i ds
    obtain ⟨v, rfl, r⟩ := rrs1 h
    cases z : intsOf ds with
    | none => rw [z] at e; cases e
    | some ns =>
      rw [z] at e
      cases ns with
      | nil => cases e
      | cons n ns =>
        cases e
        have r' : Rep G ρ H (.tup ds) v := r
        obtain ⟨a, us, rfl, e1, q1⟩ := rep_tup r'
        rw [ints_ok q1 z] at e1
        exact ⟨a, n, ns, rfl, e1.sq, rfl⟩
  · cases e
theorem so_maxT {G : GT} : SON G (rMaxT G.K) maxTF := fun P ρ H S rs vs Q ov s h e k => by
  obtain ⟨a, n, ns, rfl, h1, rfl⟩ := ti_ok s h e
  exact ⟨a, n, ns, rfl, h1, op_d k (.int _)⟩
section
variable {G : GT} {W : WX} {X : Cx} {a : Expr} {as : List Expr} {ms : List ME} {p pos : Pos} {k : Nat}
theorem se_maxT (hr : Room k X.A) (hc : X.calm = true) (hg : Gl X "max") (hm : X.mg "max" = none) (ha : SA G W X (a :: as) ms) (he : starEach (a :: as) X.env = (false, eval a X.env) :: starEach as X.env := by rfl) (hpl : (backTo pos (starEach as X.env)).any (·.1) = false := by rfl) : SE G W X (.Call (.Name "max" p) (a :: as) [] pos) (eOpN maxTF ms) :=
  se_callB (cr_maxT hc (Room.u65 hr)) (by rw [ha.k]; exact so_maxT) hg hm (by decide +kernel) ha (by decide) (by decide) he hpl
end
theorem maxT_e {S : Store} {n : Int} {ns : List Int} : maxTF S [.d (.tup (.int n :: ns.map D.int))] = some (.d (.int (ns.foldl max n))) := by
  show (intsOf ((n :: ns).map D.int)).bind _ = _
  rw [intsOf_map]
  rfl
end DM

namespace L2
open PySem PySem.Spec PyProof.Rows
section
variable {X : Cx} {pins : List (Addr × Obj)} {σ : St} {H : Hp} {s : Shared} {a b : Addr} {u r : Value} {d : V} {k : List Key} {A : Around} {E : Value → Shared → Prop}
end
section
variable {X : Cx} {o e f : Expr} {td ty tx : TE} {apos cpos : Pos}
end
def bestL (ls : List Nat) : Nat := argBest (fun i j => decide (ls.getD j 0 < ls.getD i 0)) (ls.length - 1)
section
variable {X : Cx} {o : Expr} {p pos apos mpos kp lp : Pos} {td : TE}
end
end L2
namespace DM
open PySem PySem.Spec L2
open Classical in
noncomputable def setdS (S : Store) (a b : RV) (x : D) : Res RV := match dicAt S a, b with
  | some (n, true, kvs), .d kd => (match keyOf true kd with
    | some ks => if kvs.length < sizeLine then (match valD kvs ks with
      | some v => .ok (.d v) S
      | none => .ok (.d x) (S.set n (.dic true (putD kvs ks x)))) else .bad
    | none => .bad)
  | _, _ => .bad
noncomputable def eSetD (md mk mx : ME) : ME := fun es S => (md es S).bind fun a S1 => if (dicAt S1 a).isSome = true then (mk es S1).bind fun b S2 => ((mx es S2).bind item).bind fun x S3 => setdS S3 a b x else .bad
section
variable {G : GT} {W : WX} {X : Cx} {o e f : Expr} {mo me mf : ME} {pos apos cpos : Pos} {k : Nat}
end
def lenAt (S : Store) : D → Option Nat
  | .loc l => (match S[l]? with
    | some (.lst ds) => some ds.length
    | _ => none)
  | _ => none
def maxLenD (S : Store) (a : RV) : Option D := match dicAt S a with
  | some (_, true, kvs) => (kvs.mapM fun kv => lenAt S kv.2).bind fun ls => (kvs[bestL ls]?).map (·.2)
  | _ => none
noncomputable def eMaxLen (md : ME) : ME := fun es S => (md es S).bind fun a S1 => (match maxLenD S1 a with
  | some d => .ok (.d d) S1
  | none => .bad)
section
variable {G : GT} {W : WX} {X : Cx} {o : Expr} {mo : ME} {p pos apos mpos kp lp : Pos}
end
section
variable {es : Env} {S : Store} {Q : RV → Store → Prop} {X : QX} {a b c : ME} {n : Nat} {kvs : List (List Key × D)} {kd x : D} {ks : List Key}
end
end DM

namespace L2
open PySem PySem.Spec PyProof.Rows
section
variable {P : Program} {w : World} {A : Around} {E : Value → Shared → Prop} {s : Shared}
end
end L2

namespace L2
open PySem PySem.Spec PyProof.Rows
end L2
namespace DM
open PySem PySem.Spec L2
section
variable {G : GT} {W : WX} {X : Cx} {e : Expr} {m : ME} {p p2 q pos : Pos}
end
end DM

namespace DM
open PySem PySem.Spec L2
def KO (G : GT) (ρ : List Addr) (H : Hp) : Bool → List (List Key × D) → HO → Prop
  | true, kvs, u => ∃ us : List (List Key × V), u = .dT us ∧ kvs.map (·.1) = us.map (·.1) ∧ Reps G ρ H (kvs.map (·.2)) (us.map (·.2))
  | false, kvs, u => ∃ us : List (Key × V), u = .dK us ∧ kvs.map (·.1) = us.map (fun q => [q.1]) ∧ Reps G ρ H (kvs.map (·.2)) (us.map (·.2))
def DicU (u : HO) : Prop := (∃ us, u = .dT us) ∨ ∃ us, u = .dK us
section
variable {G : GT} {P P' : Hp} {ρ ρ' : List Addr} {H H' : Hp} {S S' : Store} {t : Bool} {kvs : List (List Key × D)} {a : Addr} {u : HO} {od : Obj}
theorem KO.dic (h : KO G ρ H t kvs u) : DicU u := by
  cases t with
  | true => obtain ⟨us, e, _⟩ := h; exact .inl ⟨us, e⟩
  | false => obtain ⟨us, e, _⟩ := h; exact .inr ⟨us, e⟩
theorem ko_of (h : OR G ρ H (.dic t kvs) a) : ∃ u, H a = some u ∧ KO G ρ H t kvs u := by
  cases t with
  | true => obtain ⟨us, e, x⟩ := h; exact ⟨_, e, us, rfl, x⟩
  | false => obtain ⟨us, e, x⟩ := h; exact ⟨_, e, us, rfl, x⟩
theorem ko_ofL (h : OR G ρ H (.ins t kvs) a) : ∃ od u, H a = some (.frz od u) ∧ KO G ρ H t kvs u := by
  cases t with
  | true => obtain ⟨o, us, e, x⟩ := h; exact ⟨o, _, e, us, rfl, x⟩
  | false => obtain ⟨o, us, e, x⟩ := h; exact ⟨o, _, e, us, rfl, x⟩
theorem KO.or (h : KO G ρ H t kvs u) (e : H a = some u) : OR G ρ H (.dic t kvs) a := by
  cases t with
  | true => obtain ⟨us, rfl, x⟩ := h; exact ⟨us, e, x⟩
  | false => obtain ⟨us, rfl, x⟩ := h; exact ⟨us, e, x⟩
theorem KO.orL (h : KO G ρ H t kvs u) (e : H a = some (.frz od u)) : OR G ρ H (.ins t kvs) a := by
  cases t with
  | true => obtain ⟨us, rfl, x⟩ := h; exact ⟨od, us, e, x⟩
  | false => obtain ⟨us, rfl, x⟩ := h; exact ⟨od, us, e, x⟩
theorem KO.mono (h : KO G ρ H t kvs u) (k : TK ρ H ρ' H') : KO G ρ' H' t kvs u := by
  cases t with
  | true => obtain ⟨us, e, x, y⟩ := h; exact ⟨us, e, x, y.mono k⟩
  | false => obtain ⟨us, e, x, y⟩ := h; exact ⟨us, e, x, y.mono k⟩
theorem ne_dic {b : Addr} {o : HO} (h : H a = some (.frz od u)) (e : H b = some o) (hn : ∀ od, o ≠ .frz od u) : b ≠ a := fun z => by
  rw [z, h] at e
  cases e
  exact hn _ rfl
section
variable (h : H a = some (.frz od u)) (hu : DicU u)
include h hu
mutual
theorem Rep.unl : ∀ {d : D} {v : V}, Rep G ρ H d v → Rep G ρ (upd H a u) d v
  | _, _, .non => .non
  | _, _, .bl b => .bl b
  | _, _, .int i => .int i
  | _, _, .str x => .str x
  | _, _, .tup e r => .tup (e.elim fun o e => ⟨o, by
      rw [upd_ne (ne_dic h e.1 fun _ z => by
        cases z
        rcases hu with ⟨_, z⟩ | ⟨_, z⟩ <;> cases z)]
      exact e.1, e.2⟩) (Reps.unl r)
  | _, _, .loc e => .loc e
  | _, _, .ty n => .ty n
  | _, _, .cls e => .cls e
  | _, _, .fn e => .fn e
  | _, _, .scr e => .scr (e.elim (fun ⟨o, e⟩ => .inl ⟨o, by
      rw [upd_ne (ne_dic h e fun _ z => by
        cases z
        rcases hu with ⟨_, z⟩ | ⟨_, z⟩ <;> cases z)]
      exact e⟩) .inr)
  | _, _, .exn hC e z f => .exn hC (by
      rw [upd_ne (ne_dic h e fun _ z => by
        unfold ExK at z
        cases z
        rcases hu with ⟨_, z⟩ | ⟨_, z⟩ <;> cases z)]
      exact e) z f
  | _, _, .exo hC e z f hd r => .exo hC (by
      rw [upd_ne (ne_dic h e fun _ z => by
        unfold ExK at z
        cases z
        rcases hu with ⟨_, z⟩ | ⟨_, z⟩ <;> cases z)]
      exact e) z f (by
      rw [upd_ne (ne_of hd h (by intro z; cases z))]
      exact hd) (Rep.unl r)
theorem Reps.unl : ∀ {ds : List D} {vs : List V}, Reps G ρ H ds vs → Reps G ρ (upd H a u) ds vs
  | _, _, .nil => .nil
  | _, _, .cons e r => .cons (Rep.unl e) (Reps.unl r)
end
theorem KO.unl {t2 : Bool} {kvs2 : List (List Key × D)} {u2 : HO} (x : KO G ρ H t2 kvs2 u2) : KO G ρ (upd H a u) t2 kvs2 u2 := by
  cases t2 with
  | true => obtain ⟨us, e, x, y⟩ := x; exact ⟨us, e, x, y.unl h hu⟩
  | false => obtain ⟨us, e, x, y⟩ := x; exact ⟨us, e, x, y.unl h hu⟩
theorem OR.unl {o : O} {b : Addr} (q : OR G ρ H o b) (hb : b ≠ a) : OR G ρ (upd H a u) o b := by
  cases o with
  | lst ds => obtain ⟨vs, e, r⟩ := q; exact ⟨vs, by rw [upd_ne hb]; exact e, r.unl h hu⟩
  | dic t kvs => obtain ⟨x, e, r⟩ := ko_of q; exact (r.unl h hu).or (by rw [upd_ne hb]; exact e)
  | ins t kvs => obtain ⟨o, x, e, r⟩ := ko_ofL q; exact (r.unl h hu).orL (by rw [upd_ne hb]; exact e)
  | obj c fs => obtain ⟨C, dx, us, z, e, y, r⟩ := q; exact ⟨C, dx, us, z, by rw [upd_ne hb]; exact e, y, r.unl h hu⟩
theorem RR.unl {r : RV} {v : V} (q : RR G P ρ H r v) : RR G P ρ (upd H a u) r v := by
  cases r with
  | d x => exact Rep.unl h hu q
  | l f ds =>
    cases f with
    | true =>
      obtain ⟨b, vs, rfl, e, r, y, z⟩ := q
      exact ⟨b, vs, rfl, by rw [upd_ne (ne_dic h e fun _ z => nomatch z)]; exact e, r.unl h hu, y, z⟩
    | false => obtain ⟨b, vs, rfl, e, r⟩ := q; exact ⟨b, vs, rfl, e, r.unl h hu⟩
theorem VS.unl {n : Nat} {o : O} (s : VS G P ρ H S) (hn : ρ[n]? = some a) (r : OR G ρ (upd H a u) o a) : VS G P ρ (upd H a u) (S.set n o) := by
  refine ⟨by rw [List.length_set]; exact s.len, s.nd, fun m b o' e1 e2 => ?_, fun b o' e => ?_⟩
  · by_cases hm : m = n
    · subst hm
      rw [hn] at e1
      have eb : a = b := Option.some.inj e1
      subst eb
      have hl : m < S.length := by rw [← s.len]; exact (List.getElem?_eq_some_iff.mp hn).1
      rw [List.getElem?_set_self hl] at e2
      cases e2
      exact r
    · rw [List.getElem?_set_ne (Ne.symm hm)] at e2
      refine (s.st m b o' e1 e2).unl h hu fun z => hm ?_
      subst z
      have h1 := (List.getElem?_eq_some_iff.mp e1)
      have h2 := (List.getElem?_eq_some_iff.mp hn)
      exact (List.getElem_inj s.nd).mp (h1.2.trans h2.2.symm)
  · obtain ⟨q1, q2⟩ := s.pr b o' e
    have hb : b ≠ a := fun z => q2 (z ▸ List.mem_of_getElem? hn)
    rw [upd_ne hb]
    exact ⟨q1, q2⟩
theorem SS.unl {σ : St} {es : Env} (q : SS G P ρ H σ es) : SS G P ρ (upd H a u) σ es := by
  refine ⟨q.len, fun j e z => ?_, fun j ds z => ?_, fun j ds z => ?_, q.dis⟩
  · obtain ⟨x, y1, y2⟩ := q.val j e z
    exact ⟨x, y1, y2.unl h hu⟩
  · obtain ⟨c, us, y1, y2, y3⟩ := q.bor j ds z
    exact ⟨c, us, y1, y2, y3.unl h hu⟩
  · obtain ⟨c, us, y1, y2, y3, y4, y5⟩ := q.own j ds z
    exact ⟨c, us, y1, by rw [upd_ne (ne_dic h y2 fun _ z => nomatch z)]; exact y2, y3.unl h hu, y4, y5⟩
end
end
def unlR (n : Nat) (o : O) : Res RV → Res RV
  | .ok x S' => .ok x (S'.set n o)
  | _ => .bad
def dicV (i : Nat) (es : Env) (S : Store) : Option (Nat × Bool × List (List Key × D)) := match es[i]? with
  | some (.v (.loc n)) => (match S[n]? with
    | some (.dic t kvs) => some (n, t, kvs)
    | _ => none)
  | _ => none
def eLk (i : Nat) (m : ME) : ME := fun es S => match dicV i es S with
  | some (n, t, kvs) => unlR n (.dic t kvs) (m es (S.set n (.ins t kvs)))
  | none => .bad
section
variable {G : GT} {W : WX} {X : Cx} {e : Expr} {m : ME} {st : Stmt} {ms : MS}
end
def keyD1 : Key → D
  | .inl i => .int i
  | .inr x => .str x
def keyD : Bool → List Key → D
  | true, ks => .tup (ks.map keyD1)
  | false, [k] => keyD1 k
  | false, _ => .non
def keysD (t : Bool) (kvs : List (List Key × D)) : List D := kvs.map fun kv => keyD t kv.1
def miKeys (i : Nat) : MI := fun es S => match es[i]? with
  | some (.v (.loc n)) => (match S[n]? with
    | some (.ins t kvs) => .ok (keysD t kvs, fun _ => True) S
    | _ => .bad)
  | _ => .bad
section
variable {G : GT} {P : Hp} {ρ : List Addr} {H : Hp} {S : Store}
end
abbrev QMI2 := List D × (Store → Prop) → Store → Prop
section
variable {es : Env} {S : Store} {Q : RV → Store → Prop} {X : QX} {E : En} {m : ME} {ms : MS} {n i : Nat} {t : Bool} {kvs : List (List Key × D)}
end
end DM
namespace L2
open PySem PySem.Spec PyProof.Rows
end L2
namespace DM
open PySem PySem.Spec L2
section
variable {G : GT} {W : WX} {X : Cx} {a : Expr} {as : List Expr} {ms : List ME} {p pos : Pos} {k : Nat}
end
section
variable {G : GT} {W : WX} {X : Cx} {o : Expr} {mo : ME} {apos cpos : Pos}
end
end DM
namespace L2
open PySem PySem.Spec PyProof.Rows PySem.W
end L2
namespace DM
open PySem PySem.Spec L2 PyProof.Rows PySem.W
section
variable {G : GT} {W : WX} {X : Cx} {a : Expr} {as : List Expr} {ms : List ME} {p pos : Pos} {k : Nat}
end
end DM

namespace EBW
open PySem
open Sem (wp)
section
variable {prog : Program} {w : World} {K : Type} [DecidableEq K] {knd : HeapKind prog w K} {A : Around} {E : Value → Shared → Prop} {s : Shared}
end
end EBW
namespace L2
open PySem PySem.Spec PyProof.Rows PySem.W
section
variable {X : Cx}
end
end L2
namespace DM
open PySem PySem.Spec L2 PyProof.Rows PySem.W
section
variable {G : GT} {W : WX} {X : Cx} {kx vx : Expr} {mk mv : ME} {pos : Pos} {k : Nat}
end
section
variable {G : GT} {W : WX} {X : Cx} {a : Expr} {as : List Expr} {ms : List ME} {p pos : Pos} {k : Nat}
end
section
variable {es : Env} {S : Store} {Q : RV → Store → Prop} {X : QX} {a b : ME}
end
end DM

namespace DM
open PySem PySem.Spec L2
def pairKV : D → Option (Key × D)
  | .tup [kd, x] => (key1 kd).map fun k => (k, x)
  | _ => none
def mergeD (acc : List (List Key × D)) (kvs : List (Key × D)) : List (List Key × D) := kvs.foldl (fun acc kv => putD acc [kv.1] kv.2) acc
def dictPS (r : RV) (S : Store) : Res RV := match (lstOf S r).bind fun ds => ds.mapM pairKV with
  | some kvs => .ok (.d (.loc S.length)) (S ++ [.dic false (mergeD [] kvs)])
  | none => .bad
def eDictP (ms : List ME) : ME := fun es S => (eArgs ms es S).bind fun rs S1 => match rs with
  | [r] => dictPS r S1
  | _ => .bad
section
variable {G : GT} {P : Hp} {ρ : List Addr} {H : Hp} {S : Store}
end
section
variable {G : GT} {W : WX} {X : Cx} {a : Expr} {as : List Expr} {ms : List ME} {p pos : Pos}
end
section
variable {G : GT} {W : WX} {X : Cx} {o i : Expr} {mo mi : ME} {pos : Pos} {k : Nat}
end
end DM

namespace L2
open PySem PySem.Spec PyProof.Rows
end L2
namespace DM
open PySem PySem.Spec L2
section
variable {G : GT} {W : WX} {X : Cx} {e : Expr} {m : ME} {p p2 q pos : Pos}
end
end DM

namespace DM
open PySem PySem.Spec L2
def strsOf : List D → Option (List Str)
  | [] => some []
  | .str x :: ds => (strsOf ds).map (x :: ·)
  | _ => none
def joinF : FM := fun S x xs => match x, xs with
  | .d (.str a), [r] => (match (match r with
    | .d (.tup ds) => strsOf ds
    | r => (lstOf S r).bind strsOf) with
    | some ys => if (ys.map (·.length)).sum + ys.length * a.length ≤ 16777216 then some (.d (.str (Txt.join a ys))) else none
    | none => none)
  | _, _ => none
def splitF : FM := fun _ x xs => match x, xs with
  | .d (.str a), [.d (.str b)] => if (b.length == 0) = false ∧ a.length + 2 ≤ sizeLine then some (.l ((Txt.split a b).map D.str)) else none
  | _, _ => none
section
variable {G : GT} {W : WX} {X : Cx} {o e : Expr} {as : List Expr} {mo : ME} {ms : List ME} {apos cpos : Pos}
end
end DM

namespace EGW
open PySem
open Sem (wp)
section
variable {prog : Program} {w : World} {A : Around} {E : Value → Shared → Prop} {s : Shared} {z TI TO i1 i2 T : Addr} {fp1 fp2 : List Addr} {n1 n2 i : Nat} {P1 P2 : Nat → Value → Prop} {St1 St2 : Nat → Heap → Prop} {f : Bool} {oT : Obj}
def Slot (h : Heap) (z TI TO i1 i2 S : Addr) : Prop := IsZip h z TI TO .none ∨ ∃ T f oT, IsZipHeld h z TI TO T f ∧ h.get? T = some oT ∧ T ≠ z ∧ T ≠ TO ∧ T ≠ i1 ∧ T ≠ i2 ∧ T ≠ S
theorem Slot.there {h : Heap} {z TI TO i1 i2 S : Addr} (q : Slot h z TI TO i1 i2 S) : ∃ f0, IsZip h z TI TO f0 ∨ ∃ T f, IsZipHeld h z TI TO T f := by
  rcases q with q | ⟨T, f, _, q, _⟩
  · exact ⟨.none, .inl q⟩
  · exact ⟨.none, .inr ⟨T, f, q⟩⟩
abbrev IsTup (h : Heap) (c : Addr) (x y : Value) : Prop := IsTupOf2 h c x y
structure Out (P1 P2 : Nat → Value → Prop) (lo : Addr) (h : Heap) (as : List Addr) : Prop where
  rise : as.Pairwise (· < ·)
  above : ∀ a ∈ as, lo < a
  pairs : ∀ (j : Nat) (a : Addr), as[j]? = some a → ∃ x y, P1 j x ∧ P2 j y ∧ IsTupOf2 h a x y
theorem Out.there {lo : Addr} {h : Heap} {as : List Addr} (g : Out P1 P2 lo h as) {a : Addr} (ha : a ∈ as) : a < h.objs.size := by
  obtain ⟨j, hj⟩ := List.mem_iff_getElem?.mp ha
  obtain ⟨_, _, _, _, e⟩ := g.pairs j a hj
  exact Heap.lt_size e
end
section
variable {prog : Program} {w : World} {A : Around} {E : Value → Shared → Prop} {s : Shared} {R : Result → Shared → Prop} {z TI TO i1 i2 : Addr} {fp1 fp2 : List Addr} {n : Nat} {P1 P2 : Nat → Value → Prop} {St1 St2 : Nat → Heap → Prop}
theorem Slot.keep {h h' : Heap} {S : Addr} (q : Slot h z TI TO i1 i2 S) (hk : ∀ b o, b ≠ S → h.get? b = some o → h'.get? b = some o) (hz : z ≠ S) : Slot h' z TI TO i1 i2 S := by
  rcases q with q | ⟨T, f, oT, q, hT, tz, tO, t1, t2, tS⟩
  · exact .inl (hk _ _ hz q)
  · exact .inr ⟨T, f, oT, hk _ _ hz q, hk _ _ tS hT, tz, tO, t1, t2, tS⟩
end
end EGW
namespace L2
open PySem PySem.Spec PyProof.Rows PySem.W DM
end L2
namespace L2
open PySem PySem.Spec PyProof.Rows PySem.W DM
end L2
namespace DM
open PySem PySem.Spec L2 PyProof.Rows PySem.W
section
variable {G : GT} {W : WX} {X : Cx} {a b : Expr} {ma mb : ME} {p p2 q pos : Pos} {k : Nat}
end
section
variable {G : GT} {W : WX} {X : Cx} {e : Expr} {m : ME} {p p2 q pos : Pos} {k : Nat}
end
end DM

namespace L2
open PySem PySem.Spec PyProof.Rows
section
variable {X : Cx} {CX : CXT} {k : Nat} {f C : Addr} {fd : FuncData} {ps : List Str} {sp : Sp} {E : St → XK} {x m : Str} {p pos apos : Pos} {e o : Expr} {es : List Expr} {ta : TE} {t : TA}
end
end L2
namespace DM
open PySem PySem.Spec L2
section
variable {G : GT} {P : Program} {w : World} {K : PySem.W.Frag} {mg : Str → Option Value} {base : Heap} {k n c : Nat} {x qual : Str} {st : Stmt} {C f : Addr} {fd : FuncData} {ps N : List Str} {m : MF}
end
def objAt (S : Store) (c : Nat) : RV → Option (Nat × List (Str × D))
  | .d (.loc n) => match S[n]? with
    | some (.obj c' fs) => if c' = c then some (n, fs) else none
    | _ => none
  | _ => none
def fldS (c : Nat) (f : Str) (S : Store) (r : RV) : Res RV := match objAt S c r with
  | some (_, fs) => match fs.lookup f with
    | some d => .ok (.d d) S
    | none => .bad
  | none => .bad
def eFld (c : Nat) (f : Str) (m : ME) : ME := fun es S => (m es S).bind fun r S1 => fldS c f S1 r
def putO (f : Str) (y : D) : List (Str × D) → List (Str × D)
  | [] => [(f, y)]
  | (g, x) :: r => if g = f then (g, y) :: r else (g, x) :: putO f y r
def putS (c : Nat) (f : Str) (es : Env) (x : D) (S : Store) (r : RV) : SR := match objAt S c r with
  | some (n, fs) => if fs.length < 1000 then .nx es (S.set n (.obj c (putO f x fs))) else .bad
  | none => .bad
def sFld (c : Nat) (f : Str) (mo mv : ME) : MS := fun es S => bindS ((mv es S).bind item) es fun x S1 => bindS (mo es S1) es fun r S2 => putS c f es x S2 r
def eMeth (c : Nat) (x : Str) (m : MF) (mo : ME) (ms : List ME) : ME := fun es S => (mo es S).bind fun r S1 => match objAt S1 c r with
  | some (n, fs) => match fs.lookup x with
    | none => (eArgs ms es S1).bind fun rs S2 => okR (m (.d (.loc n) :: rs) S2)
    | some _ => .bad
  | none => .bad
def mkS (n : Nat) (r : Res RV) : Res RV := match r with
  | .ok (.d .non) S => .ok (.d (.loc n)) S
  | _ => .bad
def eMake (c : Nat) (m : MF) : ME := fun _ S => mkS S.length (m [.d (.loc S.length)] (S ++ [.obj c []]))
def appF (S : Store) (n : Nat) (d : D) : Res RV := match S[n]? with
  | some (.lst ds) => if ds.length < sizeLine then .ok (.d .non) (S.set n (.lst (ds ++ [d]))) else .bad
  | _ => .bad
noncomputable def eAppF (mo mi : ME) : ME := fun es S => (mo es S).bind fun x S1 => match x with
  | .d (.loc n) => if tyF "list" S1 x.weak = true then ((mi es S1).bind item).bind fun d S2 => appF S2 n d else .bad
  | _ => .bad
section
variable {G : GT} {W : WX} {X : Cx} {o e : Expr} {as : List Expr} {ms : List ME} {mo me mi : ME} {m : MF} {f x : Str} {p pos pos' apos cpos : Pos} {k n c : Nat}
theorem PE.and {t t' : TE} (h : PE X e t) (k : ∀ σ H Q, t' σ H Q → t σ H Q) : PE X e t' := PE.of h k
end
section
variable {es : Env} {S : Store} {E : En} {Q : RV → Store → Prop} {X : QX} {a b mo mi : ME} {ms : List ME} {m : MF} {f x : Str} {n c : Nat} {fs : List (Str × D)} {d y : D}
def kFld (c : Nat) (f : Str) (Q : RV → Store → Prop) (X : QX) (r : RV) (S : Store) : Prop := WR (fldS c f S r) Q X
theorem w_fld : WR (eFld c f mo es S) Q X = WR (mo es S) (kFld c f Q X) X := by
  unfold eFld kFld
  rw [WR_bind]
def kPutO2 (c : Nat) (f : Str) (x : D) (es : Env) (E : En) (r : RV) (S : Store) : Prop := WS (putS c f es x S r) E
def kPutO (c : Nat) (f : Str) (mo : ME) (es : Env) (E : En) (r : RV) (S : Store) : Prop := QI r S fun x S1 => WR (mo es S1) (kPutO2 c f x es E) (kX es E)
theorem kPutO_d : kPutO c f mo es E (.d y) S = WR (mo es S) (kPutO2 c f y es E) (kX es E) := nr rfl
theorem kPutO_l {ds : List D} : kPutO c f mo es E (.l true ds) S = WR (mo es (S ++ [.lst ds])) (kPutO2 c f (.loc S.length) es E) (kX es E) := nr rfl
theorem w_sfld : WS (sFld c f a b es S) E = WR (b es S) (kPutO c f a es E) (kX es E) := by
  unfold sFld kPutO kPutO2 kX
  rw [WS_bindS]
  simp only [WR_bind, WR_item, WS_bindS]
def kMeth3 (m : MF) (n : Nat) (Q : RV → Store → Prop) (X : QX) (rs : List RV) (S : Store) : Prop := WR (okR (m (.d (.loc n) :: rs) S)) Q X
def kMeth (c : Nat) (x : Str) (m : MF) (ms : List ME) (es : Env) (Q : RV → Store → Prop) (X : QX) (r : RV) (S : Store) : Prop := WR (match objAt S c r with
  | some (n, fs) => match fs.lookup x with
    | none => (eArgs ms es S).bind fun rs S2 => okR (m (.d (.loc n) :: rs) S2)
    | some _ => .bad
  | none => .bad) Q X
theorem kMeth3_e {rs : List RV} : kMeth3 m n Q X rs S = WR (okR (m (.d (.loc n) :: rs) S)) Q X := nr rfl
theorem w_meth : WR (eMeth c x m mo ms es S) Q X = WR (mo es S) (kMeth c x m ms es Q X) X := by
  unfold eMeth kMeth
  rw [WR_bind]
theorem w_make : WR (eMake c m es S) Q X = WR (mkS S.length (m [.d (.loc S.length)] (S ++ [.obj c []]))) Q X := nr rfl
theorem mk_e {S' : Store} : mkS n (.ok (.d .non) S') = .ok (.d (.loc n)) S' := nr rfl
theorem WR_ok {r : RV} : WR (.ok r S) Q X = Q r S := nr rfl
def kAppF (mi : ME) (es : Env) (Q : RV → Store → Prop) (X : QX) (r : RV) (S : Store) : Prop := WR (match r with
  | .d (.loc n) => if tyF "list" S r.weak = true then ((mi es S).bind item).bind fun d S2 => appF S2 n d else .bad
  | _ => .bad) Q X
theorem w_appF : WR (eAppF mo mi es S) Q X = WR (mo es S) (kAppF mi es Q X) X := by
  unfold eAppF kAppF
  rw [WR_bind]
end
end DM

namespace L2
open PySem PySem.Spec PyProof.Rows
section
variable {X : Cx} {pins : List (Addr × Obj)} {σ : St} {H : Hp} {s : Shared}
end
structure BaseC (K : PySem.W.Frag) (C : Addr) : Prop where
  kC : PySem.W.keepIn K (.ref C) = true
  rd : PySem.W.readsIn K C (.type "type") = true
  ga : PySem.W.specialIn K (.ref C) "__getattribute__" = some (some (.builtin "type.__getattribute__"))
  ini : PySem.W.findCls K (.ref C) (.type "type") "__init__" = some (.val (.builtin "ValueError.__init__"))
section
variable {X : Cx} {e : Expr} {es : List Expr} {ta : TA} {x : Str} {p1 p2 pos : Pos}
end
end L2
namespace DM
open PySem PySem.Spec L2
def sRaiseA (m : ME) : MS := fun es S => bindS ((m es S).bind item) es fun d S1 => .ex 6 [d] es S1
def sTryA (i j : Nat) (b : MS) : MS := fun es S => match b es S with
  | .ex 6 [d] es' S' => if i < es'.length then .nx ((es'.set j (.v d)).set i .no) S' else .bad
  | .ex _ _ _ _ => .bad
  | r => r
def atS (S : Store) : RV → Res RV
  | .d (.exn 6 [d]) => .ok (.d d) S
  | _ => .bad
def eAt (m : ME) : ME := fun es S => (m es S).bind fun r S1 => atS S1 r
def eExc (c : Nat) (m : ME) : ME := fun es S => (m es S).bind fun _ S1 => .ok (.d (.exn c [])) S1
def eExcA (m : ME) : ME := fun es S => ((m es S).bind item).bind fun d S1 => .ok (.d (.exn 6 [d])) S1
section
variable {G : GT} {W : WX} {X : Cx} {e : Expr} {me : ME} {m : MS} {x n y : Str} {p pos pos' pos2 np yp ep fp ap : Pos} {i j c : Nat} {body : List Stmt}
end
section
variable {es : Env} {S : Store} {E : En} {Q : RV → Store → Prop} {X : QX} {me : ME} {b : MS} {i j c : Nat} {d : D}
def kRaiseA (es : Env) (E : En) (r : RV) (S : Store) : Prop := QI r S fun d S1 => E.ex 6 [d] es S1
theorem kRaiseA_d : kRaiseA es E (.d d) S = E.ex 6 [d] es S := nr rfl
theorem w_raiseA : WS (sRaiseA me es S) E = WR (me es S) (kRaiseA es E) (kX es E) := by
  unfold sRaiseA kRaiseA kX
  rw [WS_bindS]
  simp only [WR_bind, WR_item]
  rfl
def exA (E : En) (i j : Nat) : Nat → List D → Env → Store → Prop
  | 6, [d], es, S => i < es.length ∧ E.nx ((es.set j (.v d)).set i .no) S
  | _, _, _, _ => False
def En.trA (E : En) (i j : Nat) : En := ⟨E.nx, E.rt, E.bk, E.ct, exA E i j⟩
theorem trA_nx : (E.trA i j).nx es S = E.nx es S := nr rfl
theorem trA_rt {r : RV} : (E.trA i j).rt r S = E.rt r S := nr rfl
theorem trA_ex : (E.trA i j).ex 6 [d] es S = (i < es.length ∧ E.nx ((es.set j (.v d)).set i .no) S) := nr rfl
theorem w_tryA : WS (sTryA i j b es S) E = WS (b es S) (E.trA i j) := by
  unfold sTryA
  cases b es S with
  | ex c p es' S' =>
    by_cases h : ∃ d, c = 6 ∧ p = [d]
    · obtain ⟨d, rfl, rfl⟩ := h
      exact WS_ite
    · have e1 : (match SR.ex c p es' S' with
          | .ex 6 [d] es' S' => if i < es'.length then .nx ((es'.set j (.v d)).set i .no) S' else .bad
          | .ex _ _ _ _ => .bad
          | r => r) = SR.bad := by
        split
        · rename_i hh; cases hh; exact (h ⟨_, rfl, rfl⟩).elim
        · rfl
        · rename_i h2; exact (h2 _ _ _ _ rfl).elim
      refine (congrArg (fun r => WS r E) e1).trans ?_
      show False = exA E i j c p es' S'
      unfold exA
      split
      · exact (h ⟨_, rfl, rfl⟩).elim
      · rfl
  | _ => rfl
def kAt (Q : RV → Store → Prop) (X : QX) (r : RV) (S : Store) : Prop := WR (atS S r) Q X
theorem kAt_e : kAt Q X (.d (.exn 6 [d])) S = Q (.d d) S := nr rfl
theorem w_at : WR (eAt me es S) Q X = WR (me es S) (kAt Q X) X := by
  unfold eAt kAt
  rw [WR_bind]
def kExc (c : Nat) (Q : RV → Store → Prop) (_ : RV) (S : Store) : Prop := Q (.d (.exn c [])) S
theorem kExc_e {r : RV} : kExc c Q r S = Q (.d (.exn c [])) S := nr rfl
theorem w_exc : WR (eExc c me es S) Q X = WR (me es S) (kExc c Q) X := by
  unfold eExc kExc
  rw [WR_bind]
  rfl
def kExcA (Q : RV → Store → Prop) (r : RV) (S : Store) : Prop := QI r S fun d S1 => Q (.d (.exn 6 [d])) S1
theorem kExcA_d : kExcA Q (.d d) S = Q (.d (.exn 6 [d])) S := nr rfl
theorem w_excA : WR (eExcA me es S) Q X = WR (me es S) (kExcA Q) X := by
  unfold eExcA kExcA
  simp only [WR_bind, WR_item]
  rfl
end
end DM

namespace DM
open PySem PySem.Spec L2
def signsD (x : Str) : List D := x.cps.toList.map fun c => D.str ⟨#[c]⟩
def strS (S : Store) : RV → Res (List D × (Store → Prop))
  | .d (.str x) => .ok (signsD x, fun _ => True) S
  | _ => .bad
def miStr (m : ME) : MI := fun es S => (m es S).bind fun r S1 => strS S1 r
section
variable {G : GT} {W : WX} {X : Cx} {tg e : Expr} {m : ME}
end
def kStr (Q : QMI) (r : RV) (S : Store) : Prop := match r with
  | .d (.str x) => Q (signsD x, fun _ => True) S
  | _ => False
theorem kStr_e {Q : QMI} {x : Str} {S : Store} : kStr Q (.d (.str x)) S = Q (signsD x, fun _ => True) S := nr rfl
theorem w_miStr {m : ME} {es : Env} {S : Store} {Q : QMI} {X : QX} : WR (miStr m es S) Q X = WR (m es S) (kStr Q) X := by
  unfold miStr kStr
  rw [WR_bind]
  congr 1
  funext r S1
  cases r with
  | l _ _ => rfl
  | d x => cases x <;> rfl
section
variable {G : GT} {W : WX} {X : Cx} {o e a : Expr} {as : List Expr} {mo : ME} {ms : List ME} {apos cpos p pos : Pos}
end
def intAF : FN := fun S rs => match rs with
  | [.d (.str x)] => intSF S [.d (.str x)]
  | rs => intF S rs
theorem intA_str {S : Store} {x : Str} : intAF S [.d (.str x)] = intSF S [.d (.str x)] := nr rfl
theorem intA_bl {S : Store} {x : Bool} : intAF S [.d (.bl x)] = intF S [.d (.bl x)] := nr rfl
theorem intA_int {S : Store} {x : Int} : intAF S [.d (.int x)] = intF S [.d (.int x)] := nr rfl
section
variable {G : GT} {W : WX} {X : Cx} {a : Expr} {as : List Expr} {ms : List ME} {p pos : Pos}
end
end DM

namespace DM
open PySem PySem.Spec L2
structure GDict (K : PySem.W.Frag) (w : World) (mg : Str → Option Value) (nm : Str) (tab : List (Str × Int)) : Prop where
  ex : ∃ (a : Addr) (es : Array DictEntry) (n : Nat), mg nm = some (.ref a) ∧ KDict K w a es n ∧ ∀ z, ∃ r, PySem.W.nsIn K a z = some r ∧ (match tab.lookup z with | none => r = none | some i => ∃ t, r = some (.int i t))
def inGF (tab : List (Str × Int)) : Store → RV → Option OV := fun _ r => match r with
  | .d (.str z) => some (.d (.bl (tab.lookup z).isSome))
  | _ => none
def atGF (tab : List (Str × Int)) : Store → RV → Option OV := fun _ r => match r with
  | .d (.str z) => (tab.lookup z).map fun i => .d (.int i)
  | _ => none
def getGF (tab : List (Str × Int)) : F2 := fun _ a b => match a, b with
  | .d (.str z), .d (.int d) => some (.d (.int ((tab.lookup z).getD d)))
  | _, _ => none
section
variable {X : Cx} {d : Addr} {es : Array DictEntry} {n : Nat} {G : GT}
end
section
variable {X : Cx} {G : GT} {W : WX} {nm : Str} {tab : List (Str × Int)} {a b : Expr} {ma mb : ME} {p pos : Pos}
end
section
variable {S : Store} {tab : List (Str × Int)} {z : Str} {i : Int}
theorem inG_s : inGF tab S (.d (.str z)) = some (.d (.bl (tab.lookup z).isSome)) := nr rfl
theorem atG_s : atGF tab S (.d (.str z)) = (tab.lookup z).map fun i => .d (.int i) := nr rfl
theorem getG_s : getGF tab S (.d (.str z)) (.d (.int i)) = some (.d (.int ((tab.lookup z).getD i))) := nr rfl
end
end DM

namespace DM
open PySem PySem.Spec PyProof.Rows L2
def tCntT (K : PySem.W.Frag) (to te : TE) : TE := fun σ H Q => to σ H fun x H1 => (∃ a vs, x = .ref a ∧ KT H1 a vs) ∧ te σ H1 fun y H2 => ∃ (a : Addr) (ns : List Int) (k : Int), x = .ref a ∧ y = .int k ∧ SqT K H2 a (ns.map V.int) ∧ Q (.int (ns.count k : Nat)) H2
theorem isInt_count (k : Int) : ∀ {us : List Value} {ns : List Int}, IntsAre us ns → us.countP (isInt k) = ns.count k
  | _, _, .nil => rfl
  | _, _, .cons n t r => by
    rw [List.countP_cons, List.count_cons, isInt_count k r]
    rfl
section
variable {X : Cx} {o e : Expr} {to te : TE} {apos cpos : Pos}
theorem pe_cntT (hu : X.A.units + 65 < cLine) (ho : PE X o to) (he : PE X e te) (hbase : attributeBase o "count" X.env (eval o X.env) = eval o X.env := by rfl)
    (hfew : ((backTo cpos (starEach [e] X.env)).all (fun x => !x.1) && (backToKw cpos (keywordEach [] X.env)).all (fun x => x.1.isSome)
      && decide (([e] : List Expr).length + ([] : List Keyword).length + (if ([] : List Keyword).isEmpty then 0 else 1) < 30)) = true := by rfl)
    (hline : (apos.endLine == cpos.line) = true := by rfl) (hs : starEach [e] X.env = (false, eval e X.env) :: starEach [] X.env := by rfl) (hplain : (backTo cpos (starEach [] X.env)).any (·.1) = false := by rfl) :
    PE X (.Call (.Attribute o "count" apos) [e] [] cpos) (tCntT X.K to te) := by
  refine ⟨fun pins s σ H Q I h => wpAny_Call_method_late hbase hfew hline rfl (thn (ho.run pins s σ H _ I h) ?_)⟩
  rintro v s1 ⟨x, H1, I1, r1, ⟨a, vs, rfl, ob, hk, hd⟩, q1⟩
  cases r1
  obtain ⟨he1, _, _, _, ⟨o2, g2, hc, n, hdat⟩⟩ := I1.hok a _ hk
  have hobj : s1.heap.get? a = some ob := he1
  rw [hobj] at g2
  cases g2
  refine ⟨"tuple", _, PySem.F.plainAttrs_tuple, PySem.F.slot_tuple_count, PySem.F.type_tuple_count, ⟨ob, hobj, hc⟩, fun b eb => ⟨ob, by cases eb; exact hobj, hd⟩, ?_⟩
  rw [hs]
  refine Calls.callWith_builtin (by show (false || (backTo cpos (starEach [] X.env)).any (·.1)) = false; rw [hplain] <;> rfl) (Calls.evalArgs_plain (Calls.spliced_cons (thn (he.run pins s1 σ H1 _ I1 q1) ?_)))
  rintro u s2 ⟨y, H2, I2, ry, ⟨a', ns, k, ea, rfl, sq, q2⟩⟩
  cases ea
  obtain ⟨t, rfl⟩ := ry
  obtain ⟨us, rv, ht, _⟩ := I2.tuple sq
  have hi := intsAre_of rv
  refine Calls.spliced_nil ?_
  obtain ⟨⟨cls, dd, data, sl⟩, h2, h3, n2, h4⟩ := ht
  dsimp only at h3 h4
  subst h3 h4
  refine call_meets PySem.F.slot_tuple_count ⟨_, h2, rfl⟩ PySem.F.entry_tuple_count (PySem.F.args_tuple_count_2 _ _) (SeqAt.tuple_countAt a us.toArray n2 dd sl (.int k t) (isInt k)) ⟨h2, ?_, ?_⟩
  · exact fun y hy => (eq_isInt k t hi y (by simpa using hy)).at _ _
  · have e1 : us.toArray.toList.countP (isInt k) = ns.count k := isInt_count k hi
    rw [e1]
    exact ⟨.int _, H2, I2.kept fun _ _ z => z, ⟨_, rfl⟩, q2⟩
end
def eCntT (mo me : ME) : ME := fun es S => (mo es S).bind fun x S1 => match x with
  | .d (.tup xs) => (me es S1).bind fun y S2 => match y with
    | .d (.int k) => ofO ((intsOf xs).map fun ns => .d (.int (ns.count k : Nat))) S2
    | _ => .bad
  | _ => .bad
section
variable {G : GT} {W : WX} {X : Cx} {o e : Expr} {mo me : ME} {apos cpos : Pos} {k : Nat}
theorem se_cntT (hr : Room k X.A) (ho : SE G W X o mo) (he : SE G W X e me) (hbase : attributeBase o "count" X.env (eval o X.env) = eval o X.env := by rfl)
    (hfew : ((backTo cpos (starEach [e] X.env)).all (fun x => !x.1) && (backToKw cpos (keywordEach [] X.env)).all (fun x => x.1.isSome)
      && decide (([e] : List Expr).length + ([] : List Keyword).length + (if ([] : List Keyword).isEmpty then 0 else 1) < 30)) = true := by rfl)
    (hline : (apos.endLine == cpos.line) = true := by rfl) (hs : starEach [e] X.env = (false, eval e X.env) :: starEach [] X.env := by rfl) (hplain : (backTo cpos (starEach [] X.env)).any (·.1) = false := by rfl) :
    SE G W X (.Call (.Attribute o "count" apos) [e] [] cpos) (eCntT mo me) := by
  refine ⟨ho.k, PE.of (pe_cntT (Room.u65 hr) ho.pe he.pe hbase hfew hline hs hplain) fun σ H Q h => ?_⟩
  obtain ⟨P, ρ, es, S, s, q, h⟩ := h
  refine rdE_then s q h fun x S1 v ρ1 H1 e1 s1 k1 rr h => ?_
  split at h
  · rename_i xs
    obtain ⟨a, vs, rfl, e2, q2⟩ := rep_tup (show Rep G ρ1 H1 (.tup xs) v from rr)
    refine ⟨⟨a, vs, rfl, e2⟩, rdE_then s1 (q.next k1) h fun y S2 w ρ2 H2 e3 s2 k2 rr2 h => ?_⟩
    split at h
    · rename_i j
      cases (show Rep G ρ2 H2 (.int j) w from rr2)
      cases z : intsOf xs with
      | none => rw [z] at h; exact h.elim
      | some ns =>
        rw [z] at h
        obtain rfl := ints_ok q2 z
        rw [ho.k]
        exact ⟨a, ns, j, rfl, rfl, (e2.mono k2).sq, h _ ρ2 H2 s2 (TK.refl _ _) (.int _)⟩
    · exact h.elim
  · exact h.elim
end
def kCntT2 (xs : List D) (Q : RV → Store → Prop) (y : RV) (S : Store) : Prop := WR (match y with
  | .d (.int k) => ofO ((intsOf xs).map fun ns => .d (.int (ns.count k : Nat))) S
  | _ => .bad) Q fun _ _ _ => False
def kCntT (me : ME) (es : Env) (Q : RV → Store → Prop) (X : QX) (x : RV) (S : Store) : Prop := match x with
  | .d (.tup xs) => WR (me es S) (kCntT2 xs Q) X
  | _ => False
theorem w_cntT {es : Env} {S : Store} {Q : RV → Store → Prop} {X : QX} {mo me : ME} : WR (eCntT mo me es S) Q X = WR (mo es S) (kCntT me es Q X) X := by
  unfold eCntT kCntT kCntT2
  rw [WR_bind]
  congr 1
  funext x S1
  split
  · rw [WR_bind]
    congr 1
    funext y S2
    split
    · cases intsOf _ <;> rfl
    · rfl
  · rfl
theorem kCntT_t {me : ME} {es : Env} {Q : RV → Store → Prop} {X : QX} {S : Store} {xs : List D} : kCntT me es Q X (.d (.tup xs)) S = WR (me es S) (kCntT2 xs Q) X := nr rfl
theorem kCntT2_e {Q : RV → Store → Prop} {S : Store} {ns : List Int} {k : Int} : kCntT2 (ns.map D.int) Q (.d (.int k)) S = Q (.d (.int (ns.count k : Nat))) S := by
  unfold kCntT2
  rw [intsOf_map]
  rfl
end DM

namespace LM
open PySem PySem.Spec L2 DM
noncomputable def mb_is_whole : MS := (sRet (eAnd (eOpN isiF [(eVar 0), (eC (.ty "int"))]) (eNot (eOpN isiF [(eVar 0), (eC (.ty "bool"))]))))
noncomputable def m_is_whole : MF := mFun 1 1 (mb_is_whole)
noncomputable def mb_l_bag : MS := (sRet (eLst [(eOpN listF [(eSl none (some (eC (.int 63))) (eVar 0))]), (eC (.int 0)), (eC (.int 0))]))
noncomputable def m_l_bag : MF := mFun 1 1 (mb_l_bag)
noncomputable def mb_l_pull : MS := (sSeq (sCut (sIf (bOf (eOp2 ltF (eOp2 ixF (eVar 0) (eC (.int 2))) (eVar 1))) (sSeq (sSet 2 (eOp2 ixF (eVar 0) (eC (.int 1))))
    (sSeq (sSetIx 0 (eC (.int 1)) (eOp2 addF (eVar 2) (eC (.int 1))))
    (sSeq (sSetS 3 (eCut (eIf (bOf (eOp2 gtF (eOpN lenF [(eOp2 ixF (eVar 0) (eC (.int 0)))]) (eC (.int 0)))) (eOp2 ixF (eOp2 ixF (eVar 0) (eC (.int 0))) (eOp2 modF (eVar 2) (eOpN lenF [(eOp2 ixF (eVar 0) (eC (.int 0)))]))) (eC (.int 0)))))
    (sSeq (sSetIx 0 (eC (.int 2)) (eVar 3))
    (sIf (bOr (bOf (eOp2 ltF (eVar 3) (eOp2 powF (eC (.int 10)) (eC (.int 18))))) (bOf (eOp2 geF (eVar 2) (eOpN lenF [(eOp2 ixF (eVar 0) (eC (.int 0)))])))) (sSeq (sSet 4 (eOp2 modF (eOp2 powF (eOp2 addF (eOp2 addF (eOp2 modF (eVar 3) (eC (.int 1000000007))) (eOp2 mulF (eC (.int 998244353)) (eVar 2))) (eC (.int 12345))) (eC (.int 3))) (eC (.int 2147483647))))
    (sSeq (sSet 5 (eOp2 modF (eOp2 powF (eOp2 addF (eOp2 addF (eOp2 addF (eVar 4) (eOp2 mulF (eC (.int 7919)) (eVar 2))) (eOp2 modF (eVar 3) (eC (.int 65537)))) (eC (.int 1))) (eC (.int 5))) (eC (.int 2305843009213693951))))
    (sSetIx 0 (eC (.int 2)) (eOp2 addF (eOp2 mulF (eVar 4) (eC (.int 2305843009213693951))) (eVar 5))))) sNop))))) sNop))
    (sSeq (sSet 6 (eOp2 modF (eOp2 ixF (eVar 0) (eC (.int 2))) (eVar 1)))
    (sSeq (sSetIx 0 (eC (.int 2)) (eOp2 fdivF (eOp2 ixF (eVar 0) (eC (.int 2))) (eVar 1)))
    (sRetV 6))))
noncomputable def m_l_pull : MF := mFun 2 7 (mb_l_pull)
noncomputable def mb_l_row : MS := (sSeq (sIf (bOf (eOp2 eqF (eVar 3) (eC (.int 1)))) (sSeq (sSet 4 (eLst [(eCall m_l_pull [(eVar 0), (eVar 1)]), (eCall m_l_pull [(eVar 0), (eVar 1)])]))
    (sRet (eOpN tupF [(eComp (miRng1 (eVar 2)) (tgName 8) bYes (eOp2 ixF (eVar 4) (eCall m_l_pull [(eVar 0), (eC (.int 2))])) [8])]))) sNop)
    (sSeq (sSet 5 (eCall m_l_pull [(eVar 0), (eVar 1)]))
    (sSeq (sIf (bOf (eOp2 eqF (eVar 3) (eC (.int 2)))) (sSeq (sSet 6 (eOp2 addF (eC (.int 1)) (eCall m_l_pull [(eVar 0), (eVar 2)])))
    (sRet (eOpN tupF [(eComp (miRng1 (eVar 2)) (tgName 8) bYes (eOp2 modF (eOp2 addF (eVar 5) (eOp2 fdivF (eVar 8) (eVar 6))) (eVar 1)) [8])]))) sNop)
    (sSeq (sIf (bOf (eOp2 eqF (eVar 3) (eC (.int 3)))) (sSeq (sSet 7 (eCall m_l_pull [(eVar 0), (eVar 2)]))
    (sRet (eOpN tupF [(eComp (miRng1 (eVar 2)) (tgName 8) bYes (eOp2 modF (eOp2 addF (eVar 5) (eOpN intF [(eOp2 eqF (eVar 8) (eVar 7))])) (eVar 1)) [8])]))) sNop)
    (sRet (eOpN tupF [(eComp (miRng1 (eVar 2)) (tgName 8) bYes (eCall m_l_pull [(eVar 0), (eVar 1)]) [8])]))))))
noncomputable def m_l_row : MF := mFun 4 9 (mb_l_row)
noncomputable def mb_l_book : MS := (sSeq (sSetS 4 (eOp2 addF (eC (.int 1)) (eCall m_l_pull [(eVar 0), (eVar 1)])))
    (sSeq (sSet 5 (eOp2 addF (eC (.int 1)) (eCall m_l_pull [(eVar 0), (eVar 2)])))
    (sSeq (sSet 6 (eLst []))
    (sSeq (sFor (miRng1 (eOp2 addF (eC (.int 1)) (eCall m_l_pull [(eVar 0), (eVar 3)]))) (tgName 7) (sSeq (sSet 8 (eCall m_l_pull [(eVar 0), (eC (.int 6))]))
    (sIf (bAnd (bOf (eOp2 eqF (eVar 8) (eC (.int 5)))) (bOf (eOp2 gtF (eOpN lenF [(eVar 6)]) (eC (.int 0))))) (sApp 6 (eOp2 ixF (eVar 6) (eCall m_l_pull [(eVar 0), (eOpN lenF [(eVar 6)])]))) (sApp 6 (eCall m_l_row [(eVar 0), (eVar 4), (eVar 5), (eVar 8)])))))
    (sRet (eTup [(eVar 4), (eOpN tupF [(eVar 6)])]))))))
noncomputable def m_l_book : MF := mFun 4 9 (mb_l_book)
noncomputable def mb_common : MS := (sSeq (sWhile (bOf (eOp2 gtF (eVar 1) (eC (.int 0)))) (sPar 0 1 [(eVar 1), (eOp2 modF (eVar 0) (eVar 1))]) 10000000000000000000000000000000000000000)
    (sRetV 0))
noncomputable def m_common : MF := mFun 2 2 (mb_common)
noncomputable def mb_part_of : MS := (sSeq (sSet 2 (eCall m_common [(eVar 0), (eVar 1)]))
    (sRet (eTup [(eOp2 fdivF (eVar 0) (eVar 2)), (eOp2 fdivF (eVar 1) (eVar 2))])))
noncomputable def m_part_of : MF := mFun 2 3 (mb_part_of)
noncomputable def mb_things_of : MS := (sRet (eOpN lenF [(eOp2 ixF (eOp2 ixF (eVar 0) (eC (.int 1))) (eC (.int 0)))]))
noncomputable def m_things_of : MF := mFun 1 1 (mb_things_of)
noncomputable def mb_need_things : MS := (sFrz 1 (sFor (miSeq (qVar 1)) (tgName 2) (sIf (bOr (bNot (bOf (eCall m_is_whole [(eVar 2)]))) (bNot (bOf (eChain leF ltF (eC (.int 0)) (eVar 2) (eCall m_things_of [(eVar 0)]))))) (sRaise 4) sNop)))
noncomputable def m_need_things : MF := mFun 2 3 (mb_need_things)
noncomputable def mb_meets : MS := (sSeq (sDrop (eCall m_need_things [(eVar 0), (eTup [(eVar 1), (eVar 2)])]))
    (sSeq (sIf (bOf (eOp2 eqF (eVar 1) (eVar 2))) (sRaise 4) sNop)
    (sRet (eOpN lenF [(eComp (miSeq (qC (eOp2 ixF (eVar 0) (eC (.int 1))))) (tgName 3) (bOf (eOp2 eqF (eOp2 ixF (eVar 3) (eVar 1)) (eOp2 ixF (eVar 3) (eVar 2)))) (eVar 3) [3])]))))
noncomputable def m_meets : MF := mFun 3 4 (mb_meets)
noncomputable def mb_l_call (tbl : Nat → MF) : MS := (sSeq (sIf (bOf (eOp2 eqF (eOpN lenF [(eVar 1)]) (eC (.int 1)))) (sRet (eCallL 0 tbl [(eOp2 ixF (eVar 1) (eC (.int 0)))])) sNop)
    (sSeq (sIf (bOf (eOp2 eqF (eOpN lenF [(eVar 1)]) (eC (.int 2)))) (sRet (eCallL 0 tbl [(eOp2 ixF (eVar 1) (eC (.int 0))), (eOp2 ixF (eVar 1) (eC (.int 1)))])) sNop)
    (sSeq (sIf (bOf (eOp2 eqF (eOpN lenF [(eVar 1)]) (eC (.int 3)))) (sRet (eCallL 0 tbl [(eOp2 ixF (eVar 1) (eC (.int 0))), (eOp2 ixF (eVar 1) (eC (.int 1))), (eOp2 ixF (eVar 1) (eC (.int 2)))])) sNop)
    (sRet (eCallL 0 tbl [(eOp2 ixF (eVar 1) (eC (.int 0))), (eOp2 ixF (eVar 1) (eC (.int 1))), (eOp2 ixF (eVar 1) (eC (.int 2))), (eOp2 ixF (eVar 1) (eC (.int 3)))])))))
noncomputable def m_l_call (tbl : Nat → MF) : MF := mFun 2 2 (mb_l_call tbl)
noncomputable def mb_l_refused (tbl : Nat → MF) : MS := (sSeq (sSet 2 (eC .non))
    (sSeq (sTry 3 2 (sDrop (eCall (m_l_call tbl) [(eVar 0), (eVar 1)])))
    (sSeq (sIf (bOf (eOp2 isF (eVar 2) (eC .non))) (sRet (eC (.str ""))) sNop)
    (sSeq (sSet 4 (eLst [(eOpN isxF [(eVar 2), (eC (.cls 1))]), (eOpN isxF [(eVar 2), (eC (.cls 2))]), (eOpN isxF [(eVar 2), (eC (.cls 3))])]))
    (sSeq (sSet 4 (eOp2 addF (eVar 4) (eLst [(eOpN isxF [(eVar 2), (eC (.cls 4))]), (eOpN isxF [(eVar 2), (eC (.cls 5))]), (eOpN isxF [(eVar 2), (eC (.cls 6))])])))
    (sSeq (sIf (bOr (bOf (eOp2 neF (eMt "list" cntF (eVar 4) [(eC (.bl true))]) (eC (.int 1)))) (bNot (bOf (eOpN isxF [(eVar 2), (eC (.ty "ValueError"))])))) (sRet (eC (.str "odd"))) sNop)
    (sRet (eOp2 ixF (eLst [(eC (.str "few")), (eC (.str "many")), (eC (.str "prime")), (eC (.str "thing")), (eC (.str "row")), (eC (.str "text"))]) (eMt "list" idxF (eVar 4) [(eC (.bl true))])))))))))
noncomputable def m_l_refused (tbl : Nat → MF) : MF := mFun 2 5 (mb_l_refused tbl)
noncomputable def mb_choose : MS := (sSeq (sSet 2 (eC (.int 1)))
    (sSeq (sFor (miRng1 (eVar 1)) (tgName 3) (sSet 2 (eOp2 fdivF (eOp2 mulF (eVar 2) (eOp2 subF (eVar 0) (eVar 3))) (eOp2 addF (eVar 3) (eC (.int 1))))))
    (sRetV 2)))
noncomputable def m_choose : MF := mFun 2 4 (mb_choose)
noncomputable def mb_need_pairs : MS := (sIf (bOf (eOp2 ltF (eCall m_things_of [(eVar 0)]) (eC (.int 2)))) (sRaise 1) sNop)
noncomputable def m_need_pairs : MF := mFun 1 1 (mb_need_pairs)
noncomputable def mb_pairs_of : MS := (sSeq (sSet 1 (eLst []))
    (sSeq (sFor (miRng1 (eVar 0)) (tgName 2) (sExt 1 (eComp (miRng2 (eOp2 addF (eVar 2) (eC (.int 1))) (eVar 0)) (tgName 3) bYes (eTup [(eVar 2), (eVar 3)]) [3])))
    (sRetV 1)))
noncomputable def m_pairs_of : MF := mFun 1 4 (mb_pairs_of)
noncomputable def mb_worst_pairs : MS := (sSeq (sDrop (eCall m_need_pairs [(eVar 0)]))
    (sSeq (sSet 1 (eComp (miSeq (qC (eCall m_pairs_of [(eCall m_things_of [(eVar 0)])]))) (tgName 3) bYes (eTup [(eCall m_meets [(eVar 0), (eOp2 ixF (eVar 3) (eC (.int 0))), (eOp2 ixF (eVar 3) (eC (.int 1)))]), (eVar 3)]) [3]))
    (sSeq (sSet 2 (eOpN maxF [(eComp (miSeq (qC (eVar 1))) (tgTup 2 (tgCons (tgName 4) (tgCons (tgName 3) tgNil))) bYes (eVar 4) [4, 3])]))
    (sRet (eTup [(eCall m_part_of [(eVar 2), (eOpN lenF [(eOp2 ixF (eVar 0) (eC (.int 1)))])]), (eComp (miSeq (qC (eVar 1))) (tgTup 2 (tgCons (tgName 4) (tgCons (tgName 3) tgNil))) (bOf (eOp2 eqF (eVar 4) (eVar 2))) (eVar 3) [4, 3])])))))
noncomputable def m_worst_pairs : MF := mFun 1 5 (mb_worst_pairs)
noncomputable def mb_is_prime : MS := (sSeq (sIf (bOf (eOp2 ltF (eVar 0) (eC (.int 2)))) (sRet (eC (.bl false))) sNop)
    (sSeq (sSet 1 (eC (.int 2)))
    (sSeq (sWhile (bOf (eOp2 leF (eOp2 mulF (eVar 1) (eVar 1)) (eVar 0))) (sSeq (sIf (bOf (eOp2 eqF (eOp2 modF (eVar 0) (eVar 1)) (eC (.int 0)))) (sRet (eC (.bl false))) sNop)
    (sSet 1 (eOp2 addF (eVar 1) (eC (.int 1))))) 10000000000000000000000000000000000000000)
    (sRet (eC (.bl true))))))
noncomputable def m_is_prime : MF := mFun 1 2 (mb_is_prime)
noncomputable def mb_need_prime : MS := (sIf (bNot (bOf (eCall m_is_prime [(eVar 0)]))) (sRaise 3) sNop)
noncomputable def m_need_prime : MF := mFun 1 1 (mb_need_prime)
noncomputable def mb_need_room : MS := (sIf (bOf (eOp2 gtF (eVar 0) (eC (.int 600)))) (sRaise 2) sNop)
noncomputable def m_need_room : MF := mFun 1 1 (mb_need_room)
noncomputable def mb_by_rests : MS := (sSeq (sDrop (eCall m_need_prime [(eVar 0)]))
    (sSeq (sDrop (eCall m_need_room [(eOp2 mulF (eVar 0) (eOp2 subF (eVar 0) (eC (.int 1))))]))
    (sSeq (sSet 3 (eLst []))
    (sSeq (sFor (miRng2 (eC (.int 1)) (eVar 0)) (tgName 4) (sFor (miRng1 (eVar 0)) (tgName 5) (sApp 3 (eOpN tupF [(eComp (miRng1 (eVar 2)) (tgName 6) bYes (eOp2 modF (eOp2 modF (eOp2 addF (eOp2 mulF (eVar 4) (eVar 6)) (eVar 5)) (eVar 0)) (eVar 1)) [6])]))))
    (sRet (eTup [(eVar 1), (eOpN tupF [(eVar 3)])]))))))
noncomputable def m_by_rests : MF := mFun 3 7 (mb_by_rests)
noncomputable def mb_worth_at : MS := (sSeq (sSet 3 (eC (.int 0)))
    (sSeq (sFrz 0 (sFor (miRev (qVar 0)) (tgName 4) (sSet 3 (eOp2 modF (eOp2 addF (eOp2 mulF (eVar 3) (eVar 1)) (eVar 4)) (eVar 2)))))
    (sRetV 3)))
noncomputable def m_worth_at : MF := mFun 3 5 (mb_worth_at)
noncomputable def mb_rows_of_numbers : MS := (sSeq (sSet 2 (eLst [(eTup [])]))
    (sSeq (sFor (miRng1 (eVar 0)) (tgName 3) (sSeq (sSetS 4 (eLst []))
    (sSeq (sFrz 2 (sFor (miSeq (qVar 2)) (tgName 5) (sExt 4 (eComp (miRng1 (eVar 1)) (tgName 6) bYes (eOp2 addF (eVar 5) (eTup [(eVar 6)])) [6]))))
    (sSet 2 (eVar 4)))))
    (sRetV 2)))
noncomputable def m_rows_of_numbers : MF := mFun 2 7 (mb_rows_of_numbers)
noncomputable def mb_by_sums : MS := (sSeq (sDrop (eCall m_need_prime [(eVar 0)]))
    (sSeq (sDrop (eCall m_need_room [(eOp2 ixF (eLst [(eC (.int 1)), (eVar 0), (eOp2 mulF (eVar 0) (eVar 0)), (eOp2 mulF (eOp2 mulF (eVar 0) (eVar 0)) (eVar 0)), (eOp2 mulF (eOp2 mulF (eOp2 mulF (eVar 0) (eVar 0)) (eVar 0)) (eVar 0))]) (eVar 1))]))
    (sSeq (sIf (bOf (eOp2 gtF (eVar 0) (eC (.int 64)))) (sRaise 2) sNop)
    (sRet (eTup [(eVar 0), (eOpN tupF [(eComp (miSeq (qC (eCall m_rows_of_numbers [(eVar 1), (eVar 0)]))) (tgName 3) bYes (eOpN tupF [(eComp (miRng1 (eVar 2)) (tgName 4) bYes (eCall m_worth_at [(eVar 3), (eVar 4), (eVar 0)]) [4])]) [3])])])))))
noncomputable def m_by_sums : MF := mFun 3 5 (mb_by_sums)
noncomputable def mb_box_of_one : MS := (sSeq (sSet 2 (eC (.int 0)))
    (sSeq (sFrz 0 (sFor (miRev (qVar 0)) (tgName 3) (sSet 2 (eOp2 addF (eOp2 mulF (eC (.int 2)) (eVar 2)) (eOpN intF [(eOp2 gtF (eOp2 andF (eVar 3) (eVar 1)) (eC (.int 0)))])))))
    (sRetV 2)))
noncomputable def m_box_of_one : MF := mFun 2 4 (mb_box_of_one)
noncomputable def mb_row_by : MS := (sSeq (sSet 2 (eLst [(eC (.int 0))]))
    (sSeq (sFor (miRng2 (eC (.int 1)) (eVar 1)) (tgName 3) (sSeq (sSet 4 (eOp2 andF (eVar 3) (eOp2 xorF (eVar 3) (eOp2 subF (eVar 3) (eC (.int 1))))))
    (sIf (bOf (eOp2 ltF (eVar 4) (eVar 3))) (sApp 2 (eOp2 xorF (eOp2 ixF (eVar 2) (eOp2 subF (eVar 3) (eVar 4))) (eOp2 ixF (eVar 2) (eVar 4)))) (sApp 2 (eCall m_box_of_one [(eVar 0), (eVar 3)])))))
    (sRet (eOpN tupF [(eVar 2)]))))
noncomputable def m_row_by : MF := mFun 2 5 (mb_row_by)
noncomputable def mb_by_bits : MS := (sSeq (sSet 2 (eOp2 shlF (eC (.int 1)) (eVar 0)))
    (sSeq (sDrop (eCall m_need_room [(eOp2 shlF (eC (.int 1)) (eOp2 mulF (eVar 0) (eVar 1)))]))
    (sRet (eTup [(eOp2 shlF (eC (.int 1)) (eVar 1)), (eOpN tupF [(eComp (miSeq (qC (eCall m_rows_of_numbers [(eVar 1), (eVar 2)]))) (tgName 3) bYes (eCall m_row_by [(eVar 3), (eVar 2)]) [3])])]))))
noncomputable def m_by_bits : MF := mFun 2 4 (mb_by_bits)
noncomputable def mb_by_slides : MS := (sSeq (sSet 2 (eOp2 shlF (eC (.int 1)) (eVar 0)))
    (sSeq (sDrop (eCall m_need_room [(eOp2 shlF (eC (.int 1)) (eOp2 subF (eOp2 addF (eVar 0) (eVar 1)) (eC (.int 1))))]))
    (sSeq (sSet 3 (eLst []))
    (sSeq (sFor (miRng1 (eOp2 shlF (eC (.int 1)) (eOp2 subF (eOp2 addF (eVar 0) (eVar 1)) (eC (.int 1))))) (tgName 4) (sApp 3 (eCall m_row_by [(eComp (miRng1 (eVar 1)) (tgName 5) bYes (eOp2 modF (eOp2 shrF (eVar 4) (eVar 5)) (eVar 2)) [5]), (eVar 2)])))
    (sRet (eTup [(eOp2 shlF (eC (.int 1)) (eVar 1)), (eOpN tupF [(eVar 3)])]))))))
noncomputable def m_by_slides : MF := mFun 2 6 (mb_by_slides)
noncomputable def mb_least_together : MS := (sSeq (sIf (bOf (eOp2 ltF (eVar 0) (eC (.int 2)))) (sRaise 1) sNop)
    (sSeq (sSet 2 (eOp2 fdivF (eVar 0) (eVar 1)))
    (sSeq (sSet 3 (eOp2 modF (eVar 0) (eVar 1)))
    (sRet (eOp2 addF (eOp2 mulF (eVar 3) (eCall m_choose [(eOp2 addF (eVar 2) (eC (.int 1))), (eC (.int 2))])) (eOp2 mulF (eOp2 subF (eVar 1) (eVar 3)) (eCall m_choose [(eVar 2), (eC (.int 2))])))))))
noncomputable def m_least_together : MF := mFun 2 4 (mb_least_together)
noncomputable def mb_least_share : MS := (sRet (eCall m_part_of [(eCall m_least_together [(eVar 0), (eVar 1)]), (eCall m_choose [(eVar 0), (eC (.int 2))])]))
noncomputable def m_least_share : MF := mFun 2 2 (mb_least_share)
noncomputable def mb_rising_tuples : MS := (sSeq (sSet 2 (eLst [(eTup [])]))
    (sSeq (sFor (miRng1 (eVar 1)) (tgName 3) (sSeq (sSetS 4 (eLst []))
    (sSeq (sFrz 2 (sFor (miSeq (qVar 2)) (tgName 5) (sSeq (sSet 6 (eCut (eIf (bOf (eOp2 gtF (eOpN lenF [(eVar 5)]) (eC (.int 0)))) (eOp2 addF (eOp2 ixF (eVar 5) (eOp1 negF (eC (.int 1)))) (eC (.int 1))) (eC (.int 0)))))
    (sExt 4 (eComp (miRng2 (eVar 6) (eVar 0)) (tgName 7) bYes (eOp2 addF (eVar 5) (eTup [(eVar 7)])) [7])))))
    (sSet 2 (eVar 4)))))
    (sRetV 2)))
noncomputable def m_rising_tuples : MF := mFun 2 8 (mb_rising_tuples)
noncomputable def mb_times_itself : MS := (sSeq (sSet 2 (eC (.int 1)))
    (sSeq (sFor (miRng1 (eVar 1)) (tgName 3) (sSet 2 (eOp2 mulF (eVar 2) (eVar 0))))
    (sRetV 2)))
noncomputable def m_times_itself : MF := mFun 2 4 (mb_times_itself)
noncomputable def mb_need_tuples : MS := (sSeq (sIf (bOf (eOp2 ltF (eVar 0) (eVar 1))) (sRaise 1) sNop)
    (sIf (bOf (eOp2 gtF (eCall m_choose [(eVar 0), (eVar 1)]) (eC (.int 1000)))) (sRaise 2) sNop))
noncomputable def m_need_tuples : MF := mFun 2 2 (mb_need_tuples)
noncomputable def mb_is_best : MS := (sSeq (sDrop (eCall m_need_pairs [(eVar 0)]))
    (sSeq (sAsg (tgTup 2 (tgCons (tgName 1) (tgCons (tgName 2) tgNil))) (eCall m_least_share [(eCall m_things_of [(eVar 0)]), (eOp2 ixF (eVar 0) (eC (.int 0)))]))
    (sSeq (sSet 3 (eOpN lenF [(eOp2 ixF (eVar 0) (eC (.int 1)))]))
    (sRet (eOpN allF [(eComp (miSeq (qC (eCall m_pairs_of [(eCall m_things_of [(eVar 0)])]))) (tgTup 2 (tgCons (tgName 4) (tgCons (tgName 5) tgNil))) bYes (eOp2 eqF (eOp2 mulF (eCall m_meets [(eVar 0), (eVar 4), (eVar 5)]) (eVar 2)) (eOp2 mulF (eVar 1) (eVar 3))) [4, 5])])))))
noncomputable def m_is_best : MF := mFun 1 6 (mb_is_best)
noncomputable def mb_by_planes : MS := (sSeq (sDrop (eCall m_need_prime [(eVar 0)]))
    (sSeq (sIf (bOf (eOp2 gtF (eVar 0) (eC (.int 7)))) (sRaise 2) sNop)
    (sSeq (sSet 1 (eLst []))
    (sSeq (sFor (miRng1 (eVar 0)) (tgName 2) (sApp 1 (eOpN tupF [(eComp (miRng1 (eOp2 mulF (eVar 0) (eVar 0))) (tgName 3) bYes (eOp2 modF (eOp2 subF (eVar 3) (eOp2 mulF (eVar 2) (eOp2 fdivF (eVar 3) (eVar 0)))) (eVar 0)) [3])])))
    (sSeq (sApp 1 (eOpN tupF [(eComp (miRng1 (eOp2 mulF (eVar 0) (eVar 0))) (tgName 3) bYes (eOp2 fdivF (eVar 3) (eVar 0)) [3])]))
    (sRet (eTup [(eVar 0), (eOpN tupF [(eVar 1)])])))))))
noncomputable def m_by_planes : MF := mFun 1 4 (mb_by_planes)
noncomputable def mb_digits_of : MS := (sSeq (sSet 3 (eLst []))
    (sSeq (sFor (miRng1 (eVar 2)) (tgName 4) (sSeq (sApp 3 (eOp2 modF (eVar 0) (eVar 1)))
    (sSet 0 (eOp2 fdivF (eVar 0) (eVar 1)))))
    (sRet (eOpN tupF [(eVar 3)]))))
noncomputable def m_digits_of : MF := mFun 3 5 (mb_digits_of)
noncomputable def mb_by_digits : MS := (sSeq (sSet 2 (eC (.int 1)))
    (sSeq (sSet 3 (eVar 1))
    (sSeq (sWhile (bOf (eOp2 ltF (eVar 3) (eVar 0))) (sSeq (sSet 3 (eOp2 mulF (eVar 3) (eVar 1)))
    (sSet 2 (eOp2 addF (eVar 2) (eC (.int 1))))) 10000000000000000000000000000000000000000)
    (sSeq (sSet 4 (eComp (miRng1 (eVar 0)) (tgName 5) bYes (eCall m_digits_of [(eVar 5), (eVar 1), (eVar 2)]) [5]))
    (sRet (eTup [(eVar 1), (eOpN tupF [(eComp (miRng1 (eVar 2)) (tgName 6) bYes (eOpN tupF [(eComp (miSeq (qC (eVar 4))) (tgName 7) bYes (eOp2 ixF (eVar 7) (eVar 6)) [7])]) [6])])]))))))
noncomputable def m_by_digits : MF := mFun 2 8 (mb_by_digits)
noncomputable def mb_by_points : MS := (sSeq (sDrop (eCall m_need_prime [(eVar 0)]))
    (sSeq (sSet 4 (eLst []))
    (sSeq (sFor (miRng1 (eVar 2)) (tgName 5) (sApp 4 (eOpN tupF [(eComp (miRng1 (eVar 3)) (tgName 6) bYes (eCall m_worth_at [(eCall m_digits_of [(eVar 6), (eVar 0), (eVar 1)]), (eVar 5), (eVar 0)]) [6])])))
    (sRet (eTup [(eVar 0), (eOpN tupF [(eVar 4)])])))))
noncomputable def m_by_points : MF := mFun 4 7 (mb_by_points)
noncomputable def mb_l_all_pairs : MS := (sSeq (sSet 1 (eLst []))
    (sSeq (sFor (miRng1 (eVar 0)) (tgName 2) (sExt 1 (eComp (miRng2 (eOp2 addF (eVar 2) (eC (.int 1))) (eVar 0)) (tgName 3) bYes (eTup [(eVar 2), (eVar 3)]) [3])))
    (sRetV 1)))
noncomputable def m_l_all_pairs : MF := mFun 1 4 (mb_l_all_pairs)
noncomputable def mb_l_all_rows : MS := (sSeq (sSet 2 (eLst [(eTup [])]))
    (sSeq (sFor (miRng1 (eVar 0)) (tgName 3) (sSeq (sSetS 4 (eLst []))
    (sSeq (sFrz 2 (sFor (miSeq (qVar 2)) (tgName 5) (sSeq (sSet 6 (eOpN minF [(eVar 1), (eOp2 addF (eOp2 addF (eC (.int 1)) (eOpN maxTF [(eOp2 addF (eTup [(eOp1 negF (eC (.int 1)))]) (eVar 5))])) (eC (.int 1)))]))
    (sExt 4 (eComp (miRng1 (eVar 6)) (tgName 7) bYes (eOp2 addF (eVar 5) (eTup [(eVar 7)])) [7])))))
    (sSet 2 (eVar 4)))))
    (sRetV 2)))
noncomputable def m_l_all_rows : MF := mFun 2 8 (mb_l_all_rows)
noncomputable def mb_parted_by : MS := (sSeq (sDrop (eCall m_need_pairs [(eVar 0)]))
    (sRet (eOp2 subF (eOpN lenF [(eOp2 ixF (eVar 0) (eC (.int 1)))]) (eOpN maxF [(eComp (miSeq (qC (eCall m_pairs_of [(eCall m_things_of [(eVar 0)])]))) (tgTup 2 (tgCons (tgName 1) (tgCons (tgName 2) tgNil))) bYes (eCall m_meets [(eVar 0), (eVar 1), (eVar 2)]) [1, 2])]))))
noncomputable def m_parted_by : MF := mFun 1 3 (mb_parted_by)
noncomputable def mb_are_things : MS := (sSeq (sIf (bOr (bNot (bOf (eOpN isiF [(eVar 1), (eC (.ty "tuple"))]))) (bNot (bOf (eOpN allF [(eComp (miSeq (qC (eVar 1))) (tgName 2) bYes (eCall m_is_whole [(eVar 2)]) [2])])))) (sRet (eC (.bl false))) sNop)
    (sSeq (sIf (bAnd (bOf (eOp2 gtF (eOpN lenF [(eVar 1)]) (eC (.int 0)))) (bOr (bOf (eOp2 ltF (eOp2 ixF (eVar 1) (eC (.int 0))) (eC (.int 0)))) (bOf (eOp2 geF (eOp2 ixF (eVar 1) (eOp1 negF (eC (.int 1)))) (eVar 0))))) (sRet (eC (.bl false))) sNop)
    (sRet (eOpN allF [(eComp (miZip (qC (eVar 1)) (qC (eSl (some (eC (.int 1))) none (eVar 1)))) (tgTup 2 (tgCons (tgName 2) (tgCons (tgName 3) tgNil))) bYes (eOp2 ltF (eVar 2) (eVar 3)) [2, 3])]))))
noncomputable def m_are_things : MF := mFun 2 4 (mb_are_things)
noncomputable def mb_need_rising : MS := (sIf (bOr (bNot (bOf (eCall m_are_things [(eCall m_things_of [(eVar 0)]), (eVar 1)]))) (bOf (eOp2 ltF (eOpN lenF [(eVar 1)]) (eVar 2)))) (sRaise 4) sNop)
noncomputable def m_need_rising : MF := mFun 3 3 (mb_need_rising)
noncomputable def mb_is_apart : MS := (sRet (eOp2 eqF (eLenSet (eComp (miSeq (qC (eVar 1))) (tgName 2) bYes (eOp2 ixF (eVar 0) (eVar 2)) [2])) (eOpN lenF [(eVar 1)])))
noncomputable def m_is_apart : MF := mFun 2 3 (mb_is_apart)
noncomputable def mb_all_tuples : MS := (sSeq (sDrop (eCall m_need_tuples [(eCall m_things_of [(eVar 0)]), (eVar 1)]))
    (sRet (eCall m_rising_tuples [(eCall m_things_of [(eVar 0)]), (eVar 1)])))
noncomputable def m_all_tuples : MF := mFun 2 2 (mb_all_tuples)
noncomputable def mb_first_missed : MS := (sSeq (sFor (miSeq (qE (eCall m_all_tuples [(eVar 0), (eVar 1)]))) (tgName 2) (sIf (bNot (bOf (eOpN anyF [(eComp (miSeq (qC (eOp2 ixF (eVar 0) (eC (.int 1))))) (tgName 3) bYes (eCall m_is_apart [(eVar 3), (eVar 2)]) [3])]))) (sRetV 2) sNop))
    (sRet (eC .non)))
noncomputable def m_first_missed : MF := mFun 2 4 (mb_first_missed)
noncomputable def mb_need_two : MS := (sSeq (sFor (miSeq (qE (eTup [(eVar 1), (eVar 2)]))) (tgName 4) (sIf (bOr (bNot (bOf (eCall m_is_whole [(eVar 4)]))) (bNot (bOf (eChain leF ltF (eC (.int 0)) (eVar 4) (eOpN lenF [(eOp2 ixF (eVar 0) (eC (.int 1)))]))))) (sRaise 4) sNop))
    (sDrop (eCall m_need_rising [(eVar 0), (eVar 3), (eC (.int 0))])))
noncomputable def m_need_two : MF := mFun 4 5 (mb_need_two)
noncomputable def mb_sides_of : MS := (sRet (eComp (miSeq (qC (eVar 3))) (tgName 4) bYes (eTup [(eOp2 ixF (eOp2 ixF (eOp2 ixF (eVar 0) (eC (.int 1))) (eVar 1)) (eVar 4)), (eOp2 ixF (eOp2 ixF (eOp2 ixF (eVar 0) (eC (.int 1))) (eVar 2)) (eVar 4))]) [4]))
noncomputable def m_sides_of : MF := mFun 4 5 (mb_sides_of)
noncomputable def mb_number_of : MS := (sSeq (sIf (bOr (bNot (bOf (eChain leF leF (eC (.int 1)) (eOpN lenF [(eVar 0)]) (eC (.int 3))))) (bNot (bOf (eOpN allF [(eComp (miStr (eVar 0)) (tgName 1) bYes (eOp2 inF (eVar 1) (eC (.str "0123456789"))) [1])])))) (sRet (eC .non)) sNop)
    (sSeq (sIf (bAnd (bOf (eOp2 gtF (eOpN lenF [(eVar 0)]) (eC (.int 1)))) (bOf (eOp2 eqF (eOp2 ixF (eVar 0) (eC (.int 0))) (eC (.str "0"))))) (sRet (eC .non)) sNop)
    (sRet (eOpN intSF [(eVar 0)]))))
noncomputable def m_number_of : MF := mFun 1 2 (mb_number_of)
noncomputable def mb_Words___init__ : MS := (sSeq (sFld 7 "boxes" (eVar 0) (eC (.int 0)))
    (sFld 7 "rows" (eVar 0) (eLst [])))
noncomputable def m_Words___init__ : MF := mFun 1 1 (mb_Words___init__)
noncomputable def mb_Words_is_done : MS := (sRet (eAnd (eOp2 gtF (eOpN lenF [(eFld 7 "rows" (eVar 0))]) (eC (.int 0))) (eChain ltF eqF (eC (.int 0)) (eOpN lenF [(eOp2 ixF (eFld 7 "rows" (eVar 0)) (eOp1 negF (eC (.int 1))))]) (eOpN lenF [(eOp2 ixF (eFld 7 "rows" (eVar 0)) (eC (.int 0)))]))))
noncomputable def m_Words_is_done : MF := mFun 1 1 (mb_Words_is_done)
noncomputable def mb_Words_take_first : MS := (sSeq (sSet 2 (eCall m_number_of [(eVar 1)]))
    (sSeq (sIf (bOr (bOf (eOp2 isF (eVar 2) (eC .non))) (bNot (bOf (eChain ltF leF (eC (.int 0)) (eVar 2) (eC (.int 64)))))) (sRet (eC (.bl false))) sNop)
    (sSeq (sFld 7 "boxes" (eVar 0) (eVar 2))
    (sRet (eC (.bl true))))))
noncomputable def m_Words_take_first : MF := mFun 2 3 (mb_Words_take_first)
noncomputable def mb_Words_take_end : MS := (sSeq (sIf (bOr (bAnd (bOf (eOp2 gtF (eOpN lenF [(eFld 7 "rows" (eVar 0))]) (eC (.int 0)))) (bNot (bOf (eMeth 7 "is_done" m_Words_is_done (eVar 0) [])))) (bOf (eOp2 eqF (eOpN lenF [(eFld 7 "rows" (eVar 0))]) (eC (.int 600))))) (sRet (eC (.bl false))) sNop)
    (sSeq (sDrop (eAppF (eFld 7 "rows" (eVar 0)) (eLst [])))
    (sRet (eC (.bl true)))))
noncomputable def m_Words_take_end : MF := mFun 1 1 (mb_Words_take_end)
noncomputable def mb_Words_take : MS := (sSeq (sIf (bOf (eOp2 eqF (eFld 7 "boxes" (eVar 0)) (eC (.int 0)))) (sRet (eMeth 7 "take_first" m_Words_take_first (eVar 0) [(eVar 1)])) sNop)
    (sSeq (sIf (bOf (eOp2 eqF (eVar 1) (eC (.str "/")))) (sRet (eMeth 7 "take_end" m_Words_take_end (eVar 0) [])) sNop)
    (sSeq (sSetS 2 (eCall m_number_of [(eVar 1)]))
    (sSeq (sIf (bOr (bOf (eOp2 eqF (eFld 7 "rows" (eVar 0)) (eLst []))) (bOr (bOf (eOp2 isF (eVar 2) (eC .non))) (bOf (eOp2 geF (eVar 2) (eFld 7 "boxes" (eVar 0)))))) (sRet (eC (.bl false))) sNop)
    (sSeq (sSet 3 (eC (.int 64)))
    (sSeq (sCut (sIf (bOf (eOp2 gtF (eOpN lenF [(eFld 7 "rows" (eVar 0))]) (eC (.int 1)))) (sSet 3 (eOpN lenF [(eOp2 ixF (eFld 7 "rows" (eVar 0)) (eC (.int 0)))])) sNop))
    (sSeq (sIf (bOf (eOp2 eqF (eOpN lenF [(eOp2 ixF (eFld 7 "rows" (eVar 0)) (eOp1 negF (eC (.int 1))))]) (eVar 3))) (sRet (eC (.bl false))) sNop)
    (sSeq (sDrop (eAppD (eOp2 ixF (eFld 7 "rows" (eVar 0)) (eOp1 negF (eC (.int 1)))) (eVar 2)))
    (sRet (eC (.bl true)))))))))))
noncomputable def m_Words_take : MF := mFun 2 4 (mb_Words_take)
noncomputable def mb_read_book : MS := (sSeq (sSet 1 (eMt "str" splitF (eVar 0) [(eC (.str " "))]))
    (sSeq (sSet 2 (eMake 7 m_Words___init__))
    (sSeq (sFrz 1 (sFor (miEnumA (qVar 1)) (tgTup 2 (tgCons (tgName 3) (tgCons (tgName 4) tgNil))) (sIf (bNot (bOf (eMeth 7 "take" m_Words_take (eVar 2) [(eVar 4)]))) (sRaiseA (eVar 3)) sNop)))
    (sSeq (sIf (bNot (bOf (eMeth 7 "is_done" m_Words_is_done (eVar 2) []))) (sRaiseA (eOpN lenF [(eVar 1)])) sNop)
    (sRet (eTup [(eFld 7 "boxes" (eVar 2)), (eOpN tupF [(eComp (miSeq (qC (eFld 7 "rows" (eVar 2)))) (tgName 5) bYes (eOpN tupF [(eVar 5)]) [5])])]))))))
noncomputable def m_read_book : MF := mFun 1 6 (mb_read_book)
noncomputable def mb_by_commas : MS := (sRet (eMt "str" joinF (eC (.str ",")) [(eComp (miSeq (qC (eVar 0))) (tgName 1) bYes (eOpN strF [(eVar 1)]) [1])]))
noncomputable def m_by_commas : MF := mFun 1 2 (mb_by_commas)
def tab_MADE : List (Str × Int) := [("rests", 3), ("bits", 2), ("slides", 2), ("planes", 1)]
noncomputable def mb_is_made : MS := (sSeq (sIf (bOf (eOp2 neF (eOpN lenF [(eVar 1)]) (eOp1 (atGF tab_MADE) (eVar 0)))) (sRet (eC (.bl false))) sNop)
    (sSeq (sIf (bOf (eOp2 eqF (eVar 0) (eC (.str "rests")))) (sRet (eAnd (eChain leF leF (eC (.int 1)) (eOp2 ixF (eVar 1) (eC (.int 1))) (eOp2 ixF (eVar 1) (eC (.int 0)))) (eChain leF leF (eC (.int 1)) (eOp2 ixF (eVar 1) (eC (.int 2))) (eOp2 ixF (eVar 1) (eC (.int 0)))))) sNop)
    (sRet (eOr (eOp2 eqF (eVar 0) (eC (.str "planes"))) (eAnd (eChain leF leF (eC (.int 1)) (eOp2 ixF (eVar 1) (eC (.int 0))) (eC (.int 6))) (eChain leF leF (eC (.int 1)) (eOp2 ixF (eVar 1) (eC (.int 1))) (eC (.int 4))))))))
noncomputable def m_is_made : MF := mFun 2 2 (mb_is_made)
def tab_ASKED : List (Str × Int) := [("meets", 2), ("worst", 0), ("even", 1), ("parted", 0), ("missed", 1), ("gathered", 0)]
noncomputable def mb_is_asked : MS := (sSeq (sIf (bOf (eOp2 eqF (eVar 0) (eC (.str "two")))) (sRet (eOp2 gtF (eOpN lenF [(eVar 1)]) (eC (.int 2)))) sNop)
    (sSeq (sIf (bOf (eOp2 neF (eOpN lenF [(eVar 1)]) (eOp2 (getGF tab_ASKED) (eVar 0) (eOp1 negF (eC (.int 1)))))) (sRet (eC (.bl false))) sNop)
    (sRet (eOr (eOp2 notinF (eVar 0) (eTup [(eC (.str "even")), (eC (.str "missed"))])) (eChain leF leF (eC (.int 1)) (eOp2 ixF (eVar 1) (eC (.int 0))) (eC (.int 4)))))))
noncomputable def m_is_asked : MF := mFun 2 2 (mb_is_asked)
noncomputable def mb_made_by : MS := (sSeq (sIf (bOf (eOp2 eqF (eVar 0) (eC (.str "rests")))) (sRet (eCall m_by_rests [(eOp2 ixF (eVar 1) (eC (.int 0))), (eOp2 ixF (eVar 1) (eC (.int 1))), (eOp2 ixF (eVar 1) (eC (.int 2)))])) sNop)
    (sSeq (sIf (bOf (eOp2 eqF (eVar 0) (eC (.str "bits")))) (sRet (eCall m_by_bits [(eOp2 ixF (eVar 1) (eC (.int 0))), (eOp2 ixF (eVar 1) (eC (.int 1)))])) sNop)
    (sSeq (sIf (bOf (eOp2 eqF (eVar 0) (eC (.str "slides")))) (sRet (eCall m_by_slides [(eOp2 ixF (eVar 1) (eC (.int 0))), (eOp2 ixF (eVar 1) (eC (.int 1)))])) sNop)
    (sRet (eCall m_by_planes [(eOp2 ixF (eVar 1) (eC (.int 0)))])))))
noncomputable def m_made_by : MF := mFun 2 2 (mb_made_by)
noncomputable def mb_worst_text : MS := (sSeq (sAsg (tgTup 2 (tgCons (tgName 1) (tgCons (tgName 2) tgNil))) (eCall m_worst_pairs [(eVar 0)]))
    (sSeq (sSet 3 (eComp (miSeq (qC (eVar 2))) (tgTup 2 (tgCons (tgName 4) (tgCons (tgName 5) tgNil))) bYes (eOp2 addF (eOp2 addF (eOpN strF [(eVar 4)]) (eC (.str "-"))) (eOpN strF [(eVar 5)])) [4, 5]))
    (sRet (eMt "str" joinF (eC (.str " ")) [(eOp2 addF (eLst [(eOpN strF [(eOp2 ixF (eVar 1) (eC (.int 0)))]), (eC (.str "/")), (eOpN strF [(eOp2 ixF (eVar 1) (eC (.int 1)))])]) (eVar 3))]))))
noncomputable def m_worst_text : MF := mFun 1 6 (mb_worst_text)
noncomputable def mb_missed_text : MS := (sSeq (sSet 2 (eCall m_first_missed [(eVar 0), (eVar 1)]))
    (sSeq (sIf (bOf (eOp2 isF (eVar 2) (eC .non))) (sRet (eC (.str "none"))) sNop)
    (sRet (eCall m_by_commas [(eVar 2)]))))
noncomputable def m_missed_text : MF := mFun 2 3 (mb_missed_text)
noncomputable def mb_l_gkind : MS := (sSeq (sSet 1 (eLst [(eOpN isxF [(eVar 0), (eC (.cls 1))]), (eOpN isxF [(eVar 0), (eC (.cls 2))]), (eOpN isxF [(eVar 0), (eC (.cls 3))]), (eOpN isxF [(eVar 0), (eC (.cls 4))])]))
    (sSeq (sSet 1 (eOp2 addF (eVar 1) (eLst [(eOpN isxF [(eVar 0), (eC (.cls 5))]), (eOpN isxF [(eVar 0), (eC (.cls 6))])])))
    (sSeq (sIf (bOr (bOf (eOp2 neF (eMt "list" cntF (eVar 1) [(eC (.bl true))]) (eC (.int 1)))) (bNot (bOf (eOpN isxF [(eVar 0), (eC (.ty "ValueError"))])))) (sRet (eC (.str "odd"))) sNop)
    (sRet (eOp2 ixF (eLst [(eC (.str "few")), (eC (.str "many")), (eC (.str "prime")), (eC (.str "thing")), (eC (.str "row")), (eC (.str "text"))]) (eMt "list" idxF (eVar 1) [(eC (.bl true))]))))))
noncomputable def m_l_gkind : MF := mFun 1 2 (mb_l_gkind)
end LM

namespace LM
open PySem PySem.Spec L2 DM
local macro_rules | `(tactic| walk_at "w") => `(tactic| simp only [QV_v, QV_own, QV_bor, QI_d, QI_l, QO_d, QO_l, QO_ite, QO_A, QA_s, w_C, w_var, kA2_e, kB2_dd, kB2_ld, kB2_dl, kB2_ll, w_op2, kA1_d, w_op1, kArg_e, kArg2_d, kArg2_l, w_args0, w_args, kOpN_e, w_opN, kIt_e, kIt2_e, kIt3_e, w_items0, w_items, kTup_e, kLst_e, w_tup, w_lst, kB_e, w_bOf, kAnd_t, kAnd_f, kOr_t, kOr_f, kNot_e, w_bAnd, w_bOr, w_bNot, w_bYes, kEAnd_t, kEAnd_f, kEOr_t, kEOr_f, kENot_e, w_eAnd, w_eOr, w_eNot, kEIf_t, kEIf_f, w_eIf, kCall_e, w_call, okR_d, okR_l, okR_ex, kPart2_e, w_part0, w_part, kSl3_d, kSl3_l, kSl2_e, kSl_e, w_sl, kCh_e, kCh1_e, kCh2_t, kCh2_f, w_chain, seq_nx, seq_rt, seq_bk, seq_ct, seq_ex, kX_e, w_seq, w_nop, w_brk, w_cnt, kIf_t, kIf_f, w_if, kRet_d, kRet_l, w_ret, w_retN, QRV_v, QRV_own, w_retV, kDrop_e, w_drop, kSet_d, kSet_l, w_set, kSetS_d, kSetS_l, w_setS, QMv_e, w_move, QG_e, tg_name, tg_tup, tg_tup1, tg_tup2, tg_tup3, tg_tup4, tg_nil, tg_cons, ob_some, kAsg_d, w_asg, kPar_e, w_par, kSixN_e, kSixL_e, QSt_e, kSixO_e, kSixT_e, QSix_o, QSix_l, kSix_d, kSix_l, w_setix, kAppO_d, kAppO_l, QAppT_e, kAppT_d, kAppT_l, QApp_o, QApp_l, w_app, kExtO_l, QExt_o, QS_t, QS_l, QSL_e, QQ_b, QQ_v, w_qVar, kQE_l, kQE_d, w_qE, kQC_l, kQC_d, w_qC, kSeq_e, w_miSeq, kRev_e, w_miRev, kEnum_e, w_miEnum, kZip_e, kZip2_e, w_miZip, kR1_e, w_miRng1, kR2_e, kR3_e, rngD_len, rngD2_len, chk_t, chk_p, chk_s, isT_t, isT_p, isT_s, w_for, lp_nx, lp_rt, lp_bk, lp_ct, lp_ex, frzS_e, frzQ_o, frzQ_v, frzQ_b, frzQ_n, unfS_e, unfQ_o, unfQ_v, unfQ_b, unfQ_n, unf_nx, unf_rt, unf_bk, unf_ct, unf_ex, w_frz, w_comp, EnF_nx, EnF_d, EnF_l, EnF_ex, slot_d, slot_f, add_ii, add_ss, add_tt, add_ll, sub_ii, mul_ii, mul_li, div_ii, mod_ii, pow_ii, shl_ii, shr_ii, lt_ii, le_ii, gt_ii, ge_ii, neg_i, and_ii, or_ii, xor_ii, is_n, isnt_n, isNon_n, isNon_b, isNon_i, isNon_s, isNon_t, isNon_o, isNon_l, isNon_e, lstO_e, lstOf_l, lstOf_o, om_some, ix_t, ix_s, ix_l, ix_o, len_s, len_t, len_l, len_o, sum_l, all_l, any_l, max_ii, min_ii, max_l, min_l, tup_t, tup_l, tup_o, list_t, list_l, list_o, int_i, int_b, str_i, sl_t, sl_l, sl_s, eq_ii, ne_ii, eq_bb, ne_bb, isi_non_int, isi_non_bool, isi_non_str, isi_non_tuple, isi_non_list, isi_non_tl, isi_bl_int, isi_bl_bool, isi_bl_str, isi_bl_tuple, isi_bl_list, isi_bl_tl, isi_int_int, isi_int_bool, isi_int_str, isi_int_tuple, isi_int_list, isi_int_tl, isi_str_int, isi_str_bool, isi_str_str, isi_str_tuple, isi_str_list, isi_str_tl, isi_tup_int, isi_tup_bool, isi_tup_str, isi_tup_tuple, isi_tup_list, isi_tup_tl, isi_l_int, isi_l_bool, isi_l_str, isi_l_tuple, isi_l_list, isi_l_tl, ixN_00, ixN_1, ixN_2, ixN_3, atI_0, atI_1, atI_2, atI_3, intsOf_map, blsOf_map, List.set_cons_zero, List.set_cons_succ, List.getElem?_cons_zero, List.getElem?_cons_succ, List.replicate_succ, List.replicate_zero, List.length_cons, List.length_nil, Nat.zero_add, Nat.add_zero, Nat.reduceAdd, Nat.reduceSub, Nat.reduceLT, Nat.reduceLeDiff, Option.some.injEq, true_and, and_true, List.map_cons, List.map_nil, decide_true, decide_false, Bool.not_true, Bool.not_false, wipeE, QO_gd, startE_1, startE_2, startE_3, startE_4, fb_nx, fl_nx, fl_ct, fl_bk, fl_rt, fl_ex, cut_nx, cut_rt, cut_bk, cut_ct, cut_ex, w_raise, tr_nx, tr_rt, tr_bk, tr_ct, tr_ex, w_try, QCL_e, w_callL, kMt2_e, kMt_l, kMt_s, kMt_o, w_mt, if_true, QXT_e, kExtT_l, kExtT_d, QExt2_o, QExt2_l, exo_e, w_ext2, w_rng2, w_rng3, isB_bb, isntB_bb, beq_self_eq_true, w_ins0, QIns_o, kInsO_d, w_revE, kRevE_l, w_miEnumA, kEnumA_e, w_popAt, kPop_e, kPop2_e, sorted_e, divmod_e, w_lenSet, kLenSet_l, kRevA_l, kRevA_t, kRevA_o, w_revA, kZipM_e, kZipM2_e, w_miZipM, kAppD_e, kAppD2_e, w_appD])
local macro_rules | `(tactic| simp! only [$ls,*]) => `(tactic| simp only [QV_v, QV_own, QV_bor, QI_d, QI_l, QO_d, QO_l, QO_ite, QO_A, QA_s, w_C, w_var, kA2_e, kB2_dd, kB2_ld, kB2_dl, kB2_ll, w_op2, kA1_d, w_op1, kArg_e, kArg2_d, kArg2_l, w_args0, w_args, kOpN_e, w_opN, kIt_e, kIt2_e, kIt3_e, w_items0, w_items, kTup_e, kLst_e, w_tup, w_lst, kB_e, w_bOf, kAnd_t, kAnd_f, kOr_t, kOr_f, kNot_e, w_bAnd, w_bOr, w_bNot, w_bYes, kEAnd_t, kEAnd_f, kEOr_t, kEOr_f, kENot_e, w_eAnd, w_eOr, w_eNot, kEIf_t, kEIf_f, w_eIf, kCall_e, w_call, okR_d, okR_l, okR_ex, kPart2_e, w_part0, w_part, kSl3_d, kSl3_l, kSl2_e, kSl_e, w_sl, kCh_e, kCh1_e, kCh2_t, kCh2_f, w_chain, seq_nx, seq_rt, seq_bk, seq_ct, seq_ex, kX_e, w_seq, w_nop, w_brk, w_cnt, kIf_t, kIf_f, w_if, kRet_d, kRet_l, w_ret, w_retN, QRV_v, QRV_own, w_retV, kDrop_e, w_drop, kSet_d, kSet_l, w_set, kSetS_d, kSetS_l, w_setS, QMv_e, w_move, QG_e, tg_name, tg_tup, tg_tup1, tg_tup2, tg_tup3, tg_tup4, tg_nil, tg_cons, ob_some, kAsg_d, w_asg, kPar_e, w_par, kSixN_e, kSixL_e, QSt_e, kSixO_e, kSixT_e, QSix_o, QSix_l, kSix_d, kSix_l, w_setix, kAppO_d, kAppO_l, QAppT_e, kAppT_d, kAppT_l, QApp_o, QApp_l, w_app, kExtO_l, QExt_o, QS_t, QS_l, QSL_e, QQ_b, QQ_v, w_qVar, kQE_l, kQE_d, w_qE, kQC_l, kQC_d, w_qC, kSeq_e, w_miSeq, kRev_e, w_miRev, kEnum_e, w_miEnum, kZip_e, kZip2_e, w_miZip, kR1_e, w_miRng1, kR2_e, kR3_e, rngD_len, rngD2_len, chk_t, chk_p, chk_s, isT_t, isT_p, isT_s, w_for, lp_nx, lp_rt, lp_bk, lp_ct, lp_ex, frzS_e, frzQ_o, frzQ_v, frzQ_b, frzQ_n, unfS_e, unfQ_o, unfQ_v, unfQ_b, unfQ_n, unf_nx, unf_rt, unf_bk, unf_ct, unf_ex, w_frz, w_comp, EnF_nx, EnF_d, EnF_l, EnF_ex, slot_d, slot_f, add_ii, add_ss, add_tt, add_ll, sub_ii, mul_ii, mul_li, div_ii, mod_ii, pow_ii, shl_ii, shr_ii, lt_ii, le_ii, gt_ii, ge_ii, neg_i, and_ii, or_ii, xor_ii, is_n, isnt_n, isNon_n, isNon_b, isNon_i, isNon_s, isNon_t, isNon_o, isNon_l, isNon_e, lstO_e, lstOf_l, lstOf_o, om_some, ix_t, ix_s, ix_l, ix_o, len_s, len_t, len_l, len_o, sum_l, all_l, any_l, max_ii, min_ii, max_l, min_l, tup_t, tup_l, tup_o, list_t, list_l, list_o, int_i, int_b, str_i, sl_t, sl_l, sl_s, eq_ii, ne_ii, eq_bb, ne_bb, isi_non_int, isi_non_bool, isi_non_str, isi_non_tuple, isi_non_list, isi_non_tl, isi_bl_int, isi_bl_bool, isi_bl_str, isi_bl_tuple, isi_bl_list, isi_bl_tl, isi_int_int, isi_int_bool, isi_int_str, isi_int_tuple, isi_int_list, isi_int_tl, isi_str_int, isi_str_bool, isi_str_str, isi_str_tuple, isi_str_list, isi_str_tl, isi_tup_int, isi_tup_bool, isi_tup_str, isi_tup_tuple, isi_tup_list, isi_tup_tl, isi_l_int, isi_l_bool, isi_l_str, isi_l_tuple, isi_l_list, isi_l_tl, ixN_00, ixN_1, ixN_2, ixN_3, atI_0, atI_1, atI_2, atI_3, intsOf_map, blsOf_map, List.set_cons_zero, List.set_cons_succ, List.getElem?_cons_zero, List.getElem?_cons_succ, List.replicate_succ, List.replicate_zero, List.length_cons, List.length_nil, Nat.zero_add, Nat.add_zero, Nat.reduceAdd, Nat.reduceSub, Nat.reduceLT, Nat.reduceLeDiff, Option.some.injEq, true_and, and_true, List.map_cons, List.map_nil, decide_true, decide_false, Bool.not_true, Bool.not_false, wipeE, QO_gd, startE_1, startE_2, startE_3, startE_4, fb_nx, fl_nx, fl_ct, fl_bk, fl_rt, fl_ex, cut_nx, cut_rt, cut_bk, cut_ct, cut_ex, w_raise, tr_nx, tr_rt, tr_bk, tr_ct, tr_ex, w_try, QCL_e, w_callL, kMt2_e, kMt_l, kMt_s, kMt_o, w_mt, if_true, QXT_e, kExtT_l, kExtT_d, QExt2_o, QExt2_l, exo_e, w_ext2, w_rng2, w_rng3, isB_bb, isntB_bb, beq_self_eq_true, w_ins0, QIns_o, kInsO_d, w_revE, kRevE_l, w_miEnumA, kEnumA_e, w_popAt, kPop_e, kPop2_e, sorted_e, divmod_e, w_lenSet, kLenSet_l, kRevA_l, kRevA_t, kRevA_o, w_revA, kZipM_e, kZipM2_e, w_miZipM, kAppD_e, kAppD2_e, w_appD, $ls,*])
section
open PySem PySem.Spec L2 DM
theorem cmul_l {i j : Int} (h : -(2 ^ 64) < i) (h2 : i < 2 ^ 64) : CMul i j ∨ CMulW i j := .inl (.inl ⟨h, h2⟩)
theorem cmul_r {i j : Int} (h : -(2 ^ 64) < j) (h2 : j < 2 ^ 64) : CMul i j ∨ CMulW i j := .inl (.inr ⟨h, h2⟩)
theorem cdiv {i j : Int} (h : 0 < j) (h2 : j < 2 ^ 64) : CDivW i j := by
  refine ⟨h, ?_⟩
  have : j.natAbs < 2 ^ 64 := by omega
  have := (Nat.log2_lt (by omega)).mpr this
  omega
theorem cpow {i j : Int} (h : 0 ≤ j) (h2 : j ≤ 1000000) (h3 : -(2 ^ 64) < i) (h4 : i < 2 ^ 64) : CPow i j := ⟨h, h2, by omega⟩
def Bag (S : Store) (b : Nat) (n : Nat) : Prop := ∃ (c : Nat) (cells : List Int) (at_ left : Int), S[b]? = some (.lst [.loc c, .int at_, .int left]) ∧ S[c]? = some (.lst (cells.map .int)) ∧ b ≠ c ∧ 0 ≤ at_ ∧ at_ ≤ n ∧ 0 ≤ left

def Same (b : Nat) (S S' : Store) : Prop := S'.length = S.length ∧ ∀ j, j ≠ b → S'[j]? = S[j]?
theorem same_set {b : Nat} {S : Store} {o : O} : Same b S (S.set b o) := ⟨List.length_set, fun j h => List.getElem?_set_ne (Ne.symm h)⟩

theorem pull_w {S : Store} {b n : Nat} {many : Int} {Q : RV → Store → Prop} {X : QX} (h : Bag S b n) (hn : n < 10^9) (h0 : 0 < many) (hm : many < 2^64) (k : ∀ v S', 0 ≤ v → v < many → Bag S' b (n+1) → Same b S S' → Q (.d (.int v)) S') : WR (okR (m_l_pull [.d (.loc b), .d (.int many)] S)) Q X := by
  obtain ⟨c, cells, at_, left, hb, hc, ne, h1, h2, h3⟩ := h
  have e1 := fun x => st_self hb x
  have e2 := fun x => (st_ne ne x).trans hc
  have fin : ∀ a l : Int, 0 ≤ a → a ≤ (n : Int) + 1 → 0 ≤ l → 0 < many ∧ CDivW l many ∧ Q (.d (.int (l % many))) (S.set b (.lst [.loc c, .int a, .int (l / many)])) := fun a l ha ha2 hl =>
    ⟨h0, cdiv h0 hm, k _ _ (Int.emod_nonneg _ (by omega)) (Int.emod_lt_of_pos _ h0) ⟨c, cells, a, l / many, e1 _, e2 _, ne, ha, by omega, Int.ediv_nonneg hl (by omega)⟩ same_set⟩
  refine fun_w ?_
  unfold mb_l_pull
  simp! only [w_cut, w_ecut, hb, hc, e1, e2, List.set_set]
  have cell : ∀ z : Int, 0 ≤ z % 1000000007 ∧ z % 1000000007 < 1000000007 ∧ 0 ≤ z % 65537 ∧ z % 65537 < 65537 ∧ 0 ≤ z % 2147483647 ∧ z % 2147483647 < 2147483647 ∧ 0 ≤ z % 2305843009213693951 := fun z => by omega
  refine kIf_br (fun hl => ?_) (fun hl => ?_)
  · simp! only [w_cut, w_ecut, hb, hc, e1, e2, List.set_set]
    have tail : ∀ z : Int, kSetS 3 [Slot.v (D.loc b), Slot.v (D.int many), Slot.v (D.int at_), Slot.no, Slot.no, Slot.no, Slot.no]
      (((EnF Q X).seq
            (sSeq (sSet 6 (eOp2 modF (eOp2 ixF (eVar 0) (eC (D.int 2))) (eVar 1)))
              (sSeq (sSetIx 0 (eC (D.int 2)) (eOp2 fdivF (eOp2 ixF (eVar 0) (eC (D.int 2))) (eVar 1))) (sRetV 6)))).seq
        (sSeq (sSetIx 0 (eC (D.int 2)) (eVar 3))
          (sIf
            (bOr (bOf (eOp2 ltF (eVar 3) (eOp2 powF (eC (D.int 10)) (eC (D.int 18)))))
              (bOf (eOp2 geF (eVar 2) (eOpN lenF [eOp2 ixF (eVar 0) (eC (D.int 0))]))))
            (sSeq
              (sSet 4
                (eOp2 modF
                  (eOp2 powF
                    (eOp2 addF
                      (eOp2 addF (eOp2 modF (eVar 3) (eC (D.int 1000000007)))
                        (eOp2 mulF (eC (D.int 998244353)) (eVar 2)))
                      (eC (D.int 12345)))
                    (eC (D.int 3)))
                  (eC (D.int 2147483647))))
              (sSeq
                (sSet 5
                  (eOp2 modF
                    (eOp2 powF
                      (eOp2 addF
                        (eOp2 addF (eOp2 addF (eVar 4) (eOp2 mulF (eC (D.int 7919)) (eVar 2)))
                          (eOp2 modF (eVar 3) (eC (D.int 65537))))
                        (eC (D.int 1)))
                      (eC (D.int 5)))
                    (eC (D.int 2305843009213693951))))
                (sSetIx 0 (eC (D.int 2)) (eOp2 addF (eOp2 mulF (eVar 4) (eC (D.int 2305843009213693951))) (eVar 5)))))
            sNop))) (.d (.int z)) (List.set S b (O.lst [D.loc c, D.int (at_ + 1), D.int left])) := by
      intro z
      simp! only [w_cut, w_ecut, hb, hc, e1, e2, List.set_set]
      refine ⟨cpow (by decide) (by decide) (by decide) (by decide), ?_⟩
      have := cell z
      have mix : ∀ m : Int, 0 ≤ m → m < 2147483647 → CPow (m + 7919 * at_ + z % 65537 + 1) 5 := fun m h1 h2 => cpow (by decide) (by decide) (by omega) (by omega)
      have f5 : ∀ m q : Int, 0 ≤ m → 0 ≤ q → 0 ≤ m * 2305843009213693951 + q := fun m q h1 h2 => by omega
      refine kOr_br (fun h => ?_) (fun h => ?_)
      · simp! only [w_cut, w_ecut, hb, hc, e1, e2, List.set_set]
        refine ⟨by decide, cmul_l (by decide) (by decide), cpow (by decide) (by decide) (by omega) (by omega), by decide, cmul_l (by decide) (by decide), by decide, ?_, by decide, cmul_r (by decide) (by decide), ?_⟩
        · have := cell ((z % 1000000007 + 998244353 * at_ + 12345) ^ Int.toNat 3)
          exact mix _ (by omega) (by omega)
        · exact fin _ _ (by omega) (by omega) (f5 _ _ (cell _).2.2.2.2.1 (cell _).2.2.2.2.2.2)
      · simp! only [w_cut, w_ecut, hb, hc, e1, e2, List.set_set]
        refine kIf_br (fun h => ?_) (fun h4 => ?_)
        · simp! only [w_cut, w_ecut, hb, hc, e1, e2, List.set_set]
          refine ⟨by decide, cmul_l (by decide) (by decide), cpow (by decide) (by decide) (by omega) (by omega), by decide, cmul_l (by decide) (by decide), by decide, ?_, by decide, cmul_r (by decide) (by decide), ?_⟩
          · have := cell ((z % 1000000007 + 998244353 * at_ + 12345) ^ Int.toNat 3)
            exact mix _ (by omega) (by omega)
          · exact fin _ _ (by omega) (by omega) (f5 _ _ (cell _).2.2.2.2.1 (cell _).2.2.2.2.2.2)
        · simp! only [w_cut, w_ecut, hb, hc, e1, e2, List.set_set]
          have h5 : ¬ z < 10 ^ Int.toNat 18 := of_decide_eq_false h
          have e : (10 : Int) ^ Int.toNat 18 = 1000000000000000000 := by decide
          rw [e] at h5
          exact fin _ _ (by omega) (by omega) (by omega)
    refine kEIf_br (fun h => ?_) (fun h => ?_)
    · have h : 0 < ((cells.map D.int).length : Int) := of_decide_eq_true h
      simp! only [w_cut, w_ecut, hb, hc, e1, e2, List.set_set]
      refine ⟨h, ?_⟩
      obtain ⟨a, e, _⟩ := atI_get (l := cells.map D.int) (i := at_ % ↑(cells.map D.int).length) (Int.emod_nonneg _ (by omega)) (Int.emod_lt_of_pos _ h)
      rw [e]
      rw [atI_map] at e
      cases z : atI cells (at_ % ↑(cells.map D.int).length) with
      | none => rw [z] at e; cases e
      | some y => rw [z] at e; cases e; exact tail y
    · simp only [w_C]
      exact tail 0
  · simp! only [w_cut, w_ecut, hb, hc, e1, e2, List.set_set]
    exact fin _ _ h1 (by omega) h3

theorem Same.trans {b : Nat} {S S1 S2 : Store} (h : Same b S S1) (k : Same b S1 S2) : Same b S S2 := ⟨k.1.trans h.1, fun j z => (k.2 j z).trans (h.2 j z)⟩
theorem Same.refl (b : Nat) (S : Store) : Same b S S := ⟨rfl, fun _ _ => rfl⟩
theorem Bag.mono {S : Store} {b n k : Nat} (h : Bag S b n) (hk : n ≤ k) : Bag S b k := by
  obtain ⟨c, cells, a, l, h1, h2, h3, h4, h5, h6⟩ := h
  exact ⟨c, cells, a, l, h1, h2, h3, h4, by omega, h6⟩
theorem Bag.lt {S : Store} {b n : Nat} (h : Bag S b n) : b < S.length := by
  obtain ⟨c, cells, a, l, h1, h2, h3, h4, h5, h6⟩ := h
  exact (List.getElem?_eq_some_iff.mp h1).1
theorem Bag.push {S : Store} {b n : Nat} (h : Bag S b n) (o : O) : Bag (S ++ [o]) b n := by
  obtain ⟨c, cells, a, l, h1, h2, h3, h4, h5, h6⟩ := h
  exact ⟨c, cells, a, l, st_old h1, st_old h2, h3, h4, h5, h6⟩
theorem bag_w {S : Store} {ns : List Int} {Q : RV → Store → Prop} {X : QX} (hl : ns.length ≤ sizeLine)
    (k : Bag (S ++ [.lst ((ns.take 63).map .int)] ++ [.lst [.loc S.length, .int 0, .int 0]]) (S.length + 1) 0 → Q (.l true [.loc S.length, .int 0, .int 0]) (S ++ [.lst ((ns.take 63).map .int)])) : WR (okR (m_l_bag [.d (.scr ns)] S)) Q X := by
  refine fun_w ?_
  unfold mb_l_bag
  have e : cutL ns none (some 63) = ns.take 63 := by
    unfold cutL HT.sIx
    simp
  simp! only [e]
  refine ⟨by decide, k ⟨S.length, ns.take 63, 0, 0, ?_, ?_, by omega, by omega, by omega, by omega⟩⟩
  · have : (S ++ [O.lst ((ns.take 63).map D.int)]).length = S.length + 1 := by simp
    rw [← this]
    exact st_new
  · exact st_old st_new
theorem bag0_w {ns : List Int} {i : Nat} {es : DM.Env} {E : En} {X : QX} (hl : ns.length ≤ 63) (k : ∀ S, Bag S 1 0 → S.length = 2 → E.nx (es.set i (.v (.loc 1))) S) : WR (okR (m_l_bag [.d (.scr ns)] [])) (kSetS i es E) X := by
  refine bag_w (Nat.le_trans hl (by decide)) fun hb => ?_
  exact k _ hb rfl
theorem law_of {m : MF} {ns : List Int} (h : WR (okR (m [.d (.scr ns)] [])) (fun r _ => r = .d (.bl true)) XF) : ∃ S', m [.d (.scr ns)] [] = .ok (.d (.bl true)) S' := by
  cases e : m [.d (.scr ns)] [] with
  | ok a S =>
    rw [e] at h
    cases a with
    | d x => exact ⟨S, by rw [(h : RV.d x = _)]⟩
    | l p x =>
      cases p with
      | true => exact absurd (h : RV.l true x = _) (by intro z; cases z)
      | false => exact h.elim
  | ex c p S => rw [e] at h; exact h.elim
  | bad => rw [e] at h; exact h.elim
theorem draws {S0 : Store} {b n u m vs : Nat} {es : DM.Env} {e : ME} {Q : RV → Store → Prop} {X : QX} {P : D → Prop} (hb : Bag S0 b n) (hn : n + u * m < 10 ^ 9) (hu : u ≤ sizeLine)
    (step : ∀ (j : Nat) (S : Store) (q : Nat), j < u → q + m < 10 ^ 9 → Bag S b q → Same b S0 S → WR (e ((wipeE es [vs]).set vs (.v (.int j))) S) (fun r S1 => ∃ x, r = .d x ∧ P x ∧ Bag S1 b (q + m) ∧ Same b S S1) XF)
    (fin : ∀ (ds : List D) S, ds.length = u → (∀ d ∈ ds, P d) → Bag S b (n + u * m) → Same b S0 S → Q (.l true ds) S) : kComp (tgName vs) bYes e [vs] es Q X (rngD u, fun _ => True) S0 := by
  refine comp_inv (fun j ys S => ys.length = j ∧ (∀ d ∈ ys, P d) ∧ Bag S b (n + j * m) ∧ Same b S0 S) (by rw [rngD_len]; exact hu) ⟨rfl, fun _ h => (nomatch h), by simpa using hb, Same.refl _ _⟩ (fun _ _ _ _ => trivial) (fun j x ys S hx h => ?_) (fun ys S h => ?_)
  · obtain ⟨rfl, hj⟩ := rngD_get hx
    obtain ⟨h1, h2, h3, h4⟩ := h
    refine ⟨_, rfl, ?_⟩
    refine ⟨fun _ => WR_mono (step j S (n + j * m) hj ?_ h3 h4) (fun r S1 h => ?_) fun _ _ _ h => h, fun h => by cases h⟩
    · have : (j + 1) * m ≤ u * m := Nat.mul_le_mul_right _ hj
      rw [Nat.succ_mul] at this
      omega
    · obtain ⟨x, rfl, px, b1, s1⟩ := h
      refine ⟨by simp [h1], fun d hd => ?_, ?_, h4.trans s1⟩
      · rcases List.mem_append.mp hd with hd | hd
        · exact h2 d hd
        · cases List.mem_singleton.mp hd; exact px
      · rw [Nat.succ_mul, ← Nat.add_assoc]; exact b1
  · rw [rngD_len] at h
    exact fin ys S h.1 h.2.1 h.2.2.1 h.2.2.2
def IsBox (m : Int) (d : D) : Prop := ∃ x : Int, d = .int x ∧ 0 ≤ x ∧ x < m
theorem boxes_of {m : Int} : ∀ {ds : List D}, (∀ d ∈ ds, IsBox m d) → ∃ row : List Int, ds = row.map .int ∧ row.length = ds.length ∧ ∀ x ∈ row, 0 ≤ x ∧ x < m
  | [], _ => ⟨[], rfl, rfl, fun _ h => (nomatch h)⟩
  | d :: ds, h => by
    obtain ⟨row, e, hl, hr⟩ := boxes_of fun d hd => h d (List.mem_cons_of_mem _ hd)
    obtain ⟨x, rfl, h1, h2⟩ := h d List.mem_cons_self
    exact ⟨x :: row, by rw [e]; rfl, by simp [hl], fun y hy => by
      rcases List.mem_cons.mp hy with rfl | hy
      · exact ⟨h1, h2⟩
      · exact hr y hy⟩
def RowOk (m : Int) (u : Nat) (row : List Int) : Prop := row.length = u ∧ ∀ x ∈ row, 0 ≤ x ∧ x < m
end

section
open PySem PySem.Spec L2 DM
theorem row_w {S : Store} {b n u : Nat} {m way : Int} {Q : RV → Store → Prop} {X : QX} (h : Bag S b n) (hn : n + u + 3 < 10^9) (h0 : 0 < m) (hm : m < 2^40) (hu : 1 ≤ u) (hu2 : u ≤ 100000)
    (k : ∀ row S', RowOk m u row → Bag S' b (n + u + 3) → Same b S S' → Q (.d (.tup (row.map .int))) S') : WR (okR (m_l_row [.d (.loc b), .d (.int m), .d (.int u), .d (.int way)] S)) Q X := by
  have hs : u ≤ sizeLine := by unfold sizeLine; omega
  have fin : ∀ {q : Nat} (ds : List D) (S' : Store), ds.length = u → (∀ d ∈ ds, IsBox m d) → q ≤ n + u + 3 → Bag S' b q → Same b S S' → Q (.d (.tup ds)) S' := fun ds S' hl hd hq hb hs => by
    obtain ⟨row, e, hl2, hr⟩ := boxes_of hd
    rw [e]
    exact k row S' ⟨by omega, hr⟩ (hb.mono hq) hs
  have modI : ∀ z : Int, IsBox m (.int (z % m)) := fun z => ⟨_, rfl, Int.emod_nonneg _ (by omega), Int.emod_lt_of_pos _ h0⟩
  refine fun_w ?_
  unfold mb_l_row
  walk_at "w"
  refine kIf_br (fun hw => ?_) (fun hw => ?_)
  · walk_at "w"
    refine pull_w h (by omega) h0 (by omega) fun x1 S1 x10 x1m b1 s1 => ?_
    walk_at "w"
    refine pull_w b1 (by omega) h0 (by omega) fun x2 S2 x20 x2m b2 s2 => ?_
    walk_at "w"
    refine ⟨by decide, ⟨by omega, by omega⟩, ?_⟩
    rw [Int.toNat_natCast]
    refine draws (m := 1) (P := IsBox m) b2 (by omega) hs (fun j S3 q hj hq b3 s3 => ?_) (fun ds S3 hl hd b3 s3 => ?_)
    · walk_at "w"
      refine pull_w b3 (by omega) (by decide) (by decide) fun y S4 y0 y2 b4 s4 => ?_
      walk_at "w"
      have : y = 0 ∨ y = 1 := by omega
      rcases this with rfl | rfl
      · walk_at "w"
        exact ⟨_, rfl, ⟨x1, rfl, x10, x1m⟩, b4, s4⟩
      · walk_at "w"
        exact ⟨_, rfl, ⟨x2, rfl, x20, x2m⟩, b4, s4⟩
    · walk_at "w"
      exact fin ds S3 hl hd (by omega) b3 ((s1.trans s2).trans s3)
  · walk_at "w"
    refine pull_w h (by omega) h0 (by omega) fun x1 S1 x10 x1m b1 s1 => ?_
    walk_at "w"
    refine kIf_br (fun hw => ?_) (fun hw => ?_)
    · walk_at "w"
      refine pull_w b1 (by omega) (by omega) (by omega) fun st S2 st0 st1 b2 s2 => ?_
      walk_at "w"
      refine ⟨⟨by omega, by omega⟩, ?_⟩
      rw [Int.toNat_natCast]
      refine draws (m := 0) (P := IsBox m) b2 (by omega) hs (fun j S3 q hj hq b3 s3 => ?_) (fun ds S3 hl hd b3 s3 => ?_)
      · walk_at "w"
        exact ⟨cdiv (by omega) (by omega), h0, _, rfl, modI _, b3, Same.refl _ _⟩
      · walk_at "w"
        exact fin ds S3 hl hd (by omega) b3 ((s1.trans s2).trans s3)
    · walk_at "w"
      refine kIf_br (fun hw => ?_) (fun hw => ?_)
      · walk_at "w"
        refine pull_w b1 (by omega) (by omega) (by omega) fun st S2 st0 st1 b2 s2 => ?_
        walk_at "w"
        refine ⟨⟨by omega, by omega⟩, ?_⟩
        rw [Int.toNat_natCast]
        refine draws (m := 0) (P := IsBox m) b2 (by omega) hs (fun j S3 q hj hq b3 s3 => ?_) (fun ds S3 hl hd b3 s3 => ?_)
        · walk_at "w"
          exact ⟨h0, _, rfl, modI _, b3, Same.refl _ _⟩
        · walk_at "w"
          exact fin ds S3 hl hd (by omega) b3 ((s1.trans s2).trans s3)
      · walk_at "w"
        refine ⟨⟨by omega, by omega⟩, ?_⟩
        rw [Int.toNat_natCast]
        refine draws (m := 1) (P := IsBox m) b1 (by omega) hs (fun j S3 q hj hq b3 s3 => ?_) (fun ds S3 hl hd b3 s3 => ?_)
        · walk_at "w"
          refine pull_w b3 (by omega) h0 (by omega) fun y S4 y0 y2 b4 s4 => ?_
          exact ⟨_, rfl, ⟨y, rfl, y0, y2⟩, b4, s4⟩
        · walk_at "w"
          exact fin ds S3 hl hd (by omega) b3 (s1.trans s3)
end

section
open PySem PySem.Spec L2 DM
def Plain : Nat → D → Prop
  | 0, _ => False
  | n + 1, .tup ds => ds.length ≤ sizeLine ∧ ∀ d ∈ ds, Plain n d
  | _ + 1, .non => True
  | _ + 1, .bl _ => True
  | _ + 1, .int _ => True
  | _ + 1, .str x => PyData.canLay0 (.str x) = true
  | _ + 1, _ => False
theorem eq_ss_self {S : Store} {x : Str} (h : PyData.canLay0 (.str x) = true) : eqF S (.d (.str x)) (.d (.str x)) = some (.d (.bl true)) := by
  have e : eqF S (.d (.str x)) (.d (.str x)) = if SeqAt.shaped (.str x) = true ∧ SeqAt.shaped (.str x) = true then some (OV.d (D.bl (PyData.eqv (.str x) (.str x)))) else none := rfl
  have sh : SeqAt.shaped (.str x) = true := by
    unfold SeqAt.shaped
    rw [h]
    simp [PyData.depth]
  rw [e, if_pos ⟨sh, sh⟩]
  have : PyData.eqv (.str x) (.str x) = true := by simp [PyData.eqv]
  rw [this]
def cnt (m : Nat) (row : List Int) : List Int := (List.range m).map fun (j : Nat) => ((row.count (j : Int) : Nat) : Int)
theorem cnt_len {m : Nat} {row : List Int} : (cnt m row).length = m := by simp [cnt]
theorem cnt_get {m j : Nat} {row : List Int} (h : j < m) : (cnt m row)[j]? = some ((row.count (j : Int) : Nat) : Int) := by
  unfold cnt
  rw [List.getElem?_map, List.getElem?_range h]
  rfl
theorem cnt_nil {m : Nat} : cnt m [] = List.replicate m 0 := by
  unfold cnt
  simp only [List.count_nil]
  induction m with
  | zero => rfl
  | succ m ih => rw [List.range_succ, List.map_append, ih, List.replicate_succ']; rfl
theorem cnt_snoc {m : Nat} {row : List Int} {x : Int} (h0 : 0 ≤ x) (hm : x < m) : cnt m (row ++ [x]) = (cnt m row).set x.toNat (((row.count x : Nat) : Int) + 1) := by
  apply List.ext_getElem?
  intro j
  by_cases hj : j < m
  · rw [cnt_get hj, List.getElem?_set, cnt_len]
    by_cases e : x.toNat = j
    · have ex : (j : Int) = x := by omega
      rw [if_pos e, if_pos (by omega), ex, List.count_append]
      simp
    · rw [if_neg e, cnt_get hj, List.count_append]
      have : List.count (j : Int) [x] = 0 := List.count_eq_zero.mpr (by simp; omega)
      rw [this]; rfl
  · rw [List.getElem?_eq_none (by rw [cnt_len]; omega), List.getElem?_eq_none (by rw [List.length_set, cnt_len]; omega)]
theorem le_line {n : Nat} (h : n ≤ 16777216) : n ≤ sizeLine := h
theorem set_get {T : Type} {l : List T} {k : Nat} {a : T} (h : l[k]? = some a) : l.set k a = l := by
  apply List.ext_getElem?
  intro j
  rw [List.getElem?_set]
  by_cases e : k = j
  · subst e
    have := (List.getElem?_eq_some_iff.mp h).1
    rw [if_pos rfl, if_pos this, h]
  · rw [if_neg e]
def c2 (n : Int) : Int := n * (n - 1) / 2
theorem c2_succ (n : Int) : c2 (n + 1) = c2 n + n := by
  unfold c2
  have : (n + 1) * (n + 1 - 1) = n * (n - 1) + n * 2 := by
    rw [Int.add_sub_cancel, Int.mul_sub, Int.add_mul, Int.mul_one, Int.one_mul]
    omega
  rw [this, Int.add_mul_ediv_right _ _ (by decide)]
theorem sum_set : ∀ (l : List Int) (j : Nat) (v a : Int), l[j]? = some a → (l.set j v).sum = l.sum - a + v
  | [], _, _, _, h => by simp at h
  | x :: l, 0, v, a, h => by
    simp at h
    subst h
    simp
    omega
  | x :: l, j + 1, v, a, h => by
    have := sum_set l j v a (by simpa using h)
    simp [this]
    omega
def met (row : List Int) (u : Nat) : Int := ((List.range u).map fun x => (((row.take x).count (row.getD x 0) : Nat) : Int)).sum
theorem met_succ (row : List Int) (u : Nat) : met row (u + 1) = met row u + ((row.take u).count (row.getD u 0) : Nat) := by
  unfold met
  rw [List.range_succ, List.map_append, List.sum_append]
  simp
theorem c2_cnt {m : Nat} {row : List Int} (h : ∀ x ∈ row, 0 ≤ x ∧ x < m) : ∀ t, t ≤ row.length → ((cnt m (row.take t)).map c2).sum = met row t
  | 0, _ => by
    rw [List.take_zero, cnt_nil]
    show _ = (0 : Int)
    clear h
    induction m with
    | zero => rfl
    | succ m ih => rw [List.replicate_succ, List.map_cons, List.sum_cons, ih]; rfl
  | t + 1, ht => by
    have hz : row[t]? = some row[t] := List.getElem?_eq_getElem (by omega)
    obtain ⟨z0, zm⟩ := h row[t] (List.getElem_mem _)
    rw [List.take_succ, hz]
    show ((cnt m (row.take t ++ [row[t]])).map c2).sum = _
    rw [cnt_snoc z0 zm, List.map_set, sum_set _ _ _ (c2 ((row.take t).count row[t] : Nat)), c2_cnt h t (by omega), met_succ, c2_succ]
    · have : row.getD t 0 = row[t] := by rw [List.getD_eq_getElem?_getD, hz]; rfl
      rw [this]
      omega
    · rw [List.getElem?_map, cnt_get (by omega)]
      have : ((row[t].toNat : Nat) : Int) = row[t] := by omega
      rw [this]; rfl
end

section
open PySem PySem.Spec L2 DM
theorem mapM_some {f : D → Option PyData} : ∀ {ds : List D} {R : PyData → Prop}, (∀ d ∈ ds, ∃ p, f d = some p ∧ R p) → ∃ ps, ds.mapM f = some ps ∧ ∀ p ∈ ps, R p
  | [], _, _ => ⟨[], rfl, fun _ h => (nomatch h)⟩
  | d :: ds, R, h => by
    obtain ⟨p, e, r⟩ := h d List.mem_cons_self
    obtain ⟨ps, e2, r2⟩ := mapM_some (R := R) fun d hd => h d (List.mem_cons_of_mem _ hd)
    refine ⟨p :: ps, ?_, fun q hq => ?_⟩
    · rw [List.mapM_cons, e, e2]; rfl
    · rcases List.mem_cons.mp hq with rfl | hq
      · exact r
      · exact r2 q hq
theorem lay_all : ∀ {ps : List PyData}, (∀ p ∈ ps, p.canLay0 = true) → PyData.canLayAll0 ps = true
  | [], _ => rfl
  | p :: ps, h => by
    show (p.canLay0 && PyData.canLayAll0 ps) = true
    rw [h p List.mem_cons_self, lay_all fun q hq => h q (List.mem_cons_of_mem _ hq)]
    rfl
theorem depth_all {k : Nat} : ∀ {ps : List PyData}, (∀ p ∈ ps, p.depth ≤ k) → PyData.depthAll ps ≤ k
  | [], _ => Nat.zero_le _
  | p :: ps, h => by
    show max p.depth (PyData.depthAll ps) ≤ k
    exact Nat.max_le.mpr ⟨h p List.mem_cons_self, depth_all fun q hq => h q (List.mem_cons_of_mem _ hq)⟩
theorem plain_py {S : Store} : ∀ (k n : Nat) (d : D), Plain k d → k ≤ n → ∃ p, pyD n S d = some p ∧ p.canLay0 = true ∧ p.depth ≤ k
  | 0, _, _, h, _ => h.elim
  | k + 1, 0, _, _, h => absurd h (by omega)
  | k + 1, n + 1, .non, _, _ => ⟨.none, rfl, rfl, Nat.zero_le _⟩
  | k + 1, n + 1, .bl b, _, _ => ⟨.bool b, rfl, rfl, Nat.zero_le _⟩
  | k + 1, n + 1, .int i, _, _ => ⟨.int i, rfl, rfl, Nat.zero_le _⟩
  | k + 1, n + 1, .str x, h, _ => ⟨.str x, rfl, h, Nat.zero_le _⟩
  | k + 1, n + 1, .tup ds, h, hn => by
    obtain ⟨ps, e, r⟩ := mapM_some (f := pyD n S) (ds := ds) (R := fun p => p.canLay0 = true ∧ p.depth ≤ k) fun d hd => by
      obtain ⟨p, e, h1, h2⟩ := plain_py k n d (h.2 d hd) (by omega)
      exact ⟨p, e, h1, h2⟩
    refine ⟨.tuple ps, ?_, ?_, ?_⟩
    · show (ds.mapM (pyD n S)).map PyData.tuple = _
      rw [e]; rfl
    · show PyData.canLayAll0 ps = true
      exact lay_all fun p hp => (r p hp).1
    · have := depth_all fun p hp => (r p hp).2
      show PyData.depthAll ps + 1 ≤ k + 1
      omega
theorem eq_self {S : Store} {k : Nat} {d : D} (h : Plain k d) (hk : k ≤ 60) : eqF S (.d d) (.d d) = some (.d (.bl true)) ∧ neF S (.d d) (.d d) = some (.d (.bl false)) := by
  obtain ⟨p, e, h1, h2⟩ := plain_py (S := S) k 64 d h (by omega)
  have sh : SeqAt.shaped p = true := by
    unfold SeqAt.shaped
    rw [h1]
    exact decide_eq_true (by omega)
  have er : PyData.eqv p p = true := SeqAt.eqv_refl p h1
  have e' : pyR S (.d d) = some p := e
  constructor
  · unfold eqF
    rw [e']
    show (if SeqAt.shaped p = true ∧ SeqAt.shaped p = true then _ else _) = _
    rw [if_pos ⟨sh, sh⟩, er]
  · unfold neF
    rw [e']
    show (if SeqAt.shaped p = true ∧ SeqAt.shaped p = true then _ else _) = _
    rw [if_pos ⟨sh, sh⟩, er]
    rfl
theorem Plain.mono : ∀ {k n : Nat} {d : D}, Plain k d → k ≤ n → Plain n d
  | 0, _, _, h, _ => h.elim
  | k + 1, 0, _, _, hn => absurd hn (by omega)
  | k + 1, n + 1, .tup ds, h, hn => ⟨h.1, fun d hd => Plain.mono (h.2 d hd) (by omega)⟩
  | k + 1, n + 1, .non, _, _ => trivial
  | k + 1, n + 1, .bl _, _, _ => trivial
  | k + 1, n + 1, .int _, _, _ => trivial
  | k + 1, n + 1, .str _, h, _ => h
  | k + 1, n + 1, .loc _, h, _ => h.elim
  | k + 1, n + 1, .ty _, h, _ => h.elim
  | k + 1, n + 1, .cls _, h, _ => h.elim
  | k + 1, n + 1, .fn _, h, _ => h.elim
  | k + 1, n + 1, .exn _ _, h, _ => h.elim
  | k + 1, n + 1, .scr _, h, _ => h.elim
end

section
open PySem PySem.Spec L2 DM
def PrimeI (n : Int) : Prop := 2 ≤ n ∧ ∀ d : Int, 2 ≤ d → d * d ≤ n → n % d ≠ 0
theorem sq_mono {a b : Int} (h0 : 0 ≤ a) (h : a ≤ b) : a * a ≤ b * b := Int.mul_le_mul h h h0 (by omega)
open Classical in
theorem prime_w {n : Int} {S : Store} (h : n < 10 ^ 18) : m_is_prime [.d (.int n)] S = .ok (.d (.bl (decide (PrimeI n)))) S := by
  refine eq_of (fun_w ?_)
  unfold mb_is_prime
  walk_at "w"
  refine kIf_br (fun h1 => ?_) (fun h1 => ?_)
  · have h1 : n < 2 := of_decide_eq_true h1
    walk_at "w"
    rw [decide_eq_false (fun z : PrimeI n => by have := z.1; omega)]
  · have h1 : ¬ n < 2 := of_decide_eq_false h1
    walk_at "w"
    refine while_inv (fun k es S' => S' = S ∧ ∃ b : Int, es = [.v (.int n), .v (.int b)] ∧ 2 ≤ b ∧ b ≤ 1000000001 ∧ (∀ d, 2 ≤ d → d < b → n % d ≠ 0) ∧ k = (1000000001 - b).toNat) (fun k es S' hI => ?_) _ 999999999 _ _ ⟨rfl, 2, rfl, by omega, by omega, fun d h1 h2 => by omega, by decide⟩ (by omega)
    obtain ⟨rfl, b, rfl, b2, bm, hd, rfl⟩ := hI
    walk_at "w"
    refine ⟨cmul_l (by omega) (by omega), fun hle => ?_, fun hle => ?_⟩
    · have hle : b * b ≤ n := of_decide_eq_true hle
      have hb9 : b ≤ 1000000000 := by
        rcases Int.lt_or_le 1000000000 b with z | z
        · have := sq_mono (a := 1000000001) (b := b) (by omega) (by omega)
          omega
        · exact z
      try walk_at "w"
      refine ⟨by omega, ?_⟩
      refine kIf_br (fun h3 => ?_) (fun h3 => ?_)
      · have h3 : n % b = 0 := of_decide_eq_true h3
        walk_at "w"
        rw [decide_eq_false (fun z : PrimeI n => z.2 b b2 hle h3)]
      · have h3 : ¬ n % b = 0 := of_decide_eq_false h3
        walk_at "w"
        refine ⟨_, ?_, b + 1, rfl, by omega, by omega, fun d d2 db => ?_, rfl⟩
        · omega
        · by_cases z : d = b
          · rw [z]; exact h3
          · exact hd d d2 (by omega)
    · have hle : ¬ b * b ≤ n := of_decide_eq_false hle
      try walk_at "w"
      rw [decide_eq_true (show PrimeI n from ⟨by omega, fun d d2 dn => hd d d2 (by
        rcases Int.lt_or_le d b with z | z
        · exact z
        · have := sq_mono (a := b) (b := d) (by omega) z
          omega)⟩)]
open Classical in
theorem need_prime_ok {n : Int} {S : Store} (h : n < 10 ^ 18) (p : PrimeI n) : m_need_prime [.d (.int n)] S = .ok (.d .non) S := by
  refine eq_of (fun_w ?_)
  unfold mb_need_prime
  walk_at "w"
  rw [prime_w h, decide_eq_true p]
  walk_at "w"
theorem ex_of {f : Res RV} {c : Nat} {p : List D} {S' : Store} (h : WR (okR f) (fun _ _ => False) (fun c' p' S1 => c' = c ∧ p' = p ∧ S1 = S')) : f = .ex c p S' := by
  cases f with
  | ok a S1 =>
    cases a with
    | d x => exact h.elim
    | l q x =>
      cases q with
      | true => exact h.elim
      | false => exact h.elim
  | ex _ _ _ => obtain ⟨rfl, rfl, rfl⟩ := h; rfl
  | bad => exact h.elim
theorem need_room_ok {n : Int} {S : Store} (h : n ≤ 600) : m_need_room [.d (.int n)] S = .ok (.d .non) S := by
  refine eq_of (fun_w ?_)
  unfold mb_need_room
  walk_at "w"
  have : decide (600 < n) = false := decide_eq_false (by omega)
  simp! only [this]
def primeB (n : Nat) : Bool := decide (2 ≤ n) && (List.range 1000).all fun d => decide (d < 2) || n % d != 0 || decide (n < d * d)
theorem primeI_of {n : Nat} (h : primeB n = true) (hn : n < 1000000) : PrimeI n := by
  unfold primeB at h
  rw [Bool.and_eq_true] at h
  obtain ⟨h1, h2⟩ := h
  refine ⟨by have := of_decide_eq_true h1; omega, fun d d2 dn z => ?_⟩
  have hd : d < 1000 := by
    rcases Int.lt_or_le d 1000 with z | z
    · exact z
    · have := sq_mono (a := 1000) (b := d) (by omega) z
      omega
  obtain ⟨e, rfl⟩ : ∃ e : Nat, d = e := ⟨d.toNat, by omega⟩
  have := List.all_eq_true.mp h2 e (List.mem_range.mpr (by omega))
  simp only [Bool.or_eq_true, decide_eq_true_eq, bne_iff_ne, ne_eq] at this
  have z' : n % e = 0 := by exact_mod_cast z
  have dn' : e * e ≤ n := by exact_mod_cast dn
  omega
def kindS (c : Nat) : Str := match c with
  | 1 => "few"
  | 2 => "many"
  | 3 => "prime"
  | 4 => "thing"
  | 5 => "row"
  | _ => "text"
end

section
open PySem PySem.Spec L2 DM
theorem ret_ok {f : Res RV} {Q : RV → Store → Prop} {X : QX} {es : DM.Env} {E : En} (h : WR (okR f) Q X) (h1 : ∀ x S, Q (.d x) S → E.rt (.d x) S) (h2 : ∀ x S, Q (.l true x) S → E.rt (.l true x) S) (h3 : ∀ c p S, X c p S → E.ex c p es S) : WR (okR f) (kRet E) (kX es E) := by
  cases f with
  | ok a S =>
    cases a with
    | d x => exact h1 _ _ h
    | l p x =>
      cases p with
      | true => exact h2 _ _ h
      | false => exact h.elim
  | ex c p S => exact h3 _ _ _ h
  | bad => exact h.elim
theorem call_w {tbl : Nat → MF} {n : Nat} {S : Store} {Q : RV → Store → Prop} {X : QX} (as : List D) (h1 : 1 ≤ as.length) (h4 : as.length ≤ 4) (h : WR (okR (tbl n (as.map RV.d) S)) Q X) : WR (okR (m_l_call tbl [.d (.fn n), .d (.tup as)] S)) Q X := by
  refine fun_w ?_
  unfold mb_l_call
  match as, h1, h4, h with
  | [a], _, _, h =>
    walk_at "w"
    refine kIf_br (fun _ => ?_) (fun z => absurd z (by decide))
    walk_at "w"
    exact ret_ok h (fun _ _ q => q) (fun _ _ q => q) fun _ _ _ q => q
  | [a, b], _, _, h =>
    walk_at "w"
    refine kIf_br (fun z => absurd z (by decide)) (fun _ => ?_)
    walk_at "w"
    refine kIf_br (fun _ => ?_) (fun z => absurd z (by decide))
    walk_at "w"
    exact ret_ok h (fun _ _ q => q) (fun _ _ q => q) fun _ _ _ q => q
  | [a, b, c], _, _, h =>
    walk_at "w"
    refine kIf_br (fun z => absurd z (by decide)) (fun _ => ?_)
    walk_at "w"
    refine kIf_br (fun z => absurd z (by decide)) (fun _ => ?_)
    walk_at "w"
    refine kIf_br (fun _ => ?_) (fun z => absurd z (by decide))
    walk_at "w"
    exact ret_ok h (fun _ _ q => q) (fun _ _ q => q) fun _ _ _ q => q
  | [a, b, c, d], _, _, h =>
    walk_at "w"
    refine kIf_br (fun z => absurd z (by decide)) (fun _ => ?_)
    walk_at "w"
    refine kIf_br (fun z => absurd z (by decide)) (fun _ => ?_)
    walk_at "w"
    refine kIf_br (fun z => absurd z (by decide)) (fun _ => ?_)
    walk_at "w"
    exact ret_ok h (fun _ _ q => q) (fun _ _ q => q) fun _ _ _ q => q
theorem refused_w {tbl : Nat → MF} {n k : Nat} {S S' : Store} (as : List D) (h1 : 1 ≤ as.length) (h4 : as.length ≤ 4) (k1 : 1 ≤ k) (k5 : k ≤ 5) (h : tbl n (as.map RV.d) S = .ex k [] S') :
    m_l_refused tbl [.d (.fn n), .d (.tup as)] S = .ok (.d (.str (kindS k))) S' := by
  refine eq_of (fun_w ?_)
  unfold mb_l_refused
  walk_at "w"
  refine call_w as h1 h4 ?_
  rw [h]
  walk_at "w"
  have e : ∀ j, j ≤ 6 → isxF S' [.d (.exn k []), .d (.cls j)] = some (.d (.bl (subX k j))) := fun j hj => isx_c ⟨k1, k5, hj⟩
  have ev : isxF S' [.d (.exn k []), .d (.ty "ValueError")] = some (.d (.bl true)) := isx_v ⟨k1, k5⟩
  simp! only [e 1 (by omega), e 2 (by omega), e 3 (by omega), e 4 (by omega), e 5 (by omega), e 6 (by omega), ev, List.cons_append, List.nil_append]
  have hc : cntF S' (.l false [D.bl (subX k 1), D.bl (subX k 2), D.bl (subX k 3), D.bl (subX k 4), D.bl (subX k 5), D.bl (subX k 6)]) [.d (.bl true)] = some (.d (.int 1)) ∧ idxF S' (.l false [D.bl (subX k 1), D.bl (subX k 2), D.bl (subX k 3), D.bl (subX k 4), D.bl (subX k 5), D.bl (subX k 6)]) [.d (.bl true)] = some (.d (.int ((k - 1 : Nat) : Int))) := by
    have : k = 1 ∨ k = 2 ∨ k = 3 ∨ k = 4 ∨ k = 5 := by omega
    rcases this with rfl | rfl | rfl | rfl | rfl <;> exact ⟨rfl, rfl⟩
  have d11 : decide ((1 : Int) = 1) = true := rfl
  simp! only [hc.1, hc.2, ev, d11]
  refine ⟨le_line (by omega), le_line (by omega), le_line (by omega), le_line (by omega), ?_⟩
  have : k = 1 ∨ k = 2 ∨ k = 3 ∨ k = 4 ∨ k = 5 := by omega
  rcases this with rfl | rfl | rfl | rfl | rfl <;> exact ⟨rfl, rfl⟩
theorem kind_lay (k : Nat) : PyData.canLay0 (.str (kindS k)) = true := by
  unfold kindS
  split <;> decide +kernel
end

section
open PySem PySem.Spec L2 DM
end

section
open PySem PySem.Spec L2 DM
def gcdI (a b : Int) : Int := (Nat.gcd a.toNat b.toNat : Nat)
theorem gcd_step {a b : Int} (ha : 0 ≤ a) (hb : 0 < b) : gcdI b (a % b) = gcdI a b := by
  unfold gcdI
  have e : (a % b).toNat = a.toNat % b.toNat := by
    obtain ⟨x, rfl⟩ : ∃ x : Nat, a = x := ⟨a.toNat, by omega⟩
    obtain ⟨y, rfl⟩ : ∃ y : Nat, b = y := ⟨b.toNat, by omega⟩
    rfl
  rw [e, Nat.gcd_comm a.toNat, Nat.gcd_rec b.toNat a.toNat, Nat.gcd_comm b.toNat]
theorem gcd_zero {a : Int} (ha : 0 ≤ a) : gcdI a 0 = a := by
  unfold gcdI
  show ((Nat.gcd a.toNat 0 : Nat) : Int) = a
  rw [Nat.gcd_zero_right]
  omega
theorem gcd_pos {a b : Int} (h : 0 < a ∨ 0 < b) : 0 < gcdI a b := by
  unfold gcdI
  have : 0 < Nat.gcd a.toNat b.toNat := by
    rcases h with h | h
    · exact Nat.gcd_pos_of_pos_left _ (by omega)
    · exact Nat.gcd_pos_of_pos_right _ (by omega)
  omega
theorem gcd_le {a b : Int} (hb : 0 < b) : gcdI a b ≤ b := by
  unfold gcdI
  have := Nat.gcd_le_right a.toNat (show 0 < b.toNat by omega)
  omega
theorem common_w {a b : Int} {S : Store} (ha : 0 ≤ a) (hb : 0 ≤ b) (h : b < 10 ^ 39) : m_common [.d (.int a), .d (.int b)] S = .ok (.d (.int (gcdI a b))) S := by
  refine eq_of (fun_w ?_)
  unfold mb_common
  walk_at "w"
  refine while_inv (fun k es S' => S' = S ∧ ∃ x y : Int, es = [.v (.int x), .v (.int y)] ∧ 0 ≤ x ∧ 0 ≤ y ∧ y < 10 ^ 39 ∧ gcdI x y = gcdI a b ∧ k = y.toNat) (fun k es S' hI => ?_) _ b.toNat _ _ ⟨rfl, a, b, rfl, ha, hb, h, rfl, rfl⟩ (by omega)
  obtain ⟨rfl, x, y, rfl, x0, y0, ym, hg, rfl⟩ := hI
  walk_at "w"
  refine ⟨fun hle => ?_, fun hle => ?_⟩
  · have hle : 0 < y := of_decide_eq_true hle
    have h1 := Int.emod_nonneg x (show y ≠ 0 by omega)
    have h2 := Int.emod_lt_of_pos x hle
    try walk_at "w"
    exact ⟨hle, _, by omega, y, x % y, rfl, y0, h1, by omega, by rw [gcd_step x0 hle]; exact hg, rfl⟩
  · have hle : ¬ 0 < y := of_decide_eq_false hle
    have : y = 0 := by omega
    subst this
    rw [gcd_zero x0] at hg
    try walk_at "w"
    rw [hg]
def lowT (a b : Int) : D := .tup [.int (a / gcdI a b), .int (b / gcdI a b)]
theorem part_of_w {a b : Int} {S : Store} (ha : 0 ≤ a) (hb : 0 < b) (h : b < 2 ^ 64) : m_part_of [.d (.int a), .d (.int b)] S = .ok (.d (lowT a b)) S := by
  have g0 := gcd_pos (a := a) (b := b) (.inr hb)
  have g1 := gcd_le (a := a) hb
  refine eq_of (fun_w ?_)
  unfold mb_part_of
  walk_at "w"
  rw [common_w ha (by omega) (by omega)]
  walk_at "w"
  exact ⟨cdiv g0 (by omega), cdiv g0 (by omega), le_line (by omega), rfl⟩
def leastI (u m : Int) : Int := u % m * c2 (u / m + 1) + (m - u % m) * c2 (u / m)
theorem choose2_w (many : Int) (S : Store) (hm : -(2 ^ 63) < many) (hm2 : many < 2 ^ 63) : m_choose [.d (.int many), .d (.int 2)] S = .ok (.d (.int (c2 many))) S := by
  refine eq_of (fun_w ?_)
  unfold mb_choose
  walk_at "w"
  refine ⟨by decide, ?_⟩
  have e : rngD (Int.toNat 2) = [.int 0, .int 1] := rfl
  rw [e, kFor_e]
  simp! only [for_cons, for_nil]
  have e1 : 1 * (many - 0) / (0 + 1) = many := by omega
  rw [e1]
  exact ⟨cmul_l (by decide) (by decide), cdiv (by decide) (by decide), cmul_l (by omega) (by omega), cdiv (by decide) (by decide), rfl⟩
theorem least_together_w {u m : Int} {S : Store} (hu : 2 ≤ u) (hu2 : u < 2 ^ 62) (hm : 1 ≤ m) (hm2 : m < 2 ^ 62) : m_least_together [.d (.int u), .d (.int m)] S = .ok (.d (.int (leastI u m))) S := by
  have h1 := Int.emod_nonneg u (show m ≠ 0 by omega)
  have h2 := Int.emod_lt_of_pos u (show 0 < m by omega)
  have h3 : 0 ≤ u / m := Int.ediv_nonneg (by omega) (by omega)
  have h4 : u / m ≤ u := Int.ediv_le_self _ (by omega)
  refine eq_of (fun_w ?_)
  unfold mb_least_together
  walk_at "w"
  have d : decide (u < 2) = false := decide_eq_false (by omega)
  simp! only [d]
  refine ⟨cdiv (by omega) (by omega), by omega, ?_⟩
  rw [choose2_w _ S (by omega) (by omega)]
  walk_at "w"
  refine ⟨cmul_l (by omega) (by omega), ?_⟩
  rw [choose2_w _ S (by omega) (by omega)]
  walk_at "w"
  exact ⟨cmul_l (by omega) (by omega), rfl⟩
end

section
open PySem PySem.Spec L2 DM
theorem c2_nonneg {q : Int} (h : 0 ≤ q) : 0 ≤ c2 q := by
  unfold c2
  rcases Int.lt_or_le 0 q with z | z
  · exact Int.ediv_nonneg (Int.mul_nonneg h (by omega)) (by omega)
  · have : q = 0 := by omega
    subst this
    decide
theorem least_nonneg {u m : Int} (hu : 0 ≤ u) (hm : 1 ≤ m) : 0 ≤ leastI u m := by
  have h1 := Int.emod_nonneg u (show m ≠ 0 by omega)
  have h2 := Int.emod_lt_of_pos u (show 0 < m by omega)
  have h3 : 0 ≤ u / m := Int.ediv_nonneg hu (by omega)
  unfold leastI
  have a := Int.mul_nonneg h1 (c2_nonneg (q := u / m + 1) (by omega))
  have b := Int.mul_nonneg (show 0 ≤ m - u % m by omega) (c2_nonneg h3)
  omega
theorem c2_two (q : Int) : 2 * c2 q = q * (q - 1) := by
  unfold c2
  have : q * (q - 1) % 2 = 0 := by
    rcases Int.emod_two_eq q with h | h
    · rw [Int.mul_emod, h]; simp
    · have : (q - 1) % 2 = 0 := by omega
      rw [Int.mul_emod, this]; simp
  omega
theorem c2_tangent (l q : Int) : q * l - c2 (q + 1) ≤ c2 l := by
  have h1 := c2_two l
  have h2 := c2_two (q + 1)
  have h3 : 0 ≤ (l - q) * (l - q - 1) := by
    rcases Int.lt_or_le (l - q) 1 with z | z
    · have := Int.mul_nonneg (show 0 ≤ -(l - q) by omega) (show 0 ≤ -(l - q - 1) by omega)
      rw [Int.neg_mul_neg] at this
      exact this
    · exact Int.mul_nonneg (by omega) (by omega)
  have e : (l - q) * (l - q - 1) = l * (l - 1) - 2 * (q * l) + (q + 1) * (q + 1 - 1) := by
    simp only [Int.mul_add, Int.mul_sub, Int.add_mul, Int.sub_mul, Int.one_mul, Int.mul_one, Int.mul_comm l q]
    omega
  omega
theorem sum_tangent (q : Int) : ∀ ls : List Int, q * ls.sum - ls.length * c2 (q + 1) ≤ (ls.map c2).sum
  | [] => by simp
  | l :: ls => by
    have h1 := c2_tangent l q
    have h2 := sum_tangent q ls
    simp only [List.sum_cons, List.map_cons, List.length_cons, Int.mul_add, Int.natCast_add, Int.add_mul, Int.natCast_one, Int.one_mul]
    omega
theorem least_le {m : Nat} {ls : List Int} (hm : 1 ≤ m) (hl : ls.length = m) (h0 : 0 ≤ ls.sum) : leastI ls.sum m ≤ (ls.map c2).sum := by
  have h := sum_tangent (ls.sum / (m : Int)) ls
  have h3 := Int.emod_add_mul_ediv ls.sum m
  rw [hl] at h
  have e : leastI ls.sum m = ls.sum / (m : Int) * ls.sum - m * c2 (ls.sum / (m : Int) + 1) := by
    unfold leastI
    generalize ls.sum % (m : Int) = r at *
    generalize ls.sum / (m : Int) = q at *
    rw [← h3, c2_succ]
    have h2 := c2_two q
    have h4 : (m : Int) * (2 * c2 q) = m * (q * (q - 1)) := by rw [h2]
    simp only [Int.mul_add, Int.mul_sub, Int.add_mul, Int.sub_mul, Int.one_mul, Int.mul_one] at h4 ⊢
    have e1 : q * r = r * q := Int.mul_comm _ _
    have e2 : q * ((m : Int) * q) = m * (q * q) := by rw [← Int.mul_assoc, Int.mul_comm q m, Int.mul_assoc]
    have e3 : (m : Int) * (2 * c2 q) = 2 * (m * c2 q) := by rw [← Int.mul_assoc, Int.mul_comm (m : Int) 2, Int.mul_assoc]
    omega
  omega
end

section
open PySem PySem.Spec L2 DM
def dealt (m x : Nat) : List Int := (List.range m).map fun (j : Nat) => ((x / m : Nat) : Int) + if j < x % m then 1 else 0
theorem sum_cnt {m : Nat} {row : List Int} (h : ∀ x ∈ row, 0 ≤ x ∧ x < m) : ∀ t, t ≤ row.length → (cnt m (row.take t)).sum = t
  | 0, _ => by
    rw [List.take_zero, cnt_nil]
    clear h
    induction m with
    | zero => rfl
    | succ m ih => rw [List.replicate_succ, List.sum_cons, ih]; rfl
  | t + 1, ht => by
    have hz : row[t]? = some row[t] := List.getElem?_eq_getElem (by omega)
    obtain ⟨z0, zm⟩ := h row[t] (List.getElem_mem _)
    rw [List.take_succ, hz]
    show (cnt m (row.take t ++ [row[t]])).sum = _
    rw [cnt_snoc z0 zm, sum_set _ _ _ (((row.take t).count row[t] : Nat) : Int), sum_cnt h t (by omega)]
    · omega
    · rw [cnt_get (by omega)]
      have : ((row[t].toNat : Nat) : Int) = row[t] := by omega
      rw [this]
theorem met_least {m : Nat} {u : Nat} {row : List Int} (hm : 1 ≤ m) (hr : RowOk m u row) : leastI u m ≤ met row u := by
  have h1 := sum_cnt (m := m) (row := row) hr.2 u (by rw [hr.1]; exact Nat.le_refl _)
  have h2 := c2_cnt (m := m) (row := row) hr.2 u (by rw [hr.1]; exact Nat.le_refl _)
  have h3 := least_le (m := m) (ls := cnt m (row.take u)) hm cnt_len (by rw [h1]; omega)
  rw [h1, h2] at h3
  exact h3
theorem least_share_w {u m : Int} {S : Store} (hu : 2 ≤ u) (hu2 : u ≤ 2000000000) (hm : 1 ≤ m) (hm2 : m < 2 ^ 62) : m_least_share [.d (.int u), .d (.int m)] S = .ok (.d (lowT (leastI u m) (c2 u))) S := by
  have hc : 0 < c2 u ∧ c2 u < 2 ^ 64 := by
    have h2 := c2_two u
    have h3 : 2 * 1 ≤ u * (u - 1) := Int.mul_le_mul hu (by omega) (by omega) (by omega)
    have h4 : u * (u - 1) ≤ 2000000000 * 2000000000 := Int.mul_le_mul hu2 (by omega) (by omega) (by omega)
    omega
  refine eq_of (fun_w ?_)
  unfold mb_least_share
  walk_at "w"
  rw [least_together_w hu (by omega) hm hm2]
  walk_at "w"
  rw [choose2_w _ S (by omega) (by omega)]
  walk_at "w"
  rw [part_of_w (least_nonneg (by omega) hm) hc.1 hc.2]
  walk_at "w"
end

section
open PySem PySem.Spec L2 DM
abbrev rowL (s : List Int) : D := .tup (s.map .int)
abbrev bookD (m : Int) (rows : List (List Int)) : D := .tup [.int m, .tup (rows.map rowL)]
structure BookOk (m : Int) (u : Nat) (rows : List (List Int)) : Prop where
  ne : rows ≠ []
  ok : ∀ r ∈ rows, RowOk m u r
theorem book_w {S : Store} {b n : Nat} (N : Nat) {bx th rs : Int} {Q : RV → Store → Prop} {X : QX} (h : Bag S b n) (hb0 : 0 < bx) (hb : bx < 2 ^ 39) (ht0 : 0 < th) (ht : th ≤ 10000) (hr0 : 0 < rs) (hr : rs ≤ 10000) (hN : rs.toNat * (th.toNat + 10) ≤ N) (hn : n + 20 + N < 10 ^ 9)
    (k : ∀ (m : Int) (u : Nat) rows S', 1 ≤ m → m ≤ bx → 1 ≤ u → (u : Int) ≤ th → (rows.length : Int) ≤ rs → BookOk m u rows → Bag S' b (n + 20 + N) → Same b S S' → Q (.d (bookD m rows)) S') :
    WR (okR (m_l_book [.d (.loc b), .d (.int bx), .d (.int th), .d (.int rs)] S)) Q X := by
  obtain ⟨K, hK⟩ : ∃ K, K = th.toNat + 10 := ⟨_, rfl⟩
  rw [← hK] at hN
  have hrK : rs.toNat * K ≤ 10 ^ 9 := by omega
  refine fun_w ?_
  unfold mb_l_book
  walk_at "w"
  refine pull_w h (by omega) hb0 (by omega) fun m0 S1 m00 m0b b1 s1 => ?_
  walk_at "w"
  refine pull_w b1 (by omega) ht0 (by omega) fun u0 S2 u00 u0t b2 s2 => ?_
  walk_at "w"
  refine ⟨le_line (by omega), ?_⟩
  refine pull_w b2 (by omega) hr0 (by omega) fun r0 S3 r00 r0r b3 s3 => ?_
  walk_at "w"
  refine ⟨⟨by omega, by omega⟩, ?_⟩
  obtain ⟨u, hu⟩ : ∃ u : Nat, (u : Int) = 1 + u0 := ⟨(1 + u0).toNat, by omega⟩
  rw [← hu]
  refine for_inv (fun i es S' => (∃ rows s7 s8, es = [.v (.loc b), .v (.int bx), .v (.int th), .v (.int rs), .v (.int (1 + m0)), .v (.int u), .own (rows.map rowL), s7, s8] ∧ rows.length = i ∧ ∀ r ∈ rows, RowOk (1 + m0) u r) ∧ Bag S' b (n + 10 + i * K) ∧ Same b S3 S') ⟨⟨[], _, _, rfl, rfl, fun _ h => nomatch h⟩, b3.mono (by omega), Same.refl _ _⟩ (fun _ _ _ _ => trivial) (fun i x es S' hx h => ?_) (fun es S' h => ?_)
  · obtain ⟨rfl, hi⟩ := rngD_get hx
    obtain ⟨⟨rows, s7, s8, rfl, hl, hrows⟩, b4, s4⟩ := h
    refine ⟨_, rfl, ?_⟩
    have hi2 : i < 10000 := by omega
    have hm : i * K + K ≤ rs.toNat * K := by
      have := Nat.mul_le_mul_right K (show i + 1 ≤ rs.toNat by omega)
      rw [Nat.succ_mul] at this
      exact this
    walk_at "w"
    refine pull_w b4 (by omega) (by omega) (by omega) fun way S5 way0 way6 b5 s5 => ?_
    have drawn : ∀ (S6 : Store) (row : List Int), RowOk (1 + m0) u row → Bag S6 b (n + 10 + i * K + 1 + u + 3) → Same b S5 S6 → ∃ rows' : List (List Int), (rows.map rowL ++ [D.tup (row.map .int)]) = rows'.map rowL ∧ rows'.length = i + 1 ∧ (∀ r ∈ rows', RowOk (1 + m0) u r) ∧ Bag S6 b (n + 10 + (i + 1) * K) ∧ Same b S3 S6 := by
      intro S6 row hr b6 s6
      refine ⟨rows ++ [row], by rw [List.map_append]; rfl, by simp [hl], fun r hr' => ?_, b6.mono (by rw [Nat.succ_mul]; omega), (s4.trans s5).trans s6⟩
      rcases List.mem_append.mp hr' with hr' | hr'
      · exact hrows r hr'
      · cases List.mem_singleton.mp hr'; exact hr
    have line : (rows.map rowL).length < sizeLine := by rw [List.length_map, hl]; unfold sizeLine; omega
    have fresh : ∀ E : En, (∀ es' S6, (∃ (rows' : List (List Int)) (s7 s8 : DM.Slot), es' = [.v (.loc b), .v (.int bx), .v (.int th), .v (.int rs), .v (.int (1 + m0)), .v (.int u), .own (rows'.map rowL), s7, s8] ∧ rows'.length = i + 1 ∧ ∀ r ∈ rows', RowOk (1 + m0) u r) → Bag S6 b (n + 10 + (i + 1) * K) → Same b S3 S6 → E.nx es' S6) →
        WS (sApp 6 (eCall m_l_row [eVar 0, eVar 4, eVar 5, eVar 8]) [.v (.loc b), .v (.int bx), .v (.int th), .v (.int rs), .v (.int (1 + m0)), .v (.int u), .own (rows.map rowL), .v (.int (i : Int)), .v (.int way)] S5) E := by
      intro E hE
      walk_at "w"
      refine row_w b5 (by omega) (by omega) (by omega) (by omega) (by omega) fun row S6 hr b6 s6 => ?_
      walk_at "w"
      obtain ⟨rows', e, h1, h2, h3, h4⟩ := drawn S6 row hr b6 s6
      rw [e]
      exact ⟨line, hE _ _ ⟨rows', _, _, rfl, h1, h2⟩ h3 h4⟩
    walk_at "w"
    refine kAnd_br (fun h1 => ?_) (fun h1 => ?_)
    · walk_at "w"
      refine kIf_br (fun h2 => ?_) (fun h2 => ?_)
      · have h2 : 0 < (((rows.map rowL).length : Nat) : Int) := of_decide_eq_true h2
        rw [List.length_map] at h2
        walk_at "w"
        refine pull_w b5 (by omega) (by rw [List.length_map]; exact h2) (by rw [List.length_map]; omega) fun v S6 v0 vl b6 s6 => ?_
        rw [List.length_map] at vl
        obtain ⟨r, er, hr, _⟩ := atI_get (l := rows) v0 vl
        have ea : atI (rows.map rowL) v = some (rowL r) := by rw [atI_map, er]; rfl
        simp! only [ea]
        obtain ⟨rows', e, h1, h2, h3, h4⟩ := drawn S6 r (hrows r hr) (b6.mono (by omega)) s6
        have e : rows.map rowL ++ [rowL r] = rows'.map rowL := e
        rw [e]
        exact ⟨line, ⟨rows', _, _, rfl, h1, h2⟩, h3, h4⟩
      · refine fresh _ fun es' S6 h1 h2 h3 => ?_
        walk_at "w"
        exact ⟨h1, h2, h3⟩
    · simp only [kIf_f]
      refine fresh _ fun es' S6 h1 h2 h3 => ?_
      walk_at "w"
      exact ⟨h1, h2, h3⟩
  · obtain ⟨⟨rows, s7, s8, rfl, hl, hrows⟩, b4, s4⟩ := h
    rw [rngD_len] at hl b4
    walk_at "w"
    refine ⟨le_line (by omega), ?_⟩
    refine k (1 + m0) u rows S' (by omega) (by omega) (by omega) (by omega) (by omega) ⟨fun z => ?_, hrows⟩ (b4.mono ?_) (((s1.trans s2).trans s3).trans s4)
    · rw [z] at hl
      simp at hl
      omega
    · have : (1 + r0).toNat * K ≤ rs.toNat * K := Nat.mul_le_mul_right _ (by omega)
      omega
end

section
open PySem PySem.Spec L2 DM
theorem swapP {A B : Type} (f : A → B → Bool) (ys : List B) : ∀ xs : List A, (xs.map fun x => ys.countP (f x)).sum = (ys.map fun y => xs.countP fun x => f x y).sum
  | [] => by
    rw [List.map_nil, List.sum_nil]
    induction ys with
    | nil => rfl
    | cons y ys ih => rw [List.map_cons, List.sum_cons, ← ih]; rfl
  | x :: xs => by
    rw [List.map_cons, List.sum_cons, swapP f ys xs]
    clear swapP
    induction ys with
    | nil => rfl
    | cons y ys ih =>
      rw [List.map_cons, List.sum_cons, List.map_cons, List.sum_cons, ← Nat.add_assoc]
      rw [List.countP_cons, List.countP_cons, ← ih]
      omega
def numsA (p : Nat) : Nat → List (List Int)
  | 0 => [[]]
  | k + 1 => (numsA p k).flatMap fun s => (List.range p).map fun (a : Nat) => s ++ [(a : Int)]
def polyI (x : Int) : List Int → Int
  | [] => 0
  | f :: r => f + x * polyI x r
theorem numsA_mem {p : Nat} : ∀ {k : Nat} {s : List Int}, s ∈ numsA p k → s.length = k ∧ ∀ a ∈ s, 0 ≤ a ∧ a < p
  | 0, s, h => by cases List.mem_singleton.mp h; exact ⟨rfl, fun _ h => nomatch h⟩
  | k + 1, s, h => by
    obtain ⟨r, hr, hs⟩ := List.mem_flatMap.mp h
    obtain ⟨a, ha, rfl⟩ := List.mem_map.mp hs
    obtain ⟨h1, h2⟩ := numsA_mem hr
    refine ⟨by simp [h1], fun b hb => ?_⟩
    rcases List.mem_append.mp hb with hb | hb
    · exact h2 b hb
    · cases List.mem_singleton.mp hb
      have := List.mem_range.mp ha
      omega
theorem flat_len {A B : Type} {f : A → List B} {n : Nat} : ∀ {l : List A}, (∀ a ∈ l, (f a).length = n) → (l.flatMap f).length = l.length * n
  | [], _ => by simp
  | a :: l, h => by
    rw [List.flatMap_cons, List.length_append, flat_len fun b hb => h b (List.mem_cons_of_mem _ hb), h a List.mem_cons_self, List.length_cons, Nat.succ_mul]
    omega
theorem numsA_len {p : Nat} : ∀ k, (numsA p k).length = p ^ k
  | 0 => rfl
  | k + 1 => by
    rw [numsA, flat_len (n := p) (fun a _ => by simp), numsA_len k, Nat.pow_succ]
def worthI (p x : Int) : List Int → Int
  | [] => 0
  | f :: r => (worthI p x r * x + f) % p
theorem worth_poly {p x : Int} : ∀ s, worthI p x s = polyI x s % p
  | [] => by simp [worthI, polyI]
  | f :: r => by
    rw [worthI, worth_poly r, polyI, Int.add_emod, Int.mul_emod, Int.emod_emod_of_dvd _ (Int.dvd_refl p), ← Int.mul_emod, ← Int.add_emod, Int.mul_comm, Int.add_comm]
end

section
open PySem PySem.Spec L2 DM
local macro_rules | `(tactic| walk_at "s") => `(tactic| (repeat (refine ⟨by (first | exact le_line (by omega) | exact cmul_l (by omega) (by omega) | exact cmul_r (by omega) (by omega) | exact cdiv (by omega) (by omega) | omega | decide), ?_⟩)))
def Ext (S S' : Store) : Prop := S.length ≤ S'.length ∧ ∀ j, j < S.length → S'[j]? = S[j]?
theorem Ext.refl (S : Store) : Ext S S := ⟨Nat.le_refl _, fun _ _ => rfl⟩
theorem Ext.trans {S S1 S2 : Store} (h : Ext S S1) (k : Ext S1 S2) : Ext S S2 := ⟨Nat.le_trans h.1 k.1, fun j hj => (k.2 j (Nat.lt_of_lt_of_le hj h.1)).trans (h.2 j hj)⟩
theorem Ext.push {S : Store} {o : O} : Ext S (S ++ [o]) := ⟨by simp, fun j hj => by rw [List.getElem?_append_left hj]⟩
theorem Ext.set {S S' : Store} {l : Nat} {x : O} (h : Ext S S') (hl : S.length ≤ l) : Ext S (S'.set l x) := ⟨by rw [List.length_set]; exact h.1, fun j hj => by rw [List.getElem?_set_ne (by omega)]; exact h.2 j hj⟩
theorem Ext.get {S S' : Store} {j : Nat} {o : O} (h : Ext S S') (e : S[j]? = some o) : S'[j]? = some o := (h.2 j (List.getElem?_eq_some_iff.mp e).1).trans e
theorem Bag.ext {S S' : Store} {b n : Nat} (h : Bag S b n) (e : Ext S S') : Bag S' b n := by
  obtain ⟨c, cells, a, l, h1, h2, h3, h4, h5, h6⟩ := h
  exact ⟨c, cells, a, l, e.get h1, e.get h2, h3, h4, h5, h6⟩
theorem Same.ext {b : Nat} {S S' : Store} (h : Same b S S') (T : Store) : True := trivial
def IsL (S : Store) (r : RV) (ds : List D) : Prop := r = .l true ds ∨ ∃ n, r = .d (.loc n) ∧ S[n]? = some (.lst ds)
def IsS (S : Store) (s : DM.Slot) (ds : List D) : Prop := s = .own ds ∨ ∃ n, s = .v (.loc n) ∧ S[n]? = some (.lst ds)
theorem kQC_of {Q : QM} {r : RV} {S : Store} {ds : List D} (h : IsL S r ds) (k : ∀ kk, chk kk ds S → isT kk = false → Q (ds, kk) S) : kQC Q r S := by
  rcases h with rfl | ⟨n, rfl, e⟩
  · exact k .p trivial rfl
  · rw [kQC_d, QS_l, e]; exact k (.s n) e rfl
theorem rows_loop {a0 a1 s3 s4 s5 s6 : DM.Slot} {S : Store} {E : En} {mp : ME} {t : Nat} {p : Int}
    (hmp : ∀ b c d e f S Q X, WR (mp [a0, a1, b, c, d, e, f] S) Q X = Q (.d (.int p)) S) (p1 : 1 ≤ p) (room : p.toNat ^ t ≤ 100000) (hp : p ≤ 100000) (ht : t ≤ 1000)
    (fin : ∀ S' s2 s3 s4 s5 s6, Ext S S' → IsS S' s2 ((numsA p.toNat t).map rowL) → E.nx [a0, a1, s2, s3, s4, s5, s6] S') :
    kFor (tgName 3) (sSeq (sSetS 4 (eLst [])) (sSeq (sFrz 2 (sFor (miSeq (qVar 2)) (tgName 5) (sExt 4 (eComp (miRng1 mp) (tgName 6) bYes (eOp2 addF (eVar 5) (eTup [(eVar 6)])) [6])))) (sSet 2 (eVar 4)))) [a0, a1, .own [.tup []], s3, s4, s5, s6] E (rngD t, fun _ => True) S := by
  have inner : ∀ (k : Nat), k < t → ∀ (S1 : Store) (n : Nat) (ck : Store → Prop) (s2 s3 s5 s6 : DM.Slot) (E' : En), S1[n]? = some (.lst []) → (∀ x, ck (S1.set n x)) →
      (∀ s5 s6, E'.nx [a0, a1, s2, s3, .v (.loc n), s5, s6] (S1.set n (.lst ((numsA p.toNat (k + 1)).map rowL)))) →
      kFor (tgName 5) (sExt 4 (eComp (miRng1 mp) (tgName 6) bYes (eOp2 addF (eVar 5) (eTup [(eVar 6)])) [6])) [a0, a1, s2, s3, .v (.loc n), s5, s6] E' ((numsA p.toNat k).map rowL, ck) S1 := by
    intro k hk S1 n ck s2 s3 s5 s6 E' hn hck fin'
    have hpk : p.toNat ^ (k + 1) ≤ p.toNat ^ t := Nat.pow_le_pow_right (by omega) hk
    have hpk2 : p.toNat ^ k ≤ p.toNat ^ t := Nat.pow_le_pow_right (by omega) (by omega)
    refine for_inv (fun i es S' => S' = S1.set n (.lst ((((numsA p.toNat k).take i).flatMap fun s => (List.range p.toNat).map fun (a : Nat) => s ++ [(a : Int)]).map rowL)) ∧ ∃ s5 s6, es = [a0, a1, s2, s3, .v (.loc n), s5, s6]) ⟨?_, s5, s6, rfl⟩ (fun _ _ S h => h.1 ▸ hck _) (fun i x es S' hx h => ?_) (fun es S' h => ?_)
    · rw [set_get]; exact hn
    · obtain ⟨rfl, s5, s6, rfl⟩ := h
      rw [List.getElem?_map] at hx
      cases hz : (numsA p.toNat k)[i]? with
      | none => rw [hz] at hx; cases hx
      | some s =>
        rw [hz] at hx
        cases hx
        obtain ⟨sl, sm⟩ := numsA_mem (List.mem_of_getElem? hz)
        have hi := (List.getElem?_eq_some_iff.mp hz).1
        refine ⟨_, rfl, ?_⟩
        simp! only [hmp, st_self hn]
        refine ⟨⟨by omega, by omega⟩, ?_⟩
        refine comp_map (fun d => match d with
          | .int a => rowL (s ++ [a])
          | _ => .non) (by rw [rngD_len]; exact le_line (by omega)) trivial (fun j d hd => ?_) ?_
        · obtain ⟨rfl, hj⟩ := rngD_get hd
          refine ⟨_, rfl, ?_⟩
          walk_at "w"
          refine ⟨le_line (by omega), ?_, ?_⟩
          · rw [List.length_map, sl]
            exact le_line (by omega)
          · show RV.d (D.tup (s.map .int ++ [D.int (j : Int)])) = RV.d (D.tup ((s ++ [(j : Int)]).map .int))
            rw [List.map_append]
            rfl
        · rw [kExtT_l, st_self hn, QXT_e, lp_nx]
          refine ⟨?_, ?_, _, s6, rfl⟩
          · rw [List.length_map, flat_len (n := p.toNat) (fun _ _ => by simp), List.length_map, rngD_len, List.length_take]
            rw [numsA_len] at hi ⊢
            have h3 : (i + 1) * p.toNat ≤ p.toNat ^ k * p.toNat := Nat.mul_le_mul_right _ hi
            have h4 : p.toNat ^ (k + 1) = p.toNat ^ k * p.toNat := Nat.pow_succ ..
            rw [← h4, Nat.succ_mul] at h3
            rw [Nat.min_eq_left (by omega)]
            exact le_line (by omega)
          · rw [List.set_set, List.take_succ, hz]
            show _ = S1.set n (.lst (List.map rowL (List.flatMap _ (_ ++ [s]))))
            rw [List.flatMap_append, List.map_append, List.flatMap_cons, List.flatMap_nil, List.append_nil]
            congr 3
            unfold rngD
            rw [List.map_map, List.map_map]
            rfl
    · obtain ⟨rfl, s5, s6, rfl⟩ := h
      rw [List.length_map, List.take_length]
      exact fin' s5 s6
  refine for_inv (fun i es S' => Ext S S' ∧ ∃ s2 s3 s4 s5 s6, es = [a0, a1, s2, s3, s4, s5, s6] ∧ IsS S' s2 ((numsA p.toNat i).map rowL)) ⟨Ext.refl _, _, s3, s4, s5, s6, rfl, .inl rfl⟩ (fun _ _ _ _ => trivial) (fun i x es S' hx h => ?_) (fun es S' h => ?_)
  · obtain ⟨rfl, hi⟩ := rngD_get hx
    obtain ⟨e1, s2, s3, s4, s5, s6, rfl, hs⟩ := h
    refine ⟨_, rfl, ?_⟩
    have e2 : Ext S' (S' ++ [O.lst []]) := Ext.push
    have done : ∀ s5 s6, (IsS S' s2 ((numsA p.toNat i).map rowL)) → ((En.lp E (fun es S' => Ext S S' ∧ ∃ s2 s3 s4 s5 s6, es = [a0, a1, s2, s3, s4, s5, s6] ∧ IsS S' s2 ((numsA p.toNat (i + 1)).map rowL))).nx [a0, a1, .v (.loc S'.length), .v (.int i), .v (.loc S'.length), s5, s6] ((S' ++ [O.lst []]).set S'.length (.lst ((numsA p.toNat (i + 1)).map rowL)))) := fun s5 s6 _ => by
      rw [lp_nx]
      exact ⟨(e1.trans e2).set e1.1, _, _, _, _, _, rfl, .inr ⟨_, rfl, st_self st_new _⟩⟩
    rcases hs with rfl | ⟨n, rfl, en⟩
    · walk_at "w"
      refine ⟨by decide, ?_⟩
      refine inner i hi _ _ _ _ _ _ _ _ st_new (fun _ => trivial) fun s5 s6 => ?_
      walk_at "w"
      exact done _ _ (.inl rfl)
    · have nl := (List.getElem?_eq_some_iff.mp en).1
      simp! only [e2.get en]
      refine ⟨by decide, ?_⟩
      refine inner i hi _ _ _ _ _ _ _ _ st_new (fun x => ?_) fun s5 s6 => ?_
      · rw [chk_s, List.getElem?_set_ne (by omega)]
        exact e2.get en
      · walk_at "w"
        exact done _ _ (.inr ⟨n, rfl, en⟩)
  · obtain ⟨e1, s2, s3, s4, s5, s6, rfl, hs⟩ := h
    rw [rngD_len] at hs
    exact fin _ _ _ _ _ _ e1 hs
theorem ret_isL {s : DM.Slot} {S : Store} {ds : List D} {Q : RV → Store → Prop} {X : QX} (h : IsS S s ds) (k : ∀ r, IsL S r ds → Q r S) : QRV (some s) S (EnF Q X) := by
  rcases h with rfl | ⟨n, rfl, e⟩
  · exact k _ (.inl rfl)
  · exact k _ (.inr ⟨n, rfl, e⟩)
theorem rows_of_numbers_w {many p : Int} {S : Store} {Q : RV → Store → Prop} {X : QX} (m0 : 0 ≤ many) (m1 : many ≤ 1000) (p1 : 1 ≤ p) (hp : p ≤ 100000) (room : p.toNat ^ many.toNat ≤ 100000)
    (k : ∀ r S', Ext S S' → IsL S' r ((numsA p.toNat many.toNat).map rowL) → Q r S') : WR (okR (m_rows_of_numbers [.d (.int many), .d (.int p)] S)) Q X := by
  refine fun_w ?_
  unfold mb_rows_of_numbers
  walk_at "w"
  refine ⟨le_line (by omega), le_line (by omega), ⟨by omega, by omega⟩, ?_⟩
  refine rows_loop (fun b c d e f S Q X => by walk_at "w") p1 room hp (by omega) fun S' s2 s3 s4 s5 s6 e1 hs => ?_
  walk_at "w"
  exact ret_isL hs fun r h => k r S' e1 h
theorem worth_at_w {s : List Int} {x p : Int} {S : Store} (p1 : 1 ≤ p) (x0 : 0 ≤ x) (hx : x < 2 ^ 60) : m_worth_at [.d (.tup (s.map .int)), .d (.int x), .d (.int p)] S = .ok (.d (.int (worthI p x s))) S := by
  refine eq_of (fun_w ?_)
  unfold mb_worth_at
  walk_at "w"
  refine for_inv (fun i es S' => S' = S ∧ ∃ s4, es = [.v (.tup (s.map .int)), .v (.int x), .v (.int p), .v (.int (worthI p x (s.drop (s.length - i)))), s4]) ⟨rfl, .no, by rw [Nat.sub_zero, List.drop_length]; rfl⟩ (fun _ _ _ _ => trivial) (fun i d es S' hd h => ?_) (fun es S' h => ?_)
  · obtain ⟨rfl, s4, rfl⟩ := h
    have hil := (List.getElem?_eq_some_iff.mp hd).1
    rw [List.length_reverse, List.length_map] at hil
    rw [List.getElem?_reverse (by rw [List.length_map]; exact hil), List.getElem?_map, List.length_map, List.getElem?_eq_getElem (by omega)] at hd
    cases hd
    refine ⟨_, rfl, ?_⟩
    walk_at "w"
    refine ⟨cmul_r (by omega) (by omega), by omega, .v (.int s[s.length - 1 - i]), ?_⟩
    have e : s.length - (i + 1) = s.length - 1 - i := by omega
    have e2 : s.length - i = s.length - 1 - i + 1 := by omega
    rw [e, e2, ← List.getElem_cons_drop (i := s.length - 1 - i) (as := s) (h := by omega)]
    rfl
  · obtain ⟨rfl, s4, rfl⟩ := h
    rw [List.length_reverse, List.length_map, Nat.sub_self, List.drop_zero]
    walk_at "w"
def sumRow (p : Int) (u : Nat) (s : List Int) : List Int := (List.range u).map fun (x : Nat) => worthI p (x : Int) s
theorem int_row2 {f : Int → D} {n : Nat} : ((rngD n).map fun d => match d with
    | .int x => f x
    | _ => .non) = (List.range n).map fun (x : Nat) => f (x : Int) := by
  unfold rngD
  rw [List.map_map]
  rfl
theorem pow_at {p t : Int} (h0 : 0 ≤ t) (h4 : t ≤ 4) : atI [D.int 1, D.int p, D.int (p * p), D.int (p * p * p), D.int (p * p * p * p)] t = some (.int (p ^ t.toNat)) := by
  have : t = 0 ∨ t = 1 ∨ t = 2 ∨ t = 3 ∨ t = 4 := by omega
  rcases this with rfl | rfl | rfl | rfl | rfl <;> simp [atI, ixN, Int.pow_succ]
theorem by_sums_w {p t u : Int} {S : Store} {Q : RV → Store → Prop} {X : QX} (hp : PrimeI p) (p64 : p ≤ 64) (t0 : 0 ≤ t) (t4 : t ≤ 4) (room : p ^ t.toNat ≤ 600) (u0 : 0 ≤ u) (hu : u ≤ 100000)
    (k : ∀ S', Ext S S' → Q (.d (.tup [.int p, .tup ((numsA p.toNat t.toNat).map fun s => rowL (sumRow p u.toNat s))])) S') : WR (okR (m_by_sums [.d (.int p), .d (.int t), .d (.int u)] S)) Q X := by
  have p2 := hp.1
  have roomN : p.toNat ^ t.toNat ≤ 600 := by
    have : ((p.toNat ^ t.toNat : Nat) : Int) = p ^ t.toNat := by rw [Int.natCast_pow, Int.toNat_of_nonneg (by omega)]
    omega
  refine fun_w ?_
  unfold mb_by_sums
  walk_at "w"
  rw [need_prime_ok (by omega) hp]
  simp! only [pow_at t0 t4]
  walk_at "s"
  rw [need_room_ok room]
  have d : decide (64 < p) = false := decide_eq_false (by omega)
  simp! only [d]
  refine rows_of_numbers_w t0 (by omega) (by omega) (by omega) (by omega) fun r S1 e1 hr => ?_
  refine kQC_of hr fun kk hc _ => ?_
  walk_at "w"
  refine comp_inv (fun i ys S2 => S2 = S1 ∧ ys = ((numsA p.toNat t.toNat).take i).map fun s => rowL (sumRow p u.toNat s)) (by rw [List.length_map, numsA_len]; exact le_line (by omega)) ⟨rfl, rfl⟩ (fun _ _ S h => h.1 ▸ hc) (fun i x ys S2 hx h => ?_) (fun ys S2 h => ?_)
  · obtain ⟨rfl, rfl⟩ := h
    rw [List.getElem?_map] at hx
    cases hz : (numsA p.toNat t.toNat)[i]? with
    | none => rw [hz] at hx; cases hx
    | some s =>
      rw [hz] at hx
      cases hx
      refine ⟨_, rfl, ?_⟩
      walk_at "w"
      refine ⟨fun _ => ?_, fun z => by cases z⟩
      refine ⟨⟨by omega, by omega⟩, ?_⟩
      refine comp_map (fun d => match d with
        | .int x => D.int (worthI p x s)
        | _ => .non) (by rw [rngD_len]; exact le_line (by omega)) trivial (fun j d hd => ?_) ?_
      · obtain ⟨rfl, hj⟩ := rngD_get hd
        refine ⟨_, rfl, ?_⟩
        walk_at "w"
        rw [worth_at_w (by omega) (by omega) (by omega)]
        walk_at "w"
      · rw [int_row2 (f := fun x => D.int (worthI p x s))]
        walk_at "w"
        rw [List.take_succ, hz]
        show _ = List.map _ (_ ++ [s])
        have er : D.tup ((List.range u.toNat).map fun (x : Nat) => D.int (worthI p (x : Int) s)) = rowL (sumRow p u.toNat s) := by
          unfold sumRow
          show _ = D.tup (List.map _ (List.map _ _))
          rw [List.map_map]
          rfl
        rw [List.map_append, er]
        rfl
  · obtain ⟨rfl, rfl⟩ := h
    rw [List.length_map, List.take_length]
    walk_at "w"
    exact ⟨le_line (by omega), k S2 e1⟩
end

section
open PySem PySem.Spec L2 DM
local macro_rules | `(tactic| walk_at "s") => `(tactic| (repeat (refine ⟨by (first | exact le_line (by omega) | exact cmul_l (by omega) (by omega) | exact cmul_r (by omega) (by omega) | exact cdiv (by omega) (by omega) | omega | decide), ?_⟩)))
section
variable {α : Type} {l : List α} {F : α → D} {ck : Store → Prop} {g : MG} {t : MB} {m : ME} {vs : List Nat} {es : DM.Env} {S : Store} {Q : RV → Store → Prop} {X : QX}
theorem comp_fil (p : α → Bool) (f : α → D) (hl : l.length ≤ sizeLine) (hck : ck S)
    (step : ∀ (i : Nat) a, l[i]? = some a → ∃ es1, g (F a) (wipeE es vs) = some es1 ∧ WR (t es1 S) (fun y S1 => y = p a ∧ S1 = S) XF ∧ (p a = true → WR (m es1 S) (fun r S1 => r = .d (f a) ∧ S1 = S) XF))
    (fin : Q (.l true ((l.filter p).map f)) S) : kComp g t m vs es Q X (l.map F, ck) S := by
  refine comp_inv (fun i ys S1 => S1 = S ∧ ys = ((l.take i).filter p).map f) (by rw [List.length_map]; exact hl) ⟨rfl, by simp⟩ (fun i ys S1 h => h.1 ▸ hck) (fun i x ys S1 hx h => ?_) (fun ys S1 h => ?_)
  · obtain ⟨rfl, rfl⟩ := h
    rw [List.getElem?_map] at hx
    cases hz : l[i]? with
    | none => rw [hz] at hx; cases hx
    | some a =>
      rw [hz] at hx
      cases hx
      obtain ⟨es1, e1, ht, hm⟩ := step i a hz
      have tk : l.take (i + 1) = l.take i ++ [a] := by rw [List.take_succ, hz]; rfl
      refine ⟨es1, e1, WR_mono ht (fun y S2 h => ?_) fun _ _ _ h => h⟩
      obtain ⟨rfl, rfl⟩ := h
      refine ⟨fun hp => WR_mono (hm hp) (fun r S3 h => ?_) (fun _ _ _ h => h), fun hp => ⟨rfl, ?_⟩⟩
      · obtain ⟨rfl, rfl⟩ := h
        refine ⟨rfl, ?_⟩
        rw [tk, List.filter_append, List.map_append]
        simp [hp]
      · rw [tk, List.filter_append, List.map_append]
        simp [hp]
  · obtain ⟨rfl, rfl⟩ := h
    rw [List.length_map, List.take_length]
    exact fin
theorem comp_all (f : α → D) (hl : l.length ≤ sizeLine) (hck : ck S)
    (step : ∀ (i : Nat) a, l[i]? = some a → ∃ es1, g (F a) (wipeE es vs) = some es1 ∧ WR (m es1 S) (fun r S1 => r = .d (f a) ∧ S1 = S) XF)
    (fin : Q (.l true (l.map f)) S) : kComp g bYes m vs es Q X (l.map F, ck) S :=
  comp_fil (fun _ => true) f hl hck (fun i x hx => let ⟨es1, e1, h⟩ := step i x hx; ⟨es1, e1, ⟨rfl, rfl⟩, fun _ => h⟩) (by rw [List.filter_eq_self.mpr (fun _ _ => rfl)]; exact fin)
end
def at_ (r : List Int) (x : Int) : Int := r.getD x.toNat 0
theorem row_atI {r : List Int} {x : Int} (h0 : 0 ≤ x) (h : x < r.length) : atI (r.map D.int) x = some (.int (at_ r x)) := by
  rw [atI_map, atI_int h0 h]
  unfold at_
  rw [List.getD_eq_getElem?_getD, List.getElem?_eq_getElem (by omega)]
  rfl
def metI (rows : List (List Int)) (x y : Int) : Nat := rows.countP fun r => decide (at_ r x = at_ r y)
theorem filter_len {α β : Type} {l : List α} {p : α → Bool} {f : α → β} : ((l.filter p).map f).length = l.countP p := by rw [List.length_map, List.countP_eq_length_filter]
theorem primes_in {l : List Int} (h : (l.all fun p => decide (0 ≤ p) && decide (p < 1000000) && primeB p.toNat) = true) : ∀ p ∈ l, PrimeI p ∧ p < 1000000 := by
  intro p hp
  have := List.all_eq_true.mp h p hp
  rw [Bool.and_eq_true, Bool.and_eq_true, decide_eq_true_iff, decide_eq_true_iff] at this
  obtain ⟨⟨h1, h2⟩, h3⟩ := this
  have := primeI_of h3 (by omega)
  rw [Int.toNat_of_nonneg h1] at this
  exact ⟨this, h2⟩
theorem pickL {l : List Int} {v : Int} (h0 : 0 ≤ v) (h : v < l.length) : ∃ q, atI (l.map D.int) v = some (.int q) ∧ q ∈ l := by
  obtain ⟨a, e, m, _⟩ := atI_get h0 h
  exact ⟨a, by rw [atI_map, e]; rfl, m⟩
end

section
open PySem PySem.Spec L2 DM
local macro_rules | `(tactic| walk_at "s") => `(tactic| (repeat (refine ⟨by (first | exact le_line (by omega) | exact cmul_l (by omega) (by omega) | exact cmul_r (by omega) (by omega) | exact cdiv (by omega) (by omega) | omega | decide), ?_⟩)))
theorem whole_int {S : Store} {i : Int} : m_is_whole [.d (.int i)] S = .ok (.d (.bl true)) S := by
  refine eq_of (fun_w ?_)
  unfold mb_is_whole
  walk_at "w"
theorem BookOk.cons {m : Int} {u : Nat} {rows : List (List Int)} (h : BookOk m u rows) : ∃ r rs, rows = r :: rs ∧ RowOk m u r := by
  cases rows with
  | nil => exact (h.ne rfl).elim
  | cons r rs => exact ⟨r, rs, rfl, h.ok r List.mem_cons_self⟩
theorem things_of_w {m : Int} {u : Nat} {rows : List (List Int)} {S : Store} (h : BookOk m u rows) : m_things_of [.d (bookD m rows)] S = .ok (.d (.int u)) S := by
  obtain ⟨r, rs, rfl, hr⟩ := h.cons
  refine eq_of (fun_w ?_)
  unfold mb_things_of
  walk_at "w"
  rw [List.length_map, hr.1]
theorem need_pairs_ok {m : Int} {u : Nat} {rows : List (List Int)} {S : Store} (h : BookOk m u rows) (hu : 2 ≤ u) : m_need_pairs [.d (bookD m rows)] S = .ok (.d .non) S := by
  refine eq_of (fun_w ?_)
  unfold mb_need_pairs
  walk_at "w"
  rw [things_of_w h]
  have d : decide ((u : Int) < 2) = false := decide_eq_false (by omega)
  simp! only [d]
theorem need_pairs_ex {m : Int} {u : Nat} {rows : List (List Int)} {S : Store} (h : BookOk m u rows) (hu : u < 2) : m_need_pairs [.d (bookD m rows)] S = .ex 1 [] S := by
  refine ex_of (fun_w ?_)
  unfold mb_need_pairs
  walk_at "w"
  rw [things_of_w h]
  have d : decide ((u : Int) < 2) = true := decide_eq_true (by omega)
  simp! only [d]
theorem need_two {m x y : Int} {u : Nat} {rows : List (List Int)} {S : Store} (h : BookOk m u rows) (x0 : 0 ≤ x) (xu : x < u) (y0 : 0 ≤ y) (yu : y < u) : m_need_things [.d (bookD m rows), .d (.tup [.int x, .int y])] S = .ok (.d .non) S := by
  refine eq_of (fun_w ?_)
  unfold mb_need_things
  walk_at "w"
  rw [kFor_e]
  have d1 : decide (0 ≤ x) = true := decide_eq_true x0
  have d2 : decide (x < (u : Int)) = true := decide_eq_true xu
  have d3 : decide (0 ≤ y) = true := decide_eq_true y0
  have d4 : decide (y < (u : Int)) = true := decide_eq_true yu
  simp! only [for_cons, for_nil]
  rw [whole_int]
  simp! only [d1]
  rw [things_of_w h]
  simp! only [d2, for_cons, for_nil]
  rw [whole_int]
  simp! only [d3]
  rw [things_of_w h]
  simp! only [d4, for_cons, for_nil]
theorem meets_w {m x y : Int} {u : Nat} {rows : List (List Int)} {S : Store} (h : BookOk m u rows) (hl : rows.length ≤ 100000) (x0 : 0 ≤ x) (xu : x < u) (y0 : 0 ≤ y) (yu : y < u) (ne : x ≠ y) : m_meets [.d (bookD m rows), .d (.int x), .d (.int y)] S = .ok (.d (.int (metI rows x y))) S := by
  refine eq_of (fun_w ?_)
  unfold mb_meets
  have d : decide (x = y) = false := decide_eq_false ne
  simp! only [d]
  refine ⟨le_line (by omega), ?_⟩
  rw [need_two h x0 xu y0 yu]
  simp! only [d]
  refine comp_fil (fun r => decide (at_ r x = at_ r y)) rowL (le_line (by omega)) trivial (fun i r hr => ?_) ?_
  · have hr := (h.ok r (List.mem_of_getElem? hr)).1
    have a1 := row_atI (r := r) x0 (by omega)
    have a2 := row_atI (r := r) y0 (by omega)
    refine ⟨_, rfl, ?_, fun _ => ?_⟩
    · simp! only [a1, a2]
    · walk_at "w"
  · simp! only [filter_len]
    rfl
def pairRow (u x : Nat) : List (Int × Int) := (List.range (u - (x + 1))).map fun (j : Nat) => ((x : Int), (x : Int) + 1 + (j : Int))
def pairL (u : Nat) : List (Int × Int) := (List.range u).flatMap (pairRow u)
abbrev pairD (q : Int × Int) : D := .tup [.int q.1, .int q.2]
theorem mem_pairL {u : Nat} {q : Int × Int} : q ∈ pairL u ↔ 0 ≤ q.1 ∧ q.1 < q.2 ∧ q.2 < u := by
  unfold pairL pairRow
  rw [List.mem_flatMap]
  constructor
  · rintro ⟨x, hx, h⟩
    obtain ⟨j, hj, rfl⟩ := List.mem_map.mp h
    have := List.mem_range.mp hx
    have := List.mem_range.mp hj
    exact ⟨by show (0 : Int) ≤ x; omega, by show (x : Int) < x + 1 + j; omega, by show (x : Int) + 1 + j < u; omega⟩
  · rintro ⟨h0, h1, h2⟩
    refine ⟨q.1.toNat, List.mem_range.mpr (by omega), List.mem_map.mpr ⟨(q.2 - q.1 - 1).toNat, List.mem_range.mpr (by omega), ?_⟩⟩
    apply Prod.ext
    · show ((q.1.toNat : Nat) : Int) = q.1
      omega
    · show ((q.1.toNat : Nat) : Int) + 1 + _ = q.2
      omega
theorem pairs_len (u : Nat) : ∀ k, k ≤ u → ((List.range k).flatMap (pairRow u)).length ≤ k * u
  | 0, _ => by simp
  | k + 1, h => by
    have := pairs_len u k (by omega)
    rw [List.range_succ, List.flatMap_append, List.length_append, List.flatMap_cons, List.flatMap_nil, List.append_nil, Nat.succ_mul]
    have : (pairRow u k).length ≤ u := by unfold pairRow; rw [List.length_map, List.length_range]; omega
    omega
theorem pairL_len {u : Nat} : (pairL u).length ≤ u * u := pairs_len u u (Nat.le_refl _)
theorem pairs_loop {u : Int} {S : Store} {Q : RV → Store → Prop} {X : QX} (u0 : 0 ≤ u) (hu : u ≤ 1000) (fin : Q (.l true ((pairL u.toNat).map pairD)) S) :
    WR (okR (m_pairs_of [.d (.int u)] S)) Q X := by
  refine fun_w ?_
  unfold mb_pairs_of
  walk_at "w"
  refine ⟨le_line (by omega), ⟨by omega, by omega⟩, ?_⟩
  refine for_inv (fun i es S' => S' = S ∧ ∃ s2 s3, es = [.v (.int u), .own (((List.range i).flatMap (pairRow u.toNat)).map pairD), s2, s3]) ⟨rfl, _, _, rfl⟩ (fun _ _ _ _ => trivial) (fun i x es S' hx h => ?_) (fun es S' h => ?_)
  · obtain ⟨rfl, hi⟩ := rngD_get hx
    obtain ⟨rfl, s2, s3, rfl⟩ := h
    refine ⟨[.v (.int u), .own (((List.range i).flatMap (pairRow u.toNat)).map pairD), .v (.int i), s3], rfl, ?_⟩
    walk_at "w"
    refine ⟨⟨by omega, by omega, by omega, by omega⟩, ?_⟩
    have hl := pairs_len u.toNat i (by omega)
    have hm : i * u.toNat ≤ 1000 * 1000 := Nat.mul_le_mul (by omega) (by omega)
    refine comp_all (l := List.range (u - ((i : Int) + 1)).toNat) (F := fun (j : Nat) => D.int ((i : Int) + 1 + (j : Int))) (fun (j : Nat) => pairD ((i : Int), (i : Int) + 1 + (j : Int))) (by rw [List.length_range]; exact le_line (by omega)) trivial (fun j a hj => ?_) ?_
    · refine ⟨_, rfl, ?_⟩
      walk_at "w"
      exact le_line (by omega)
    · have e : (List.range (u - ((i : Int) + 1)).toNat).map (fun (j : Nat) => pairD ((i : Int), (i : Int) + 1 + (j : Int))) = (pairRow u.toNat i).map pairD := by
        unfold pairRow
        rw [List.map_map]
        have : (u - ((i : Int) + 1)).toNat = u.toNat - (i + 1) := by omega
        rw [this]
        rfl
      rw [e, kExtO_l, lp_nx]
      have hr : (pairRow u.toNat i).length ≤ 1000 := by unfold pairRow; rw [List.length_map, List.length_range]; omega
      refine ⟨by rw [List.length_map, List.length_map]; exact le_line (by omega), rfl, .v (.int i), s3, ?_⟩
      rw [List.range_succ, List.flatMap_append, List.map_append]
      show _ = [_, Slot.own (_ ++ List.map pairD (_ ++ [])), _, _]
      rw [List.append_nil]
      rfl
  · obtain ⟨rfl, s2, s3, rfl⟩ := h
    rw [rngD_len]
    walk_at "w"
    exact fin
theorem pairs_of_w {u : Int} {S : Store} (u0 : 0 ≤ u) (hu : u ≤ 1000) : m_pairs_of [.d (.int u)] S = .ok (.l true ((pairL u.toNat).map pairD)) S := by
  exact eq_of (pairs_loop u0 hu ⟨rfl, rfl⟩)
theorem all_pairs_w {u : Int} {S : Store} (u0 : 0 ≤ u) (hu : u ≤ 1000) : m_l_all_pairs [.d (.int u)] S = .ok (.l true ((pairL u.toNat).map pairD)) S := by
  exact pairs_of_w (S := S) u0 hu
theorem maxI_ge : ∀ {l : List Int} {x : Int}, x ∈ l → x ≤ maxI l
  | [a], x, h => by cases List.mem_singleton.mp h; exact Int.le_refl _
  | a :: b :: r, x, h => by
    have ih := fun h => maxI_ge (l := b :: r) (x := x) h
    show x ≤ (if maxI (b :: r) > a then maxI (b :: r) else a)
    rcases List.mem_cons.mp h with rfl | h
    · split <;> omega
    · have := ih h
      split <;> omega
theorem maxI_mem : ∀ {l : List Int}, l ≠ [] → maxI l ∈ l
  | [], h => absurd rfl h
  | [a], _ => List.mem_singleton.mpr rfl
  | a :: b :: r, _ => by
    have ih := maxI_mem (l := b :: r) (by simp)
    show (if maxI (b :: r) > a then maxI (b :: r) else a) ∈ _
    split
    · exact List.mem_cons_of_mem _ ih
    · exact List.mem_cons_self
theorem metI_le {rows : List (List Int)} {x y : Int} : metI rows x y ≤ rows.length := List.countP_le_length
def metsL (rows : List (List Int)) (u : Nat) : List Int := (pairL u).map fun q => ((metI rows q.1 q.2 : Nat) : Int)
def worstI (rows : List (List Int)) (u : Nat) : Int := maxI (metsL rows u)
theorem pairL_ne {u : Nat} (h : 2 ≤ u) : pairL u ≠ [] := fun z => by
  have : ((0 : Int), (1 : Int)) ∈ pairL u := mem_pairL.mpr ⟨by decide, by decide, by show (1 : Int) < u; omega⟩
  rw [z] at this
  cases this
theorem metsL_ne {rows : List (List Int)} {u : Nat} (h : 2 ≤ u) : metsL rows u ≠ [] := fun z => pairL_ne h (List.map_eq_nil_iff.mp z)
theorem worst_mem {rows : List (List Int)} {u : Nat} (h : 2 ≤ u) : ∃ x y : Int, 0 ≤ x ∧ x < y ∧ y < u ∧ worstI rows u = (metI rows x y : Nat) := by
  obtain ⟨q, hq, e⟩ := List.mem_map.mp (maxI_mem (metsL_ne (rows := rows) h))
  obtain ⟨h0, h1, h2⟩ := mem_pairL.mp hq
  exact ⟨q.1, q.2, h0, h1, h2, e.symm⟩
theorem metI_comm {rows : List (List Int)} {x y : Int} : metI rows x y = metI rows y x := by
  unfold metI
  apply List.countP_congr
  intro r _
  rw [decide_eq_true_iff, decide_eq_true_iff]
  exact eq_comm
theorem worst_bound {rows : List (List Int)} {u : Nat} (h : 2 ≤ u) : 0 ≤ worstI rows u ∧ worstI rows u ≤ rows.length := by
  obtain ⟨x, y, _, _, _, e⟩ := worst_mem (rows := rows) h
  have := metI_le (rows := rows) (x := x) (y := y)
  omega
def worstP (rows : List (List Int)) (u : Nat) : List (Int × Int) := (pairL u).filter fun q => decide (((metI rows q.1 q.2 : Nat) : Int) = worstI rows u)
theorem worst_pairs_w {m : Int} {u : Nat} {rows : List (List Int)} {S : Store} {Q : RV → Store → Prop} {X : QX} (h : BookOk m u rows) (hl : rows.length ≤ 100000) (hu : 2 ≤ u) (hu2 : u ≤ 1000)
    (k : Q (.d (.tup [lowT (worstI rows u) (rows.length : Nat), .loc S.length])) (S ++ [.lst ((worstP rows u).map pairD)])) : WR (okR (m_worst_pairs [.d (bookD m rows)] S)) Q X := by
  have : 0 < rows.length := List.length_pos_iff.mpr h.ne
  have wb := worst_bound (rows := rows) hu
  refine fun_w ?_
  unfold mb_worst_pairs
  walk_at "w"
  rw [need_pairs_ok h hu]
  walk_at "w"
  rw [things_of_w h]
  walk_at "w"
  rw [pairs_of_w (by omega) (by omega), Int.toNat_natCast]
  walk_at "w"
  have pl := pairL_len (u := u)
  have hm : u * u ≤ 1000 * 1000 := Nat.mul_le_mul hu2 hu2
  refine comp_all (fun q => D.tup [.int ((metI rows q.1 q.2 : Nat) : Int), pairD q]) (le_line (by omega)) trivial (fun i q hq => ?_) ?_
  · obtain ⟨h0, h1, h2⟩ := mem_pairL.mp (List.mem_of_getElem? hq)
    refine ⟨_, rfl, ?_⟩
    walk_at "w"
    rw [meets_w h hl h0 (by omega) (by omega) h2 (by omega)]
    walk_at "w"
    exact le_line (by omega)
  · walk_at "w"
    refine comp_all (fun q => D.int ((metI rows q.1 q.2 : Nat) : Int)) (le_line (by omega)) trivial (fun i q hq => ?_) ?_
    · refine ⟨_, rfl, ?_⟩
      walk_at "w"
    · have e : (pairL u).map (fun q => D.int ((metI rows q.1 q.2 : Nat) : Int)) = (metsL rows u).map D.int := by
        unfold metsL
        rw [List.map_map]
        rfl
      simp! only [e, List.length_map]
      refine ⟨metsL_ne hu, ?_⟩
      have ew : maxI (metsL rows u) = worstI rows u := rfl
      rw [ew, part_of_w (by omega) (by omega) (by omega)]
      walk_at "w"
      refine comp_fil (fun q => decide (((metI rows q.1 q.2 : Nat) : Int) = worstI rows u)) pairD (le_line (by omega)) trivial (fun i q hq => ?_) ?_
      · refine ⟨_, rfl, ?_, fun _ => ?_⟩
        · walk_at "w"
        · walk_at "w"
      · walk_at "w"
        exact ⟨le_line (by omega), k⟩
end

section
open PySem PySem.Spec L2 DM
local macro_rules | `(tactic| walk_at "s") => `(tactic| (repeat (refine ⟨by (first | exact le_line (by omega) | exact cmul_l (by omega) (by omega) | exact cmul_r (by omega) (by omega) | exact cdiv (by omega) (by omega) | omega | decide), ?_⟩)))
def digI (m x : Int) (n : Nat) : List Int := (List.range n).map fun (k : Nat) => x / m ^ k % m
theorem digI_succ {m x : Int} {n : Nat} : digI m x (n + 1) = digI m x n ++ [x / m ^ n % m] := by
  unfold digI
  rw [List.range_succ, List.map_append]
  rfl
theorem pow_pos' {m : Int} (h : 1 ≤ m) (k : Nat) : 1 ≤ m ^ k := by
  have := Int.pow_pos (n := m) (m := k) (by omega)
  omega
theorem digits_of_w {x m many : Int} {S : Store} (m1 : 1 ≤ m) (m2 : m < 2 ^ 64) (n0 : 0 ≤ many) (n1 : many ≤ 100000) : m_digits_of [.d (.int x), .d (.int m), .d (.int many)] S = .ok (.d (rowL (digI m x many.toNat))) S := by
  refine eq_of (fun_w ?_)
  unfold mb_digits_of
  walk_at "w"
  refine ⟨le_line (by omega), ⟨by omega, by omega⟩, ?_⟩
  refine for_inv (fun i es S' => S' = S ∧ ∃ s4, es = [.v (.int (x / m ^ i)), .v (.int m), .v (.int many), .own ((digI m x i).map .int), s4]) ⟨rfl, .no, by rw [Int.pow_zero, Int.ediv_one]; rfl⟩ (fun _ _ _ _ => trivial) (fun i d es S' hx h => ?_) (fun es S' h => ?_)
  · obtain ⟨rfl, hi⟩ := rngD_get hx
    obtain ⟨rfl, s4, rfl⟩ := h
    refine ⟨_, rfl, ?_⟩
    walk_at "w"
    refine ⟨by omega, ?_, cdiv (by omega) m2, .v (.int i), ?_⟩
    · unfold digI
      rw [List.length_map, List.length_map, List.length_range]
      unfold sizeLine
      omega
    · rw [digI_succ, List.map_append, Int.pow_succ, ← Int.ediv_ediv_of_nonneg (by have := pow_pos' m1 i; omega)]
      rfl
  · obtain ⟨rfl, s4, rfl⟩ := h
    rw [rngD_len]
    walk_at "w"
def digRows (m : Int) (u n : Nat) : List (List Int) := (List.range n).map fun (k : Nat) => (List.range u).map fun (x : Nat) => (x : Int) / m ^ k % m
theorem digRows_ok {m : Int} {u n : Nat} (m1 : 1 ≤ m) (hn : 1 ≤ n) : BookOk m u (digRows m u n) := by
  refine ⟨fun z => ?_, fun r hr => ?_⟩
  · have := congrArg List.length z
    unfold digRows at this
    rw [List.length_map, List.length_range] at this
    simp at this
    omega
  · unfold digRows at hr
    obtain ⟨k, _, rfl⟩ := List.mem_map.mp hr
    refine ⟨by rw [List.length_map, List.length_range], fun x hx => ?_⟩
    obtain ⟨y, _, rfl⟩ := List.mem_map.mp hx
    exact ⟨Int.emod_nonneg _ (by omega), Int.emod_lt_of_pos _ (by omega)⟩
structure ManyOk (m u : Int) (n : Nat) : Prop where
  pos : 1 ≤ n
  up : u ≤ m ^ n
  low : n = 1 ∨ m ^ (n - 1) < u
theorem pow_mono {m : Int} (m1 : 1 ≤ m) {a b : Nat} (h : a ≤ b) : m ^ a ≤ m ^ b := by
  obtain ⟨c, rfl⟩ : ∃ c, b = a + c := ⟨b - a, by omega⟩
  rw [Int.pow_add]
  have h1 := pow_pos' m1 a
  have h2 := pow_pos' m1 c
  have := Int.mul_le_mul_of_nonneg_left (c := m ^ a) h2 (by omega)
  omega
theorem ManyOk.le {m u : Int} {a b : Nat} (m1 : 1 ≤ m) (ha : ManyOk m u a) (hb : ManyOk m u b) : a ≤ b := by
  rcases Nat.lt_or_ge b a with z | z
  · rcases ha.low with w | w
    · have := hb.pos
      omega
    · have := pow_mono m1 (show b ≤ a - 1 by omega)
      have := hb.up
      omega
  · exact z
theorem ManyOk.eq {m u : Int} {a b : Nat} (m1 : 1 ≤ m) (ha : ManyOk m u a) (hb : ManyOk m u b) : a = b := Nat.le_antisymm (ha.le m1 hb) (hb.le m1 ha)
theorem pow_two_le {m : Int} (m2 : 2 ≤ m) (k : Nat) : (k : Int) < m ^ k := by
  induction k with
  | zero => rw [Int.pow_zero]; decide
  | succ k ih =>
    rw [Int.pow_succ]
    have h1 := pow_pos' (show 1 ≤ m by omega) k
    have := Int.mul_le_mul_of_nonneg_left (c := m ^ k) m2 (by omega)
    omega
theorem ManyOk.bound {m u : Int} {n : Nat} (m2 : 2 ≤ m) (h : ManyOk m u n) : n ≤ 1 ∨ (n : Int) ≤ u := by
  rcases h.low with w | w
  · left; omega
  · right
    have := pow_two_le m2 (n - 1)
    have := h.pos
    omega
theorem by_digits_w {u m : Int} {S : Store} {Q : RV → Store → Prop} {X : QX} (m2 : 2 ≤ m) (mm : m < 2 ^ 40) (u0 : 0 ≤ u) (hu : u ≤ 10000)
    (k : ∀ n, ManyOk m u n → Q (.d (bookD m (digRows m u.toNat n))) S) : WR (okR (m_by_digits [.d (.int u), .d (.int m)] S)) Q X := by
  refine fun_w ?_
  unfold mb_by_digits
  walk_at "w"
  refine while_inv (fun j es S' => S' = S ∧ ∃ i : Nat, es = [.v (.int u), .v (.int m), .v (.int ((i : Int) + 1)), .v (.int (m ^ (i + 1))), .no, .no, .no, .no] ∧ (i = 0 ∨ m ^ i < u) ∧ j = (u - m ^ i).toNat) (fun j es S' hI => ?_) _ (u - 1).toNat _ _ ⟨rfl, 0, by rw [Int.pow_succ, Int.pow_zero, Int.one_mul]; rfl, .inl rfl, by rw [Int.pow_zero]⟩ (by omega)
  obtain ⟨rfl, i, rfl, hi, rfl⟩ := hI
  have p0 := pow_pos' (show 1 ≤ m by omega) i
  have ps : m ^ (i + 1) = m ^ i * m := Int.pow_succ ..
  have p1 : m ^ i * 2 ≤ m ^ i * m := Int.mul_le_mul_of_nonneg_left m2 (by omega)
  walk_at "w"
  refine ⟨fun hle => ?_, fun hle => ?_⟩
  · have hle : m ^ (i + 1) < u := of_decide_eq_true hle
    try walk_at "w"
    exact ⟨cmul_r (by omega) (by omega), _, by omega, i + 1, by rw [Int.pow_succ m (i + 1)]; rfl, .inr hle, rfl⟩
  · have hle : ¬ m ^ (i + 1) < u := of_decide_eq_false hle
    have ok : ManyOk m u (i + 1) := ⟨by omega, by omega, by rcases hi with rfl | h; exact .inl rfl; exact .inr h⟩
    have bd := ok.bound m2
    try walk_at "w"
    refine ⟨⟨by omega, by omega⟩, ?_⟩
    unfold rngD
    refine comp_all (fun (x : Nat) => rowL (digI m (x : Int) (i + 1))) (by rw [List.length_range]; exact le_line (by omega)) trivial (fun j x hx => ?_) ?_
    · refine ⟨_, rfl, ?_⟩
      walk_at "w"
      rw [digits_of_w (by omega) (by omega) (by omega) (by omega)]
      have e : ((i : Int) + 1).toNat = i + 1 := by omega
      simp! only [e]
    · walk_at "w"
      refine ⟨⟨by omega, by omega⟩, ?_⟩
      unfold rngD
      refine comp_all (fun (k : Nat) => rowL ((List.range u.toNat).map fun (x : Nat) => (x : Int) / m ^ k % m)) (by rw [List.length_range]; exact le_line (by omega)) trivial (fun j k hk => ?_) ?_
      · have hkl : k < i + 1 := by
          have := List.mem_range.mp (List.mem_of_getElem? hk)
          omega
        refine ⟨_, rfl, ?_⟩
        walk_at "w"
        refine comp_all (fun (x : Nat) => D.int ((x : Int) / m ^ k % m)) (by rw [List.length_range]; exact le_line (by omega)) trivial (fun j x hx => ?_) ?_
        · have dl : (digI m (x : Int) (i + 1)).length = i + 1 := by unfold digI; rw [List.length_map, List.length_range]
          have a := row_atI (r := digI m (x : Int) (i + 1)) (x := (k : Int)) (by omega) (by omega)
          have e : at_ (digI m (x : Int) (i + 1)) (k : Int) = (x : Int) / m ^ k % m := by
            unfold at_ digI
            rw [Int.toNat_natCast, List.getD_eq_getElem?_getD, List.getElem?_map, List.getElem?_range hkl]
            rfl
          rw [e] at a
          refine ⟨_, rfl, ?_⟩
          simp! only [a]
        · walk_at "w"
          show RV.d (D.tup _) = RV.d (D.tup (List.map D.int (List.map _ _)))
          rw [List.map_map]
          rfl
      · have e : ((i : Int) + 1).toNat = i + 1 := by omega
        simp! only [e]
        refine ⟨le_line (by omega), ?_⟩
        have e2 : (digRows m u.toNat (i + 1)).map rowL = (List.range (i + 1)).map fun (k : Nat) => rowL ((List.range u.toNat).map fun (x : Nat) => (x : Int) / m ^ k % m) := by
          unfold digRows
          rw [List.map_map]
          rfl
        rw [← e2]
        exact k (i + 1) ok
theorem plain_book {m : Int} {u : Nat} {rows : List (List Int)} (h : ∀ r ∈ rows, r.length ≤ 16777216) (hl : rows.length ≤ 16777216) : Plain 5 (bookD m rows) := by
  refine ⟨le_line (by simp), fun d hd => ?_⟩
  rcases List.mem_cons.mp hd with rfl | hd
  · exact trivial
  · cases List.mem_singleton.mp hd
    refine ⟨by rw [List.length_map]; exact le_line hl, fun d hd => ?_⟩
    obtain ⟨s, hs, rfl⟩ := List.mem_map.mp hd
    refine ⟨by rw [List.length_map]; exact le_line (h s hs), fun d hd => ?_⟩
    obtain ⟨x, _, rfl⟩ := List.mem_map.mp hd
    exact trivial
theorem BookOk.plain {m : Int} {u : Nat} {rows : List (List Int)} (h : BookOk m u rows) (hu : u ≤ 16777216) (hl : rows.length ≤ 16777216) : Plain 5 (bookD m rows) :=
  plain_book (u := u) (fun r hr => by rw [(h.ok r hr).1]; exact hu) hl
end

section
open PySem PySem.Spec L2 DM
theorem countP_ext {α : Type} {p q : α → Bool} : ∀ {l : List α}, (∀ a ∈ l, p a = q a) → l.countP p = l.countP q
  | [], _ => rfl
  | a :: l, h => by
    rw [List.countP_cons, List.countP_cons, countP_ext fun b hb => h b (List.mem_cons_of_mem _ hb), h a List.mem_cons_self]
theorem cnt_beyond {P : Nat → Bool} {x : Nat} : ∀ {u : Nat}, (List.range u).countP (fun y => decide (x < y) && P y) = (List.range (u - (x + 1))).countP fun j => P (x + 1 + j)
  | 0 => by rw [Nat.zero_sub]; rfl
  | u + 1 => by
    rw [List.range_succ, List.countP_append, cnt_beyond (u := u)]
    by_cases h : x < u
    · have e : u + 1 - (x + 1) = u - (x + 1) + 1 := by omega
      rw [e, List.range_succ, List.countP_append]
      congr 1
      rw [List.countP_cons, List.countP_nil, List.countP_cons, List.countP_nil]
      have e2 : x + 1 + (u - (x + 1)) = u := by omega
      rw [e2]
      simp [h]
    · have e : u + 1 - (x + 1) = 0 := by omega
      have e2 : u - (x + 1) = 0 := by omega
      rw [e, e2]
      simp [h]
theorem cnt_below {P : Nat → Bool} {y : Nat} : ∀ {u : Nat}, y ≤ u → (List.range u).countP (fun x => decide (x < y) && P x) = (List.range y).countP P
  | 0, h => by
    have : y = 0 := by omega
    subst this
    rfl
  | u + 1, h => by
    rcases Nat.lt_or_ge u y with z | z
    · have : y = u + 1 := by omega
      subst this
      apply countP_ext
      intro a ha
      have := List.mem_range.mp ha
      simp [this]
    · rw [List.range_succ, List.countP_append, cnt_below z]
      have : ¬ u < y := by omega
      simp [this]
theorem pair_count {u : Nat} (P : Nat → Nat → Bool) : (pairL u).countP (fun q => P q.1.toNat q.2.toNat) = ((List.range u).map fun y => (List.range y).countP fun x => P x y).sum := by
  have e1 : (pairL u).countP (fun q => P q.1.toNat q.2.toNat) = ((List.range u).map fun x => (List.range u).countP fun y => decide (x < y) && P x y).sum := by
    unfold pairL
    rw [List.countP_flatMap]
    congr 1
    apply List.map_congr_left
    intro x _
    rw [Function.comp_apply, cnt_beyond (P := P x)]
    unfold pairRow
    rw [List.countP_map]
    apply countP_ext
    intro j _
    show P ((x : Int)).toNat ((x : Int) + 1 + (j : Int)).toNat = P x (x + 1 + j)
    have h1 : ((x : Int)).toNat = x := by omega
    have h2 : ((x : Int) + 1 + (j : Int)).toNat = x + 1 + j := by omega
    rw [h1, h2]
  rw [e1, swapP (fun x y => decide (x < y) && P x y)]
  congr 1
  apply List.map_congr_left
  intro y hy
  exact cnt_below (P := fun x => P x y) (by have := List.mem_range.mp hy; omega)
theorem sum_cast {α : Type} {f : α → Nat} : ∀ {l : List α}, (((l.map f).sum : Nat) : Int) = (l.map fun a => ((f a : Nat) : Int)).sum
  | [] => rfl
  | a :: l => by
    rw [List.map_cons, List.sum_cons, List.map_cons, List.sum_cons, Int.natCast_add, sum_cast]
theorem pairL_length {u : Nat} : ((pairL u).length : Int) = c2 u := by
  have h := pair_count (u := u) (fun _ _ => true)
  have e : (pairL u).countP (fun _ => true) = (pairL u).length := List.countP_eq_length.mpr fun _ _ => rfl
  rw [← e, h]
  have e2 : ((List.range u).map fun y => (List.range y).countP fun x => true) = (List.range u).map fun y => y := by
    apply List.map_congr_left
    intro y _
    rw [List.countP_eq_length.mpr fun _ _ => rfl, List.length_range]
  rw [e2]
  clear h e e2
  induction u with
  | zero => rfl
  | succ u ih =>
    rw [List.range_succ, List.map_append, List.sum_append, Int.natCast_add, ih]
    have := c2_succ (u : Int)
    rw [show (((u + 1 : Nat) : Nat) : Int) = (u : Int) + 1 from rfl, this]
    simp
theorem take_count {r : List Int} {v : Int} : ∀ {y : Nat}, y ≤ r.length → (r.take y).count v = (List.range y).countP fun (x : Nat) => decide (at_ r (x : Int) = v)
  | 0, _ => rfl
  | y + 1, h => by
    have hy : y < r.length := by omega
    rw [List.take_succ, List.getElem?_eq_getElem hy, List.count_append, take_count (by omega), List.range_succ, List.countP_append]
    congr 1
    have e : at_ r (y : Int) = r[y] := by
      unfold at_
      rw [Int.toNat_natCast, List.getD_eq_getElem?_getD, List.getElem?_eq_getElem hy]
      rfl
    show List.count v [r[y]] = List.countP _ [y]
    rw [List.countP_cons, List.countP_nil, e, List.count_cons, List.count_nil]
    by_cases z : r[y] = v
    · simp [z]
    · simp [z]
theorem met_pairs {r : List Int} {u : Nat} (h : r.length = u) : (((pairL u).countP fun q => decide (at_ r q.1 = at_ r q.2) : Nat) : Int) = met r u := by
  have e : (pairL u).countP (fun q => decide (at_ r q.1 = at_ r q.2)) = (pairL u).countP (fun q => decide (at_ r ((q.1.toNat : Nat) : Int) = at_ r ((q.2.toNat : Nat) : Int))) := by
    apply countP_ext
    intro q hq
    obtain ⟨h0, h1, _⟩ := mem_pairL.mp hq
    rw [Int.toNat_of_nonneg h0, Int.toNat_of_nonneg (by omega)]
  rw [e, pair_count (fun x y => decide (at_ r (x : Int) = at_ r (y : Int))), sum_cast]
  unfold met
  congr 1
  apply List.map_congr_left
  intro y hy
  have := List.mem_range.mp hy
  rw [take_count (by omega)]
  have e2 : r.getD y 0 = at_ r (y : Int) := by
    unfold at_
    rw [Int.toNat_natCast]
  rw [e2]
theorem mets_sum {m : Int} {u : Nat} {rows : List (List Int)} (h : ∀ r ∈ rows, RowOk m u r) : (metsL rows u).sum = (rows.map fun r => met r u).sum := by
  unfold metsL metI
  rw [← sum_cast, swapP (fun (q : Int × Int) (r : List Int) => decide (at_ r q.1 = at_ r q.2)), sum_cast]
  congr 1
  apply List.map_congr_left
  intro r hr
  exact met_pairs (h r hr).1
theorem sum_le_mul {c : Int} : ∀ {l : List Int}, (∀ x ∈ l, x ≤ c) → l.sum ≤ l.length * c
  | [], _ => by simp
  | x :: l, h => by
    have h1 := sum_le_mul (l := l) fun y hy => h y (List.mem_cons_of_mem _ hy)
    have h2 := h x List.mem_cons_self
    rw [List.sum_cons, List.length_cons, Int.natCast_add, Int.add_mul]
    simp only [Int.natCast_one, Int.one_mul]
    omega
theorem sum_ge_mul {c : Int} : ∀ {l : List Int}, (∀ x ∈ l, c ≤ x) → l.length * c ≤ l.sum
  | [], _ => by simp
  | x :: l, h => by
    have h1 := sum_ge_mul (l := l) fun y hy => h y (List.mem_cons_of_mem _ hy)
    have h2 := h x List.mem_cons_self
    rw [List.sum_cons, List.length_cons, Int.natCast_add, Int.add_mul]
    simp only [Int.natCast_one, Int.one_mul]
    omega
theorem worst_least {m : Int} {u : Nat} {rows : List (List Int)} (m1 : 1 ≤ m) (h : ∀ r ∈ rows, RowOk m u r) : rows.length * leastI u m ≤ worstI rows u * c2 u := by
  have hm : ((m.toNat : Nat) : Int) = m := Int.toNat_of_nonneg (by omega)
  have h1 := mets_sum h
  have h2 : (metsL rows u).sum ≤ (metsL rows u).length * worstI rows u := sum_le_mul fun x hx => maxI_ge hx
  have h3 : ((rows.map fun r => met r u).length : Int) * leastI u m ≤ (rows.map fun r => met r u).sum := sum_ge_mul fun x hx => by
    obtain ⟨r, hr, rfl⟩ := List.mem_map.mp hx
    have := met_least (m := m.toNat) (u := u) (row := r) (by omega) (by rw [hm]; exact h r hr)
    rw [hm] at this
    exact this
  rw [List.length_map] at h3
  have e : ((metsL rows u).length : Int) = c2 u := by
    unfold metsL
    rw [List.length_map, pairL_length]
  rw [e, Int.mul_comm] at h2
  omega
theorem gcd_dvd {a b : Int} (ha : 0 ≤ a) (hb : 0 ≤ b) : a = a / gcdI a b * gcdI a b ∧ b = b / gcdI a b * gcdI a b := by
  unfold gcdI
  have h1 : ((Nat.gcd a.toNat b.toNat : Nat) : Int) ∣ a := by
    have := Int.natCast_dvd_natCast.mpr (Nat.gcd_dvd_left a.toNat b.toNat)
    rwa [Int.toNat_of_nonneg ha] at this
  have h2 : ((Nat.gcd a.toNat b.toNat : Nat) : Int) ∣ b := by
    have := Int.natCast_dvd_natCast.mpr (Nat.gcd_dvd_right a.toNat b.toNat)
    rwa [Int.toNat_of_nonneg hb] at this
  exact ⟨(Int.ediv_mul_cancel h1).symm, (Int.ediv_mul_cancel h2).symm⟩
end

section
open PySem PySem.Spec L2 DM
end

section
open PySem PySem.Spec L2 DM
local macro_rules | `(tactic| walk_at "s") => `(tactic| (repeat (refine ⟨by (first | exact le_line (by omega) | exact cmul_l (by omega) (by omega) | exact cmul_r (by omega) (by omega) | exact cdiv (by omega) (by omega) | omega | decide), ?_⟩)))
end

section
open PySem PySem.Spec L2 DM
end

section
open PySem PySem.Spec L2 DM
local macro_rules | `(tactic| walk_at "s") => `(tactic| (repeat (refine ⟨by (first | exact le_line (by omega) | exact cmul_l (by omega) (by omega) | exact cmul_r (by omega) (by omega) | exact cdiv (by omega) (by omega) | omega | decide), ?_⟩)))
end

section
open PySem PySem.Spec L2 DM
local macro_rules | `(tactic| walk_at "s") => `(tactic| (repeat (refine ⟨by (first | exact le_line (by omega) | exact cmul_l (by omega) (by omega) | exact cmul_r (by omega) (by omega) | exact cdiv (by omega) (by omega) | omega | decide), ?_⟩)))
def ptRows (p : Int) (t n u : Nat) : List (List Int) := (List.range n).map fun (v : Nat) => (List.range u).map fun (x : Nat) => worthI p (v : Int) (digI p (x : Int) t)
theorem ptRows_len {p : Int} {t n u : Nat} : (ptRows p t n u).length = n := by unfold ptRows; rw [List.length_map, List.length_range]
theorem ptRows_ok {p : Int} {t n u : Nat} (p1 : 1 ≤ p) (n1 : 1 ≤ n) : BookOk p u (ptRows p t n u) := by
  refine ⟨fun z => ?_, fun r hr => ?_⟩
  · have := congrArg List.length z
    rw [ptRows_len] at this
    have this : n = 0 := this
    omega
  · unfold ptRows at hr
    obtain ⟨v, _, rfl⟩ := List.mem_map.mp hr
    refine ⟨by rw [List.length_map, List.length_range], fun y hy => ?_⟩
    obtain ⟨x, _, rfl⟩ := List.mem_map.mp hy
    rw [worth_poly]
    exact ⟨Int.emod_nonneg _ (by omega), Int.emod_lt_of_pos _ (by omega)⟩
theorem by_points_w {p t n u : Int} {S : Store} (hp : PrimeI p) (p6 : p ≤ 1000000) (t0 : 0 ≤ t) (t1 : t ≤ 1000) (n0 : 0 ≤ n) (n1 : n ≤ 100000) (u0 : 0 ≤ u) (u1 : u ≤ 100000) : m_by_points [.d (.int p), .d (.int t), .d (.int n), .d (.int u)] S = .ok (.d (bookD p (ptRows p t.toNat n.toNat u.toNat))) S := by
  have p2 := hp.1
  refine eq_of (fun_w ?_)
  unfold mb_by_points
  walk_at "w"
  rw [need_prime_ok (by omega) hp]
  walk_at "w"
  refine ⟨le_line (by omega), ⟨by omega, by omega⟩, ?_⟩
  refine for_inv (fun v es S' => S' = S ∧ ∃ s5, es = [.v (.int p), .v (.int t), .v (.int n), .v (.int u), .own ((ptRows p t.toNat v u.toNat).map rowL), s5, .no]) ⟨rfl, .no, rfl⟩ (fun _ _ _ _ => trivial) (fun v d es S' hd h => ?_) (fun es S' h => ?_)
  · obtain ⟨rfl, hv⟩ := rngD_get hd
    obtain ⟨rfl, s5, rfl⟩ := h
    refine ⟨_, rfl, ?_⟩
    walk_at "w"
    refine ⟨⟨by omega, by omega⟩, ?_⟩
    unfold rngD
    refine comp_all (fun (x : Nat) => D.int (worthI p (v : Int) (digI p (x : Int) t.toNat))) (by rw [List.length_range]; exact le_line (by omega)) trivial (fun j x hx => ?_) ?_
    · refine ⟨_, rfl, ?_⟩
      walk_at "w"
      rw [digits_of_w (by omega) (by omega) t0 (by omega)]
      walk_at "w"
      rw [worth_at_w (by omega) (by omega) (by omega)]
      walk_at "w"
    · walk_at "w"
      refine ⟨by rw [List.length_map, ptRows_len]; unfold sizeLine; omega, .v (.int v), ?_⟩
      have e : ptRows p t.toNat (v + 1) u.toNat = ptRows p t.toNat v u.toNat ++ [(List.range u.toNat).map fun (x : Nat) => worthI p (v : Int) (digI p (x : Int) t.toNat)] := by
        unfold ptRows
        rw [List.range_succ, List.map_append]
        rfl
      rw [e, List.map_append]
      show _ = [_, _, _, _, Slot.own (_ ++ [D.tup (List.map D.int (List.map _ _))]), _, _]
      rw [List.map_map]
      rfl
  · obtain ⟨rfl, s5, rfl⟩ := h
    rw [rngD_len]
    walk_at "w"
    exact le_line (by omega)
end

section
open PySem PySem.Spec L2 DM
def meanM (rows : List (List Int)) (u : Nat) : Int := (rows.map fun r => met r u).sum
theorem gcd_scale {a b k : Int} (ha : 0 ≤ a) (hb : 0 ≤ b) (hk : 0 ≤ k) : gcdI (a * k) (b * k) = gcdI a b * k := by
  unfold gcdI
  rw [Int.toNat_mul ha hk, Int.toNat_mul hb hk, Nat.gcd_mul_right, Int.natCast_mul, Int.toNat_of_nonneg hk]
theorem lowT_scale {a b k : Int} (ha : 0 ≤ a) (hb : 0 < b) (hk : 0 < k) : lowT (a * k) (b * k) = lowT a b := by
  unfold lowT
  have g0 := gcd_pos (a := a) (b := b) (.inr hb)
  rw [gcd_scale ha (by omega) (by omega), Int.mul_ediv_mul_of_pos_left _ _ hk, Int.mul_ediv_mul_of_pos_left _ _ hk]
structure Uni (rows : List (List Int)) (u c : Nat) : Prop where
  all : ∀ x y : Int, 0 ≤ x → x < y → y < u → metI rows x y = c
theorem Uni.any {rows : List (List Int)} {u c : Nat} (h : Uni rows u c) {x y : Int} (x0 : 0 ≤ x) (xu : x < u) (y0 : 0 ≤ y) (yu : y < u) (ne : x ≠ y) : metI rows x y = c := by
  rcases Int.lt_or_gt_of_ne ne with z | z
  · exact h.all x y x0 z yu
  · rw [metI_comm]
    exact h.all y x y0 z xu
theorem Uni.worst {rows : List (List Int)} {u c : Nat} (h : Uni rows u c) (hu : 2 ≤ u) : worstI rows u = c := by
  obtain ⟨x, y, x0, xy, yu, e⟩ := worst_mem (rows := rows) hu
  rw [e, h.all x y x0 xy yu]
theorem Uni.worstP {rows : List (List Int)} {u c : Nat} (h : Uni rows u c) (hu : 2 ≤ u) : worstP rows u = pairL u := by
  unfold LM.worstP
  apply List.filter_eq_self.mpr
  intro q hq
  obtain ⟨h0, h1, h2⟩ := mem_pairL.mp hq
  rw [h.worst hu, h.all q.1 q.2 h0 h1 h2]
  exact decide_eq_true rfl
theorem Uni.mean {m : Int} {rows : List (List Int)} {u c : Nat} (h : Uni rows u c) (ok : ∀ r ∈ rows, RowOk m u r) : meanM rows u = c * c2 u := by
  unfold meanM
  rw [← mets_sum ok]
  have e : metsL rows u = (pairL u).map fun _ => (c : Int) := by
    unfold metsL
    apply List.map_congr_left
    intro q hq
    obtain ⟨h0, h1, h2⟩ := mem_pairL.mp hq
    rw [h.all q.1 q.2 h0 h1 h2]
  rw [e, ← pairL_length, Int.mul_comm]
  induction pairL u with
  | nil => simp
  | cons a l ih =>
    rw [List.map_cons, List.sum_cons, ih, List.length_cons, Int.natCast_add, Int.add_mul]
    simp only [Int.natCast_one, Int.one_mul]
    omega
end

section
open PySem PySem.Spec L2 DM
theorem cut_to {T : Type} {xs : List T} {i : Int} (h0 : 0 ≤ i) : cutL xs none (some i) = xs.take i.toNat := by
  unfold cutL HT.sIx
  have : ¬ i < 0 := by omega
  simp only [this, if_false, List.drop_zero, Nat.sub_zero]
  rcases Nat.le_total i.toNat xs.length with z | z
  · rw [Nat.min_eq_left z]
  · rw [Nat.min_eq_right z, List.take_of_length_le (Nat.le_refl _), List.take_of_length_le z]
theorem cut_from {T : Type} {xs : List T} {i : Int} (h0 : 0 ≤ i) : cutL xs (some i) none = xs.drop i.toNat := by
  unfold cutL HT.sIx
  have : ¬ i < 0 := by omega
  simp only [this, if_false]
  rcases Nat.le_total i.toNat xs.length with z | z
  · rw [Nat.min_eq_left z, List.take_of_length_le (by rw [List.length_drop]; omega)]
  · rw [Nat.min_eq_right z, List.drop_of_length_le (Nat.le_refl _), List.drop_of_length_le z]
    simp
theorem shaped_tints {xs : List Int} : SeqAt.shaped (.tuple (xs.map PyData.int)) = true := by
  have h1 : PyData.canLay0 (.tuple (xs.map PyData.int)) = true := lay_all fun p hp => by obtain ⟨x, _, rfl⟩ := List.mem_map.mp hp; rfl
  have h2 : PyData.depth (.tuple (xs.map PyData.int)) ≤ 1 := by
    have := depth_all (k := 0) (ps := xs.map PyData.int) fun p hp => by obtain ⟨x, _, rfl⟩ := List.mem_map.mp hp; exact Nat.le_refl _
    show PyData.depthAll _ + 1 ≤ 1
    omega
  unfold SeqAt.shaped
  rw [h1]
  exact decide_eq_true (by omega)
end

section
open PySem PySem.Spec L2 DM
def BagC (S : Store) (b c n : Nat) : Prop := ∃ (cells : List Int) (at_ left : Int), S[b]? = some (.lst [.loc c, .int at_, .int left]) ∧ S[c]? = some (.lst (cells.map .int)) ∧ b ≠ c ∧ 0 ≤ at_ ∧ at_ ≤ n ∧ 0 ≤ left
theorem BagC.mono {S : Store} {b c n k : Nat} (h : BagC S b c n) (hk : n ≤ k) : BagC S b c k := by
  obtain ⟨cells, a, l, h1, h2, h3, h4, h5, h6⟩ := h
  exact ⟨cells, a, l, h1, h2, h3, h4, by omega, h6⟩
theorem BagC.lt {S : Store} {b c n : Nat} (h : BagC S b c n) : b < S.length ∧ c < S.length := by
  obtain ⟨cells, a, l, h1, h2, h3, h4, h5, h6⟩ := h
  exact ⟨(List.getElem?_eq_some_iff.mp h1).1, (List.getElem?_eq_some_iff.mp h2).1⟩
theorem BagC.ext {S S' : Store} {b c n : Nat} (h : BagC S b c n) (e : Ext S S') : BagC S' b c n := by
  obtain ⟨cells, a, l, h1, h2, h3, h4, h5, h6⟩ := h
  exact ⟨cells, a, l, e.get h1, e.get h2, h3, h4, h5, h6⟩
theorem BagC.set {S : Store} {b c n i : Nat} {o : O} (h : BagC S b c n) (hb : i ≠ b) (hc : i ≠ c) : BagC (S.set i o) b c n := by
  obtain ⟨cells, a, l, h1, h2, h3, h4, h5, h6⟩ := h
  exact ⟨cells, a, l, by rw [List.getElem?_set_ne hb]; exact h1, by rw [List.getElem?_set_ne hc]; exact h2, h3, h4, h5, h6⟩
end

section
open PySem PySem.Spec L2 DM
end

section
open PySem PySem.Spec L2 DM
end

section
open PySem PySem.Spec L2 DM
theorem ints_py {S : Store} {n : Nat} : ∀ L : List Int, (L.map D.int).mapM (pyD (n + 1) S) = some (L.map PyData.int)
  | [] => rfl
  | q :: L => by
    rw [List.map_cons, List.mapM_cons, ints_py L]
    rfl
end

section
open PySem PySem.Spec L2 DM
def apartB (r some : List Int) : Bool := decide ((some.map (at_ r)).Nodup)
end

section
open PySem PySem.Spec L2 DM
end

section
open PySem PySem.Spec L2 DM
end

section
open PySem PySem.Spec L2 DM
end

section
end

section
open PySem PySem.Spec L2 DM
def okS (x : Str) : Prop := ∀ c ∈ x.cps.toList, c < 0x110000
def Grow (b : Nat) (S S' : Store) : Prop := S.length ≤ S'.length ∧ ∀ j, j < S.length → j ≠ b → S'[j]? = S[j]?
theorem Grow.refl (b : Nat) (S : Store) : Grow b S S := ⟨Nat.le_refl _, fun _ _ _ => rfl⟩
theorem Grow.trans {b : Nat} {S S1 S2 : Store} (h : Grow b S S1) (k : Grow b S1 S2) : Grow b S S2 := ⟨Nat.le_trans h.1 k.1, fun j hj hb => (k.2 j (Nat.lt_of_lt_of_le hj h.1) hb).trans (h.2 j hj hb)⟩
theorem Grow.of_ext {b : Nat} {S S' : Store} (h : Ext S S') : Grow b S S' := ⟨h.1, fun j hj _ => h.2 j hj⟩
theorem Grow.get {b : Nat} {S S' : Store} {j : Nat} {o : O} (h : Grow b S S') (e : S[j]? = some o) (hb : j ≠ b) : S'[j]? = some o := (h.2 j (List.getElem?_eq_some_iff.mp e).1 hb).trans e
theorem Grow.push {b : Nat} {S : Store} {o : O} : Grow b S (S ++ [o]) := .of_ext Ext.push
def AnyD (b : Nat) (S : Store) : Nat → D → Prop
  | 0, _ => False
  | _ + 1, .non => True
  | _ + 1, .bl _ => True
  | _ + 1, .int i => i.natAbs < 2 ^ 200
  | _ + 1, .str x => okS x ∧ okS (reprText x) ∧ (reprText x).length ≤ 200
  | n + 1, .tup ds => ds.length ≤ 150 ∧ ∀ d ∈ ds, AnyD b S n d
  | n + 1, .loc l => l ≠ b ∧ ∃ ds, S[l]? = some (.lst ds) ∧ ds.length ≤ 150 ∧ ∀ d ∈ ds, AnyD b S n d
  | _ + 1, _ => False
theorem AnyD.grow {b : Nat} {S S' : Store} (h : Grow b S S') : ∀ {n : Nat} {d : D}, AnyD b S n d → AnyD b S' n d
  | 0, _, z => z.elim
  | _ + 1, .non, _ => trivial
  | _ + 1, .bl _, _ => trivial
  | _ + 1, .int _, z => z
  | _ + 1, .str _, z => z
  | n + 1, .tup ds, z => ⟨z.1, fun d hd => AnyD.grow h (z.2 d hd)⟩
  | n + 1, .loc l, z => by
    obtain ⟨hb, ds, e, hl, hd⟩ := z
    exact ⟨hb, ds, h.get e hb, hl, fun d q => AnyD.grow h (hd d q)⟩
  | _ + 1, .ty _, z => z.elim
  | _ + 1, .cls _, z => z.elim
  | _ + 1, .fn _, z => z.elim
  | _ + 1, .exn _ _, z => z.elim
  | _ + 1, .scr _, z => z.elim
theorem AnyD.up {b : Nat} {S : Store} : ∀ {n m : Nat} {d : D}, AnyD b S n d → n ≤ m → AnyD b S m d
  | 0, _, _, z, _ => z.elim
  | _ + 1, 0, _, _, h => absurd h (by omega)
  | _ + 1, _ + 1, .non, _, _ => trivial
  | _ + 1, _ + 1, .bl _, _, _ => trivial
  | _ + 1, _ + 1, .int _, z, _ => z
  | _ + 1, _ + 1, .str _, z, _ => z
  | n + 1, m + 1, .tup ds, z, h => ⟨z.1, fun d hd => AnyD.up (z.2 d hd) (by omega)⟩
  | n + 1, m + 1, .loc l, z, h => by
    obtain ⟨hb, ds, e, hl, hd⟩ := z
    exact ⟨hb, ds, e, hl, fun d q => AnyD.up (hd d q) (by omega)⟩
  | _ + 1, _ + 1, .ty _, z, _ => z.elim
  | _ + 1, _ + 1, .cls _, z, _ => z.elim
  | _ + 1, _ + 1, .fn _, z, _ => z.elim
  | _ + 1, _ + 1, .exn _ _, z, _ => z.elim
  | _ + 1, _ + 1, .scr _, z, _ => z.elim
theorem ne_ss_self {S : Store} {x : Str} (h : PyData.canLay0 (.str x) = true) : neF S (.d (.str x)) (.d (.str x)) = some (.d (.bl false)) := (eq_self (k := 1) (d := .str x) h (by decide)).2
end

section
open PySem PySem.Spec L2 DM
def RsOk (many : Int) (ns : List Int) : Prop := ns.Pairwise (· < ·) ∧ ∀ x ∈ ns, 0 ≤ x ∧ x < many
instance {many : Int} {ns : List Int} : Decidable (RsOk many ns) := by unfold RsOk; infer_instance
end

section
open PySem PySem.Spec L2 DM
local macro_rules | `(tactic| walk_at "z") => `(tactic| first | decide | (refine le_line ?_; simp only [List.length_append, List.length_map, List.length_take, List.length_drop, List.length_cons, List.length_nil, List.length_reverse]; omega) | (show _ + 1 ≤ sizeLine; refine le_line ?_; simp only [List.length_append, List.length_map, List.length_take, List.length_drop, List.length_cons, List.length_nil, List.length_reverse]; omega))
theorem Grow.set {b i : Nat} {S S' : Store} {o : O} (h : Grow b S S') (hi : S.length ≤ i) : Grow b S (S'.set i o) := ⟨by rw [List.length_set]; exact h.1, fun j hj hb => by rw [List.getElem?_set_ne (by omega)]; exact h.2 j hj hb⟩
end

section
open PySem PySem.Spec L2 DM
section
variable {b n : Nat} {m : Int} {u : Nat} {rows : List (List Int)} {S : Store}
def meetL (bs : List Int) : Int := ((List.range bs.length).map fun (k : Nat) => (((bs.take k).count ((bs[k]?).getD 0) : Nat) : Int)).sum
end
end

section
open PySem PySem.Spec L2 DM
theorem sum_addN {f g : Nat → Int} : ∀ l : List Nat, (l.map fun y => f y + g y).sum = (l.map f).sum + (l.map g).sum
  | [] => rfl
  | x :: l => by
    rw [List.map_cons, List.sum_cons, List.map_cons, List.sum_cons, List.map_cons, List.sum_cons, sum_addN l]
    omega
theorem meetL_snoc (bs : List Int) (x : Int) : meetL (bs ++ [x]) = meetL bs + ((bs.count x : Nat) : Int) := by
  unfold meetL
  rw [List.length_append, List.length_singleton, List.range_succ, List.map_append, List.sum_append]
  congr 1
  · congr 1
    refine List.map_congr_left fun k hk => ?_
    have hk := List.mem_range.mp hk
    rw [List.take_append_of_le_length (by omega), List.getElem?_append_left hk]
  · simp
theorem snoc_ind {P : List Int → Prop} (h0 : P []) (h1 : ∀ l x, P l → P (l ++ [x])) : ∀ l, P l := by
  intro l
  have : ∀ r : List Int, P r.reverse := by
    intro r
    induction r with
    | nil => exact h0
    | cons x r ih => rw [List.reverse_cons]; exact h1 _ _ ih
  have h := this l.reverse
  rw [List.reverse_reverse] at h
  exact h
def boxF (p a b m x : Int) : Int := (a * x + b) % p % m
end

section
open PySem PySem.Spec L2 DM
theorem boxF_in {p a b m x : Int} (hm : 0 < m) : 0 ≤ boxF p a b m x ∧ boxF p a b m x < m := ⟨Int.emod_nonneg _ (by omega), Int.emod_lt_of_pos _ hm⟩
def inBox (p : Int) (q : Int × Int) (m box : Int) (s : List Int) : List Int := s.filter fun x => decide (boxF p q.1 q.2 m x = box)
def cellD (p a b M : Int) (s : List Int) (i : Nat) : D := match s.find? (fun x => decide (boxF p a b M x = (i : Int))) with
  | some x => .int x
  | none => .non
def cellL (p a b M : Int) (s : List Int) : List D := (List.range M.toNat).map (cellD p a b M s)
theorem cellL_len {p a b M : Int} {s : List Int} : (cellL p a b M s).length = M.toNat := by unfold cellL; simp
theorem inBox_rs {p m box : Int} {q : Int × Int} {s : List Int} (hs : RsOk p s) : RsOk p (inBox p q m box s) ∧ (inBox p q m box s).length ≤ s.length :=
  ⟨⟨hs.1.filter _, fun x hx => hs.2 x ((List.mem_filter.mp hx).1)⟩, List.length_filter_le _ _⟩
end

section
open PySem PySem.Spec L2 DM
def isPairB (p : Int) (x y : D) : Bool := match x, y with
  | .int a, .int b => decide (0 < a) && (decide (a < p) && (decide (0 ≤ b) && decide (b < p)))
  | _, _ => false
theorem isPairB_true {p : Int} {x y : D} (h : isPairB p x y = true) : ∃ a b : Int, x = .int a ∧ y = .int b ∧ (0 < a ∧ a < p) ∧ 0 ≤ b ∧ b < p := by
  cases x <;> cases y <;> first | (cases h) | skip
  rename_i a b
  have h : (decide (0 < a) && (decide (a < p) && (decide (0 ≤ b) && decide (b < p)))) = true := h
  simp only [Bool.and_eq_true, decide_eq_true_iff] at h
  exact ⟨a, b, rfl, rfl, ⟨h.1, h.2.1⟩, h.2.2⟩
def isCellB (d due : D) : Bool := match due with
  | .int v => match d with
    | .int w => decide (w = v)
    | _ => false
  | _ => isNon (.d d)
def cellsB (s : List Int) (L : List D) (z : D) : Bool := match z with
  | .tup cs => decide (cs.length = s.length * s.length) && ((cs.zip L).all fun q => isCellB q.1 q.2)
  | _ => false
def roomB (p : Int) (s : List Int) (d : D) : Bool := match d with
  | .tup [x, y, z] => match x, y with
    | .int a, .int b => isPairB p (.int a) (.int b) && (decide ((s.map (boxF p a b ((s.length : Int) * (s.length : Int)))).Nodup) && cellsB s (cellL p a b ((s.length : Int) * (s.length : Int)) s) z)
    | _, _ => false
  | _ => false
theorem cellD_two {p a b M : Int} {s : List Int} {d : D} (h : d ∈ cellL p a b M s) : d = .non ∨ ∃ v, d = .int v := by
  unfold cellL at h
  obtain ⟨i, _, rfl⟩ := List.mem_map.mp h
  unfold cellD
  split
  · exact .inr ⟨_, rfl⟩
  · exact .inl rfl
def squaresI (ps : List (List Int)) : Int := (ps.map fun t => (t.length : Int) * (t.length : Int)).sum
def partsP (p a b : Int) (s : List Int) : List (List Int) := (List.range s.length).map fun i : Nat => inBox p (a, b) (s.length : Int) (i : Int) s
def roomsB (p a b : Int) (s : List Int) (z : D) : Bool := match z with
  | .tup rs => decide (rs.length = s.length) && ((((partsP p a b s).zip rs).all fun q => roomB p q.1 q.2) && decide (squaresI (partsP p a b s) < 2 * (s.length : Int)))
  | _ => false
def floorsB (p : Int) (s : List Int) (d : D) : Bool := match d with
  | .tup [x, y, z] => match x, y with
    | .int a, .int b => isPairB p (.int a) (.int b) && roomsB p a b s z
    | _, _ => false
  | _ => false
end

section
open PySem PySem.Spec L2 DM
end

section
open PySem PySem.Spec L2 DM
theorem sum_extN {f g : Nat → Int} {l : List Nat} (h : ∀ x ∈ l, f x = g x) : (l.map f).sum = (l.map g).sum := by
  rw [List.map_congr_left h]
theorem sum_one {m : Nat} {x : Int} (x0 : 0 ≤ x) (xm : x < m) (c : Int) : ((List.range m).map fun k : Nat => if x = (k : Int) then c else 0).sum = c := by
  induction m with
  | zero => omega
  | succ m ih =>
    rw [List.range_succ, List.map_append, List.sum_append]
    by_cases z : x = (m : Int)
    · have h0 : ((List.range m).map fun k : Nat => if x = (k : Int) then c else 0).sum = 0 := by
        have : ((List.range m).map fun k : Nat => if x = (k : Int) then c else 0).sum = ((List.range m).map fun _ : Nat => (0 : Int)).sum := sum_extN fun k hk => by
          have := List.mem_range.mp hk
          rw [if_neg (by omega)]
        rw [this]
        have hz : ∀ n : Nat, ((List.range n).map fun _ : Nat => (0 : Int)).sum = 0 := fun n => by
          induction n with
          | zero => rfl
          | succ n ih => rw [List.range_succ, List.map_append, List.sum_append, ih]; rfl
        exact hz m
      rw [h0]
      simp [z]
    · rw [ih (by omega)]
      simp [z]
theorem squares_meet {m : Nat} : ∀ bs : List Int, (∀ x ∈ bs, 0 ≤ x ∧ x < m) → ((List.range m).map fun k : Nat => ((bs.count (k : Int) : Nat) : Int) * ((bs.count (k : Int) : Nat) : Int)).sum = (bs.length : Int) + 2 * meetL bs := by
  refine snoc_ind ?_ ?_
  · intro _
    have hz : ∀ n : Nat, ((List.range n).map fun _ : Nat => (0 : Int)).sum = 0 := fun n => by
      induction n with
      | zero => rfl
      | succ n ih => rw [List.range_succ, List.map_append, List.sum_append, ih]; rfl
    exact hz m
  · intro l x ih hb
    have ih := ih fun y hy => hb y (List.mem_append_left _ hy)
    have hx := hb x (List.mem_append_right _ List.mem_cons_self)
    have e : ((List.range m).map fun k : Nat => (((l ++ [x]).count (k : Int) : Nat) : Int) * (((l ++ [x]).count (k : Int) : Nat) : Int)).sum = ((List.range m).map fun k : Nat => ((l.count (k : Int) : Nat) : Int) * ((l.count (k : Int) : Nat) : Int) + if x = (k : Int) then 2 * ((l.count x : Nat) : Int) + 1 else 0).sum := sum_extN fun k hk => by
      rw [List.count_append]
      by_cases z : x = (k : Int)
      · rw [if_pos z, z]
        simp
        grind
      · rw [if_neg z]
        have : List.count (k : Int) [x] = 0 := by simp [z]
        rw [this]
        simp
    rw [e, sum_addN, ih, sum_one hx.1 hx.2, meetL_snoc]
    simp
    omega
theorem inBox_len {p m : Int} {q : Int × Int} {k : Nat} {s : List Int} : (inBox p q m (k : Int) s).length = (s.map (boxF p q.1 q.2 m)).count (k : Int) := by
  unfold inBox
  induction s with
  | nil => rfl
  | cons x s ih =>
    rw [List.filter_cons, List.map_cons, List.count_cons]
    by_cases z : boxF p q.1 q.2 m x = (k : Int)
    · rw [if_pos (decide_eq_true z), List.length_cons, ih, if_pos (by simp [z])]
    · rw [if_neg (by simp [z]), ih, if_neg (by simp [z])]
      rfl
theorem squares_parts {p a b : Int} {s : List Int} (h1 : 1 ≤ s.length) : squaresI (partsP p a b s) = (s.length : Int) + 2 * meetL (s.map (boxF p a b (s.length : Int))) := by
  have h := squares_meet (m := s.length) (s.map (boxF p a b (s.length : Int))) fun x hx => by
    obtain ⟨y, hy, rfl⟩ := List.mem_map.mp hx
    exact boxF_in (by omega)
  rw [List.length_map] at h
  rw [← h]
  unfold squaresI partsP
  rw [List.map_map]
  refine sum_extN fun k hk => ?_
  show (((inBox p (a, b) (s.length : Int) (k : Int) s).length : Nat) : Int) * _ = _
  rw [inBox_len]
theorem cell_is {d e : D} {p a b M : Int} {s : List Int} (he : e ∈ cellL p a b M s) (h : isCellB d e = true) : d = e := by
  rcases cellD_two he with rfl | ⟨v, rfl⟩
  · cases d <;> first | rfl | cases h
  · cases d <;> first | (cases h) | skip
    rename_i w
    have : w = v := of_decide_eq_true h
    rw [this]
theorem zip_all_eq {f : D → D → Bool} : ∀ {cs L : List D}, cs.length = L.length → (∀ d e, e ∈ L → f d e = true → d = e) → ((cs.zip L).all fun q => f q.1 q.2) = true → cs = L
  | [], [], _, _, _ => rfl
  | [], _ :: _, h, _, _ => by cases h
  | _ :: _, [], h, _, _ => by cases h
  | c :: cs, e :: L, hl, hf, h => by
    rw [List.zip_cons_cons, List.all_cons, Bool.and_eq_true] at h
    rw [hf c e List.mem_cons_self h.1, zip_all_eq (by simpa using hl) (fun d e he => hf d e (List.mem_cons_of_mem _ he)) h.2]
theorem sq_nat {k : Nat} : ((k : Int) * (k : Int)).toNat = k * k := by
  rw [← Int.natCast_mul]; exact Int.toNat_natCast _
theorem cellsB_eq {p a b : Int} {t : List Int} {z : D} (h : cellsB t (cellL p a b ((t.length : Int) * (t.length : Int)) t) z = true) : z = .tup (cellL p a b ((t.length : Int) * (t.length : Int)) t) := by
  cases z <;> first | (cases h) | skip
  rename_i cs
  have h : (decide (cs.length = t.length * t.length) && _) = true := h
  rw [Bool.and_eq_true] at h
  have hl := of_decide_eq_true h.1
  rw [zip_all_eq (by rw [cellL_len, sq_nat]; exact hl) (fun d e he => cell_is he) h.2]
theorem roomB_true {p : Int} {t : List Int} {d : D} (h : roomB p t d = true) : ∃ a b : Int, d = .tup [.int a, .int b, .tup (cellL p a b ((t.length : Int) * (t.length : Int)) t)] ∧ (t.map (boxF p a b ((t.length : Int) * (t.length : Int)))).Nodup := by
  unfold roomB at h
  split at h
  · split at h
    · rename_i a b
      simp only [Bool.and_eq_true] at h
      exact ⟨a, b, by rw [cellsB_eq h.2.2], of_decide_eq_true h.2.1⟩
    · cases h
  · cases h
theorem cellD_out {p a b M x : Int} {t : List Int} {i : Nat} (h : cellD p a b M t i = .int x) : x ∈ t := by
  unfold cellD at h
  split at h
  · rename_i y hy
    cases h
    exact List.mem_of_find?_eq_some hy
  · cases h
theorem pair_B {p a b : Int} (ha : 1 ≤ a ∧ a < p) (hb : 0 ≤ b ∧ b < p) : isPairB p (.int a) (.int b) = true := by
  show (decide (0 < a) && (decide (a < p) && (decide (0 ≤ b) && decide (b < p)))) = true
  rw [decide_eq_true (by omega : 0 < a), decide_eq_true ha.2, decide_eq_true hb.1, decide_eq_true hb.2]
  rfl
end

section
open PySem PySem.Spec L2 DM
theorem mem_le_sum {l : List Int} (h : ∀ x ∈ l, 0 ≤ x) : ∀ x ∈ l, x ≤ l.sum := by
  induction l with
  | nil => intro x hx; cases hx
  | cons a l ih =>
    have h0 : ∀ m : List Int, (∀ x ∈ m, 0 ≤ x) → 0 ≤ m.sum := fun m hm => by
      induction m with
      | nil => exact Int.le_refl 0
      | cons b m ih => rw [List.sum_cons]; have := hm b List.mem_cons_self; have := ih fun x hx => hm x (List.mem_cons_of_mem _ hx); omega
    intro x hx
    rw [List.sum_cons]
    have h1 := h0 l fun y hy => h y (List.mem_cons_of_mem _ hy)
    rcases List.mem_cons.mp hx with rfl | hx
    · omega
    · have := ih (fun y hy => h y (List.mem_cons_of_mem _ hy)) x hx
      have := h a List.mem_cons_self
      omega
end

section
open PySem PySem.Spec L2 DM
end

section
open PySem PySem.Spec L2 DM
def DtL (F : D → PyData → Prop) (ds : List D) (ps : List PyData) : Prop := ds.length ≤ sizeLine ∧ ds.length = ps.length ∧ ∀ (i : Nat) d p, ds[i]? = some d → ps[i]? = some p → F d p
theorem DtL.cons {F : D → PyData → Prop} {d : D} {p : PyData} {ds : List D} {ps : List PyData} (h : DtL F (d :: ds) (p :: ps)) : F d p ∧ DtL F ds ps :=
  ⟨h.2.2 0 d p rfl rfl, by have := h.1; simp at this; omega, by have := h.2.1; simpa using this, fun i e q h1 h2 => h.2.2 (i + 1) e q (by simpa using h1) (by simpa using h2)⟩
end

section
open PySem PySem.Spec L2 DM
def listsO (L : List (List Int)) : Store := L.map fun xs => O.lst (xs.map .int)
def TabAt (S : Store) (a : Nat) (L : List (List Int)) : Prop := ∀ (i : Nat) xs, L[i]? = some xs → S[a + i]? = some (.lst (xs.map .int))
theorem TabAt.ext {S S' : Store} {a : Nat} {L : List (List Int)} (h : TabAt S a L) (e : Ext S S') : TabAt S' a L := fun i xs hx => e.get (h i xs hx)
theorem Ext.lists {S : Store} {L : List (List Int)} : Ext S (S ++ listsO L) := ⟨by simp, fun j hj => by rw [List.getElem?_append_left hj]⟩
end

section
open PySem PySem.Spec L2 DM
end

section
open PySem PySem.Spec L2 DM
section
variable {b n : Nat} {m : Int} {u : Nat} {rows : List (List Int)} {S : Store} {x y : D}
end
end

section
open PySem PySem.Spec L2 DM
def cntA (L : List (List Int)) (r : List Int) : Nat := (L.filter (apartB r)).length
def leftA (L : List (List Int)) (r : List Int) : List (List Int) := L.filter fun s => !apartB r s
def BestK (rows L : List (List Int)) (n : Nat) (r : List Int) : Prop := rows[n]? = some r ∧ (∀ q ∈ rows, cntA L q ≤ cntA L r) ∧ ∀ j q, j < n → rows[j]? = some q → cntA L q < cntA L r
inductive Gre (rows : List (List Int)) : List (List Int) → List Int → Bool × List Int → Prop
  | done (acc : List Int) : Gre rows [] acc (true, acc)
  | miss {s : List Int} {L : List (List Int)} {acc : List Int} (h : ∀ q ∈ rows, cntA (s :: L) q = 0) : Gre rows (s :: L) acc (false, s)
  | step {s : List Int} {L : List (List Int)} {acc : List Int} {n : Nat} {r : List Int} {z : Bool × List Int} (h : BestK rows (s :: L) n r) (h0 : 0 < cntA (s :: L) r) (t : Gre rows (leftA (s :: L) r) (acc ++ [(n : Int)]) z) : Gre rows (s :: L) acc z
theorem eqv_ints : ∀ (xs ys : List Int), PyData.eqvAll (xs.map PyData.int) (ys.map PyData.int) = decide (xs = ys)
  | [], [] => rfl
  | [], y :: ys => by
    rw [decide_eq_false (by simp)]
    simp [PyData.eqvAll]
  | x :: xs, [] => by
    rw [decide_eq_false (by simp)]
    simp [PyData.eqvAll]
  | x :: xs, y :: ys => by
    have ih := eqv_ints xs ys
    rw [List.map_cons, List.map_cons]
    have : PyData.eqvAll (PyData.int x :: xs.map PyData.int) (PyData.int y :: ys.map PyData.int) = ((PyData.eqv (.int x) (.int y)) && PyData.eqvAll (xs.map PyData.int) (ys.map PyData.int)) := by simp [PyData.eqvAll]
    rw [this, ih]
    have h2 : PyData.eqv (.int x) (.int y) = decide (x = y) := by
      simp only [PyData.eqv]
      by_cases h : x = y <;> simp [h]
    rw [h2, ← Bool.decide_and]
    exact decide_eq_decide.mpr (by simp)
end

section
open PySem PySem.Spec L2 DM
local macro_rules | `(tactic| walk_at "w") => `(tactic| simp only [QV_v, QV_own, QV_bor, QI_d, QI_l, QO_d, QO_l, QO_ite, QO_A, QA_s, w_C, w_var, kA2_e, kB2_dd, kB2_ld, kB2_dl, kB2_ll, w_op2, kA1_d, w_op1, kArg_e, kArg2_d, kArg2_l, w_args0, w_args, kOpN_e, w_opN, kIt_e, kIt2_e, kIt3_e, w_items0, w_items, kTup_e, kLst_e, w_tup, w_lst, kB_e, w_bOf, kAnd_t, kAnd_f, kOr_t, kOr_f, kNot_e, w_bAnd, w_bOr, w_bNot, w_bYes, kEAnd_t, kEAnd_f, kEOr_t, kEOr_f, kENot_e, w_eAnd, w_eOr, w_eNot, kEIf_t, kEIf_f, w_eIf, kCall_e, w_call, okR_d, okR_l, okR_ex, kPart2_e, w_part0, w_part, kSl3_d, kSl3_l, kSl2_e, kSl_e, w_sl, kCh_e, kCh1_e, kCh2_t, kCh2_f, w_chain, seq_nx, seq_rt, seq_bk, seq_ct, seq_ex, kX_e, w_seq, w_nop, w_brk, w_cnt, kIf_t, kIf_f, w_if, kRet_d, kRet_l, w_ret, w_retN, QRV_v, QRV_own, w_retV, kDrop_e, w_drop, kSet_d, kSet_l, w_set, kSetS_d, kSetS_l, w_setS, QMv_e, w_move, QG_e, tg_name, tg_tup, tg_tup1, tg_tup2, tg_tup3, tg_tup4, tg_nil, tg_cons, ob_some, kAsg_d, w_asg, kPar_e, w_par, kSixN_e, kSixL_e, QSt_e, kSixO_e, kSixT_e, QSix_o, QSix_l, kSix_d, kSix_l, w_setix, kAppO_d, kAppO_l, QAppT_e, kAppT_d, kAppT_l, QApp_o, QApp_l, w_app, kExtO_l, QExt_o, QS_t, QS_l, QSL_e, QQ_b, QQ_v, w_qVar, kQE_l, kQE_d, w_qE, kQC_l, kQC_d, w_qC, kSeq_e, w_miSeq, kRev_e, w_miRev, kEnum_e, w_miEnum, kZip_e, kZip2_e, w_miZip, kR1_e, w_miRng1, kR2_e, kR3_e, rngD_len, rngD2_len, chk_t, chk_p, chk_s, isT_t, isT_p, isT_s, w_for, lp_nx, lp_rt, lp_bk, lp_ct, lp_ex, frzS_e, frzQ_o, frzQ_v, frzQ_b, frzQ_n, unfS_e, unfQ_o, unfQ_v, unfQ_b, unfQ_n, unf_nx, unf_rt, unf_bk, unf_ct, unf_ex, w_frz, w_comp, EnF_nx, EnF_d, EnF_l, EnF_ex, slot_d, slot_f, add_ii, add_ss, add_tt, add_ll, sub_ii, mul_ii, mul_li, div_ii, mod_ii, pow_ii, shl_ii, shr_ii, lt_ii, le_ii, gt_ii, ge_ii, neg_i, and_ii, or_ii, xor_ii, is_n, isnt_n, isNon_n, isNon_b, isNon_i, isNon_s, isNon_t, isNon_o, isNon_l, isNon_e, lstO_e, lstOf_l, lstOf_o, om_some, ix_t, ix_s, ix_l, ix_o, len_s, len_t, len_l, len_o, sum_l, all_l, any_l, max_ii, min_ii, max_l, min_l, tup_t, tup_l, tup_o, list_t, list_l, list_o, int_i, int_b, str_i, sl_t, sl_l, sl_s, eq_ii, ne_ii, eq_bb, ne_bb, isi_non_int, isi_non_bool, isi_non_str, isi_non_tuple, isi_non_list, isi_non_tl, isi_bl_int, isi_bl_bool, isi_bl_str, isi_bl_tuple, isi_bl_list, isi_bl_tl, isi_int_int, isi_int_bool, isi_int_str, isi_int_tuple, isi_int_list, isi_int_tl, isi_str_int, isi_str_bool, isi_str_str, isi_str_tuple, isi_str_list, isi_str_tl, isi_tup_int, isi_tup_bool, isi_tup_str, isi_tup_tuple, isi_tup_list, isi_tup_tl, isi_l_int, isi_l_bool, isi_l_str, isi_l_tuple, isi_l_list, isi_l_tl, ixN_00, ixN_1, ixN_2, ixN_3, atI_0, atI_1, atI_2, atI_3, intsOf_map, blsOf_map, List.set_cons_zero, List.set_cons_succ, List.getElem?_cons_zero, List.getElem?_cons_succ, List.replicate_succ, List.replicate_zero, List.length_cons, List.length_nil, Nat.zero_add, Nat.add_zero, Nat.reduceAdd, Nat.reduceSub, Nat.reduceLT, Nat.reduceLeDiff, Option.some.injEq, true_and, and_true, List.map_cons, List.map_nil, decide_true, decide_false, Bool.not_true, Bool.not_false, wipeE, QO_gd, startE_1, startE_2, startE_3, startE_4, fb_nx, fl_nx, fl_ct, fl_bk, fl_rt, fl_ex, cut_nx, cut_rt, cut_bk, cut_ct, cut_ex, w_raise, tr_nx, tr_rt, tr_bk, tr_ct, tr_ex, w_try, QCL_e, w_callL, kMt2_e, kMt_l, kMt_s, kMt_o, w_mt, if_true, QXT_e, kExtT_l, kExtT_d, QExt2_o, QExt2_l, exo_e, w_ext2, w_rng2, w_rng3, isB_bb, isntB_bb, beq_self_eq_true, w_ins0, QIns_o, kInsO_d, w_revE, kRevE_l, w_miEnumA, kEnumA_e, w_popAt, kPop_e, kPop2_e, sorted_e, divmod_e, w_lenSet, kLenSet_l, kRevA_l, kRevA_t, kRevA_o, w_revA, kZipM_e, kZipM2_e, w_miZipM, kAppD_e, kAppD2_e, w_appD, w_dnew, w_dput, kDP1_d, kDP2_e, w_dget2, kDG1_e, kDG2_e])
abbrev keyL (b : List Int) : List Key := b.map Sum.inl
theorem keyL_inj {a b : List Int} (h : keyL a = keyL b) : a = b := (List.map_inj_right (fun x y e => Sum.inl.inj e)).mp h
theorem val_snoc (k k' : List Key) (v : D) : ∀ kvs : List (List Key × D), (kvs.any fun kv => decide (kv.1 = k)) = false → valD (kvs ++ [(k, v)]) k' = if k = k' then some v else valD kvs k'
  | [], _ => by
    unfold valD
    by_cases e : k = k'
    · rw [if_pos e]; simp [e]
    · rw [if_neg e]; simp [e]
  | p :: kvs, h => by
    rw [List.any_cons, Bool.or_eq_false_iff] at h
    have ih := val_snoc k k' v kvs h.2
    unfold valD at ih ⊢
    rw [List.cons_append, List.find?_cons, List.find?_cons]
    by_cases e : p.1 = k'
    · have : ¬ k = k' := fun z => by
        have := of_decide_eq_false h.1
        exact this (e.trans z.symm)
      rw [if_neg this]
      simp [e]
    · simp only [e, decide_false]
      exact ih
theorem val_repl (k k' : List Key) (v : D) : ∀ kvs : List (List Key × D), (kvs.any fun kv => decide (kv.1 = k)) = true → valD (kvs.map fun kv => if kv.1 = k then (kv.1, v) else kv) k' = if k = k' then some v else valD kvs k'
  | [], h => by cases h
  | p :: kvs, h => by
    rw [List.any_cons, Bool.or_eq_true] at h
    unfold valD
    rw [List.map_cons, List.find?_cons, List.find?_cons]
    by_cases e : p.1 = k
    · rw [if_pos e]
      by_cases e2 : k = k'
      · rw [if_pos e2]
        simp [e.trans e2]
      · rw [if_neg e2]
        have e3 : ¬ p.1 = k' := fun z => e2 (e.symm.trans z)
        simp only [e3, decide_false]
        have : ∀ l : List (List Key × D), ((l.map fun kv => if kv.1 = k then (kv.1, v) else kv).find? fun kv => decide (kv.1 = k')) = l.find? fun kv => decide (kv.1 = k') := fun l => by
          induction l with
          | nil => rfl
          | cons q l ih =>
            rw [List.map_cons, List.find?_cons, List.find?_cons]
            by_cases z : q.1 = k
            · have z3 : ¬ q.1 = k' := fun y => e2 (z.symm.trans y)
              rw [if_pos z]
              simp only [z3, decide_false]
              exact ih
            · rw [if_neg z, ih]
        rw [this]
    · rw [if_neg e]
      have h2 : (kvs.any fun kv => decide (kv.1 = k)) = true := by
        rcases h with h | h
        · exact (e (of_decide_eq_true h)).elim
        · exact h
      have ih := val_repl k k' v kvs h2
      unfold valD at ih
      by_cases e3 : p.1 = k'
      · have : ¬ k = k' := fun z => e (e3.trans z.symm)
        rw [if_neg this]
        simp [e3]
      · simp only [e3, decide_false]
        exact ih
theorem val_put (kvs : List (List Key × D)) (k k' : List Key) (v : D) : valD (putD kvs k v) k' = if k = k' then some v else valD kvs k' := by
  unfold putD
  cases h : kvs.any fun kv => decide (kv.1 = k) with
  | true => rw [if_pos rfl]; exact val_repl k k' v kvs h
  | false => rw [if_neg Bool.false_ne_true]; exact val_snoc k k' v kvs h
def cntK (rows : List (List Int)) (some b : List Int) : Nat := (rows.filter fun r => decide (some.map (at_ r) = b)).length
theorem cntK_snoc (L : List (List Int)) (r some b : List Int) : cntK (L ++ [r]) some b = cntK L some b + if some.map (at_ r) = b then 1 else 0 := by
  unfold cntK
  rw [List.filter_append, List.length_append]
  congr 1
  by_cases h : some.map (at_ r) = b
  · simp [h]
  · simp [h]
def CntOk (kvs : List (List Key × D)) (L : List (List Int)) (some : List Int) : Prop := ∀ b : List Int, valD kvs (keyL b) = if cntK L some b = 0 then none else Option.some (.int (cntK L some b))
theorem CntOk.nil (some : List Int) : CntOk [] [] some := fun b => rfl
theorem CntOk.get {kvs : List (List Key × D)} {L : List (List Int)} {some : List Int} (h : CntOk kvs L some) (b : List Int) : (valD kvs (keyL b)).getD (.int 0) = .int (cntK L some b) := by
  rw [h b]
  split
  · rename_i z; rw [z]; rfl
  · rfl
theorem CntOk.put {kvs : List (List Key × D)} {L : List (List Int)} {some r : List Int} (h : CntOk kvs L some) : CntOk (putD kvs (keyL (some.map (at_ r))) (.int ((cntK L some (some.map (at_ r)) : Int) + 1))) (L ++ [r]) some := fun b => by
  rw [val_put, cntK_snoc]
  by_cases e : some.map (at_ r) = b
  · subst e
    rw [if_pos rfl, if_pos rfl, if_neg (by omega)]
    congr 2
  · rw [if_neg (fun z => e (keyL_inj z)), if_neg e, Nat.add_zero]
    exact h b
noncomputable def mb_allboxes : MS := (sRet (eCut (eIf (bOf (eOp2 leF (eCall m_times_itself [(eVar 1), (eVar 0)]) (eVar 2))) (eCall m_rows_of_numbers [(eVar 0), (eVar 1)]) (eLst [(eOp2 mulTF (eTup [(eC (.int 0))]) (eVar 0))]))))
noncomputable def m_allboxes : MF := mFun 3 3 (mb_allboxes)
noncomputable def mb_evenfor : MS := (sSeq (sDrop (eCall m_need_tuples [(eCall m_things_of [(eVar 0)]), (eVar 1)]))
    (sSeq (sAsg (tgTup 2 (tgCons (tgName 2) (tgCons (tgName 3) tgNil))) (eVar 0))
    (sSeq (sFor (miSeq (qE (eCall m_rising_tuples [(eCall m_things_of [(eVar 0)]), (eVar 1)]))) (tgName 4) (sSeq (sSet 5 (eDNew true))
    (sSeq (sFrz 3 (sFor (miSeq (qVar 3)) (tgName 6) (sSeq (sSetS 7 (eOpN tupF [(eComp (miSeq (qC (eVar 4))) (tgName 8) bYes (eOp2 ixF (eVar 6) (eVar 8)) [8])]))
    (sDPut (eVar 5) (eVar 7) (eOp2 addF (eDGet2 (eVar 5) (eVar 7) (eC (.int 0))) (eC (.int 1)))))))
    (sFor (miSeq (qE (eCall m_allboxes [(eVar 1), (eVar 2), (eOpN lenF [(eVar 3)])]))) (tgName 7) (sIf (bOf (eOp2 neF (eOp2 mulF (eDGet2 (eVar 5) (eVar 7) (eC (.int 0))) (eCall m_times_itself [(eVar 2), (eVar 1)])) (eOpN lenF [(eVar 3)]))) (sRet (eTup [(eC (.str "uneven")), (eVar 4), (eVar 7), (eDGet2 (eVar 5) (eVar 7) (eC (.int 0)))])) sNop)))))
    (sRet (eTup [(eC (.str "even"))])))))
noncomputable def m_evenfor : MF := mFun 2 9 (mb_evenfor)
end

section
open PySem PySem.Spec L2 DM
end

section
open PySem PySem.Spec L2 DM
end

section
open PySem PySem.Spec L2 DM
end

section
open PySem PySem.Spec L2 DM
def usedN : List Int → Int
  | [] => 0
  | n :: ns => ns.foldl max n + 1
def unlR (m : Int) (r : List Int) : List (List Int) := (List.range (min m (usedN r + 1)).toNat).map fun (j : Nat) => r ++ [(j : Int)]
def unl (m : Int) : Nat → List (List Int)
  | 0 => [[]]
  | t + 1 => (unl m t).flatMap (unlR m)
theorem foldmax_bd : ∀ (ns : List Int) (n b : Int), n ≤ b → (∀ z ∈ ns, z ≤ b) → ns.foldl max n ≤ b ∧ n ≤ ns.foldl max n
  | [], n, b, h, _ => ⟨h, Int.le_refl _⟩
  | a :: ns, n, b, h, hz => by
    have ha := hz a List.mem_cons_self
    obtain ⟨h1, h2⟩ := foldmax_bd ns (max n a) b (by omega) fun z hq => hz z (List.mem_cons_of_mem _ hq)
    exact ⟨h1, by rw [List.foldl_cons]; omega⟩
theorem used_bd {r : List Int} {m : Int} (h : ∀ z ∈ r, 0 ≤ z ∧ z < m) (m0 : 0 ≤ m) : 0 ≤ usedN r ∧ usedN r ≤ m := by
  cases r with
  | nil => exact ⟨Int.le_refl _, m0⟩
  | cons n ns =>
    have h0 := h n List.mem_cons_self
    obtain ⟨h1, h2⟩ := foldmax_bd ns n (m - 1) (by omega) fun z hz => by have := h z (List.mem_cons_of_mem _ hz); omega
    show 0 ≤ ns.foldl max n + 1 ∧ ns.foldl max n + 1 ≤ m
    omega
theorem used_max {r : List Int} (h : ∀ z ∈ r, 0 ≤ z) : r.foldl max (-1) + 1 = usedN r := by
  cases r with
  | nil => rfl
  | cons n ns =>
    have h0 := h n List.mem_cons_self
    have : max (-1) n = n := by omega
    show ns.foldl max (max (-1) n) + 1 = ns.foldl max n + 1
    rw [this]
theorem unl_mem {m : Int} (m1 : 1 ≤ m) : ∀ {t : Nat} {r : List Int}, r ∈ unl m t → r.length = t ∧ ∀ z ∈ r, 0 ≤ z ∧ z < m
  | 0, r, h => by
    cases List.mem_singleton.mp h
    exact ⟨rfl, fun _ h => nomatch h⟩
  | t + 1, r, h => by
    obtain ⟨q, hq, h⟩ := List.mem_flatMap.mp h
    obtain ⟨j, hj, rfl⟩ := List.mem_map.mp h
    have hj := List.mem_range.mp hj
    obtain ⟨h1, h2⟩ := unl_mem m1 hq
    refine ⟨by rw [List.length_append, h1]; rfl, fun z hz => ?_⟩
    rcases List.mem_append.mp hz with hz | hz
    · exact h2 z hz
    · cases List.mem_singleton.mp hz
      omega
theorem set_new (S : Store) : S ++ [O.lst []] = (S ++ [O.lst []]).set S.length (.lst []) := by
  apply List.ext_getElem?
  intro j
  rw [List.getElem?_set]
  by_cases z : S.length = j
  · subst z
    rw [if_pos rfl, if_pos (by simp)]
    exact st_new
  · rw [if_neg z]
def InnerU (m : Int) (body : MS) : Prop := ∀ {F : List (List Int)} {ck : Store → Prop} {S : Store} {n : Nat} {E : En} {s0 s2 s3 s5 s6 s7 : DM.Slot}, (∀ r ∈ F, r.length ≤ 100 ∧ ∀ z ∈ r, 0 ≤ z ∧ z < m) → n < S.length → (∀ o, ck (S.set n o)) → (∀ i, ((F.take i).flatMap (unlR m)).length ≤ 100000) →
    (∀ s5 s6 s7, E.nx [s0, .v (.int m), s2, s3, .v (.loc n), s5, s6, s7] (S.set n (.lst ((F.flatMap (unlR m)).map rowL)))) →
    kFor (tgName 5) body [s0, .v (.int m), s2, s3, .v (.loc n), s5, s6, s7] E (F.map rowL, ck) (S.set n (.lst []))
theorem unl_comp {m N : Int} {r : List Int} {es : DM.Env} {Q : RV → Store → Prop} {X : QX} {S : Store} {ck : Store → Prop} (hck : ck S) (hr : r.length ≤ 100) (hN : N = min m (usedN r + 1)) (hl : N ≤ 100000) (hes : ∀ d, ∃ es1, tgName 7 d (wipeE es [7]) = some es1 ∧ es1[5]? = some (.v (rowL r)) ∧ es1[7]? = some (.v d))
    (fin : Q (.l true ((unlR m r).map rowL)) S) : kComp (tgName 7) bYes (eOp2 addF (eVar 5) (eTup [(eVar 7)])) [7] es Q X (rngD N.toNat, ck) S := by
  unfold rngD
  have e1 : ((List.range N.toNat).map fun (j : Nat) => rowL (r ++ [(j : Int)])) = (unlR m r).map rowL := by
    unfold unlR
    rw [List.map_map, hN]
    rfl
  refine comp_all (l := List.range N.toNat) (fun (j : Nat) => rowL (r ++ [(j : Int)])) (by rw [List.length_range]; exact le_line (by omega)) hck (fun i j hj => ?_) ?_
  · obtain ⟨es1, g1, g2, g3⟩ := hes (.int (j : Int))
    refine ⟨es1, g1, ?_⟩
    simp! only [g2, g3]
    refine ⟨by decide, by rw [List.length_map]; exact le_line (by omega), ?_⟩
    unfold rowL
    rw [List.map_append]
    rfl
  · rw [e1]; exact fin
noncomputable def bodyA : MS := (sSeq (sSet 6 (eOpN minF [(eVar 1), (eOp2 addF (eOp2 addF (eC (.int 1)) (eOpN maxTF [(eOp2 addF (eTup [(eOp1 negF (eC (.int 1)))]) (eVar 5))])) (eC (.int 1)))]))
    (sExt 4 (eComp (miRng1 (eVar 6)) (tgName 7) bYes (eOp2 addF (eVar 5) (eTup [(eVar 7)])) [7])))
theorem innerA {m : Int} (m1 : 1 ≤ m) (m2 : m ≤ 10000) : InnerU m bodyA := by
  intro F ck S n E s0 s2 s3 s5 s6 s7 hF hn hck hlen hE
  unfold bodyA
  refine for_inv (fun i es S' => (∃ s5 s6 s7, es = [s0, .v (.int m), s2, s3, .v (.loc n), s5, s6, s7]) ∧ S' = S.set n (.lst (((F.take i).flatMap (unlR m)).map rowL))) ⟨⟨_, _, _, rfl⟩, rfl⟩ (fun i es S' h => by rw [h.2]; exact hck _) (fun i x es S' hx h => ?_) (fun es S' h => ?_)
  · obtain ⟨⟨s5, s6, s7, rfl⟩, hS⟩ := h
    rw [List.getElem?_map] at hx
    cases er : F[i]? with
    | none => rw [er] at hx; cases hx
    | some r =>
      rw [er] at hx
      cases hx
      obtain ⟨rl, rb⟩ := hF r (List.mem_of_getElem? er)
      have eS : S'[n]? = some (.lst (((F.take i).flatMap (unlR m)).map rowL)) := by
        rw [hS]
        exact List.getElem?_set_self hn
      have ub := used_bd rb (by omega)
      have tk : (F.take (i + 1)).flatMap (unlR m) = (F.take i).flatMap (unlR m) ++ unlR m r := by
        rw [List.take_succ, er, List.flatMap_append]
        simp
      have hl1 := hlen (i + 1)
      rw [tk, List.length_append] at hl1
      refine ⟨_, rfl, ?_⟩
      have em := maxT_e (S := S') (n := -1) (ns := r)
      have eu := used_max (r := r) fun z hz => (rb z hz).1
      have ec : [D.int (-1)] ++ r.map D.int = D.int (-1) :: r.map D.int := rfl
      simp! only [ec, em, eS]
      have eN : (if 1 + r.foldl max (-1) + 1 < m then 1 + r.foldl max (-1) + 1 else m) = min m (usedN r + 1) := by
        rw [← eu]
        split <;> omega
      rw [eN]
      refine ⟨by decide, by rw [List.length_map]; exact le_line (by omega), ⟨by omega, by omega⟩, ?_⟩
      refine unl_comp (r := r) trivial rl rfl (by omega) (fun d => ⟨_, rfl, rfl, rfl⟩) ?_
      simp! only [eS]
      refine ⟨by rw [List.length_map, List.length_map]; exact le_line (by omega), ⟨_, _, _, rfl⟩, ?_⟩
      rw [hS, List.set_set, tk, List.map_append]
  · obtain ⟨⟨s5, s6, s7, rfl⟩, rfl⟩ := h
    have e : F.take (F.map rowL).length = F := by rw [List.length_map, List.take_length]
    rw [e]
    exact hE _ _ _
noncomputable def mb_outU (body : MS) : MS := (sSeq (sSet 2 (eLst [(eTup [])]))
    (sSeq (sFor (miRng1 (eVar 0)) (tgName 3) (sSeq (sSetS 4 (eLst []))
    (sSeq (sFrz 2 (sFor (miSeq (qVar 2)) (tgName 5) body))
    (sSet 2 (eVar 4)))))
    (sRetV 2)))
noncomputable def m_outU (body : MS) : MF := mFun 2 8 (mb_outU body)
theorem outU_w {m tI : Int} {t : Nat} {body : MS} {S : Store} {Q : RV → Store → Prop} {X : QX} (inner : InnerU m body) (ht : tI = (t : Int)) (m1 : 1 ≤ m) (m2 : m ≤ 10000) (t1 : 1 ≤ t) (t2 : t ≤ 100) (hlen : ∀ k, k < t → ∀ i, (((unl m k).take i).flatMap (unlR m)).length ≤ 100000)
    (k : ∀ n S', Ext S S' → S.length ≤ n → S'[n]? = some (.lst ((unl m t).map rowL)) → Q (.d (.loc n)) S') : WR (okR (m_outU body [.d (.int tI), .d (.int m)] S)) Q X := by
  refine fun_w ?_
  unfold mb_outU
  walk_at "w"
  refine ⟨by decide, by decide, ⟨by omega, by omega⟩, ?_⟩
  have e0 : tI.toNat = t := by omega
  rw [e0]
  refine for_inv (fun i es S' => Ext S S' ∧ ((i = 0 ∧ es = [.v (.int tI), .v (.int m), .own [.tup []], .no, .no, .no, .no, .no]) ∨ (1 ≤ i ∧ ∃ n s3 s4 s5 s6 s7, S.length ≤ n ∧ S'[n]? = some (.lst ((unl m i).map rowL)) ∧ es = [.v (.int tI), .v (.int m), .v (.loc n), s3, s4, s5, s6, s7]))) ⟨Ext.refl _, .inl ⟨rfl, rfl⟩⟩ (fun _ _ _ _ => trivial) (fun i x es S' hx h => ?_) (fun es S' h => ?_)
  · obtain ⟨rfl, hi⟩ := rngD_get hx
    obtain ⟨ex, h⟩ := h
    have hF : ∀ r ∈ unl m i, r.length ≤ 100 ∧ ∀ z ∈ r, 0 ≤ z ∧ z < m := fun r hr => by
      obtain ⟨l, b⟩ := unl_mem m1 hr
      exact ⟨by omega, b⟩
    have eset := set_new S'
    rcases h with ⟨rfl, rfl⟩ | ⟨hi1, n, s3, s4, s5, s6, s7, hn, en, rfl⟩
    · refine ⟨_, rfl, ?_⟩
      walk_at "w"
      refine ⟨by decide, ?_⟩
      rw [eset]
      refine inner (F := unl m 0) hF (by simp) (fun o => trivial) (hlen 0 (by omega)) fun s5 s6 s7 => ?_
      walk_at "w"
      have en : ((S' ++ [O.lst []]).set S'.length (.lst (((unl m 0).flatMap (unlR m)).map rowL)))[S'.length]? = some (.lst (((unl m 0).flatMap (unlR m)).map rowL)) := List.getElem?_set_self (by simp)
      exact ⟨(ex.trans Ext.push).set ex.1, .inr ⟨S'.length, _, _, _, _, _, ex.1, en, rfl⟩⟩
    · have hnl := (List.getElem?_eq_some_iff.mp en).1
      have en' : (S' ++ [O.lst []])[n]? = some (.lst ((unl m i).map rowL)) := st_old en
      refine ⟨_, rfl, ?_⟩
      simp! only [en']
      refine ⟨by decide, ?_⟩
      rw [eset]
      refine inner (F := unl m i) hF (by simp) (fun o => ?_) (hlen i hi) fun s5 s6 s7 => ?_
      · show (List.set _ _ _)[n]? = _
        rw [List.getElem?_set_ne (by omega)]
        exact en'
      · walk_at "w"
        have en : ((S' ++ [O.lst []]).set S'.length (.lst (((unl m i).flatMap (unlR m)).map rowL)))[S'.length]? = some (.lst (((unl m i).flatMap (unlR m)).map rowL)) := List.getElem?_set_self (by simp)
        exact ⟨(ex.trans Ext.push).set ex.1, .inr ⟨S'.length, _, _, _, _, _, ex.1, en, rfl⟩⟩
  · obtain ⟨ex, h⟩ := h
    rw [rngD_len] at h
    rcases h with ⟨h0, rfl⟩ | ⟨hi1, n, s3, s4, s5, s6, s7, hn, en, rfl⟩
    · omega
    · walk_at "w"
      exact k n S' ex hn en
theorem unlR_len {m : Int} (m1 : 0 ≤ m) (r : List Int) : (unlR m r).length ≤ m.toNat := by
  unfold unlR
  rw [List.length_map, List.length_range]
  omega
theorem flat_le {A : Type} {f : A → List A} {c : Nat} (h : ∀ x, (f x).length ≤ c) : ∀ {F : List A}, (F.flatMap f).length ≤ F.length * c := fun {F} => by
  induction F with
  | nil => simp
  | cons a F ih =>
    have := h a
    rw [List.flatMap_cons, List.length_append, List.length_cons, Nat.add_mul]
    omega
theorem unl_len {m : Int} (m1 : 0 ≤ m) : ∀ t : Nat, (unl m t).length ≤ m.toNat ^ t
  | 0 => Nat.le_refl _
  | t + 1 => by
    have ih := unl_len m1 t
    show ((unl m t).flatMap (unlR m)).length ≤ _
    have := flat_le (F := unl m t) (fun r => unlR_len m1 r)
    rw [Nat.pow_succ]
    exact Nat.le_trans this (Nat.mul_le_mul_right _ ih)
end

section
open PySem PySem.Spec L2 DM
theorem low_parts {a b : Int} (ha : 0 ≤ a) (hb : 0 < b) : ∃ x y g : Int, lowT a b = .tup [.int x, .int y] ∧ a = x * g ∧ b = y * g ∧ 0 < g ∧ 0 ≤ x ∧ 0 < y ∧ x ≤ a ∧ y ≤ b ∧ Nat.Coprime x.toNat y.toNat := by
  have g0 := gcd_pos (a := a) (b := b) (.inr hb)
  obtain ⟨e1, e2⟩ := gcd_dvd ha (show 0 ≤ b by omega)
  have x0 := Int.ediv_nonneg ha (show 0 ≤ gcdI a b by omega)
  have y0 := Int.ediv_nonneg (show 0 ≤ b by omega) (show 0 ≤ gcdI a b by omega)
  have yp : 0 < b / gcdI a b := by
    rcases Int.lt_or_eq_of_le y0 with h | h
    · exact h
    · rw [← h] at e2
      omega
  refine ⟨a / gcdI a b, b / gcdI a b, gcdI a b, rfl, e1, e2, g0, x0, yp, Int.ediv_le_self _ ha, Int.ediv_le_self _ (by omega), ?_⟩
  obtain ⟨A, rfl⟩ : ∃ A : Nat, a = (A : Int) := ⟨a.toNat, by omega⟩
  obtain ⟨B, rfl⟩ : ∃ B : Nat, b = (B : Int) := ⟨b.toNat, by omega⟩
  unfold gcdI
  rw [Int.toNat_natCast, Int.toNat_natCast, ← Int.natCast_ediv, ← Int.natCast_ediv, Int.toNat_natCast, Int.toNat_natCast]
  exact Nat.coprime_div_gcd_div_gcd (Nat.gcd_pos_of_pos_right _ (by omega))
theorem cop_dvd {x y n k : Int} (x0 : 0 ≤ x) (y0 : 0 < y) (n0 : 0 ≤ n) (k0 : 0 ≤ k) (hc : Nat.Coprime x.toNat y.toNat) (h : k * y = x * n) : n % y = 0 := by
  obtain ⟨X, rfl⟩ : ∃ X : Nat, x = (X : Int) := ⟨x.toNat, by omega⟩
  obtain ⟨Y, rfl⟩ : ∃ Y : Nat, y = (Y : Int) := ⟨y.toNat, by omega⟩
  obtain ⟨N, rfl⟩ : ∃ N : Nat, n = (N : Int) := ⟨n.toNat, by omega⟩
  obtain ⟨K, rfl⟩ : ∃ K : Nat, k = (K : Int) := ⟨k.toNat, by omega⟩
  rw [Int.toNat_natCast, Int.toNat_natCast] at hc
  have h : K * Y = X * N := by
    have := h
    rw [← Int.natCast_mul, ← Int.natCast_mul] at this
    omega
  have hd : Y ∣ X * N := ⟨K, by rw [← h, Nat.mul_comm]⟩
  have := hc.symm.dvd_of_dvd_mul_left hd
  rw [← Int.natCast_emod, Nat.mod_eq_zero_of_dvd this]
  rfl
def bestB (rows : List (List Int)) (u : Nat) (x y : Int) : Bool := (pairL u).all fun q => decide (((metI rows q.1 q.2 : Nat) : Int) * y = x * (rows.length : Nat))
theorem c2_pos {u : Nat} (hu : 2 ≤ u) : 0 < c2 u := by
  rw [← pairL_length]
  have := List.length_pos_iff.mpr (pairL_ne hu)
  omega
theorem metsL_length {rows : List (List Int)} {u : Nat} : ((metsL rows u).length : Int) = c2 u := by
  unfold metsL
  rw [List.length_map, pairL_length]
theorem c2_nn {n : Int} (h : 0 ≤ n) : 0 ≤ c2 n := by
  unfold c2
  refine Int.ediv_nonneg ?_ (by omega)
  rcases Int.lt_or_eq_of_le h with h | h
  · exact Int.mul_nonneg (by omega) (by omega)
  · rw [← h]; decide
theorem least_pos {m : Int} {u : Nat} (hm : 1 ≤ m) : 0 ≤ leastI u m := by
  have h1 := Int.emod_nonneg (u : Int) (show m ≠ 0 by omega)
  have h2 := Int.emod_lt_of_pos (u : Int) (show 0 < m by omega)
  have h3 := Int.ediv_nonneg (show 0 ≤ (u : Int) by omega) (show 0 ≤ m by omega)
  unfold leastI
  have a := Int.mul_nonneg h1 (c2_nn (n := (u : Int) / m + 1) (by omega))
  have b := Int.mul_nonneg (show 0 ≤ m - (u : Int) % m by omega) (c2_nn h3)
  omega
theorem all_eq_of_sum {c : Int} : ∀ {l : List Int}, (∀ x ∈ l, x ≤ c) → l.length * c ≤ l.sum → ∀ x ∈ l, x = c
  | [], _, _, _, h => nomatch h
  | a :: l, h, hs, x, hx => by
    have h1 := h a List.mem_cons_self
    have h2 := sum_le_mul (l := l) (c := c) fun y hy => h y (List.mem_cons_of_mem _ hy)
    rw [List.sum_cons, List.length_cons, Int.natCast_add, Int.add_mul] at hs
    simp only [Int.natCast_one, Int.one_mul] at hs
    rcases List.mem_cons.mp hx with rfl | hx
    · omega
    · exact all_eq_of_sum (fun y hy => h y (List.mem_cons_of_mem _ hy)) (by omega) x hx
theorem best_facts {m : Int} {u : Nat} {rows : List (List Int)} {x y g wx wy wg : Int} (m1 : 1 ≤ m) (hok : BookOk m u rows) (u2 : 2 ≤ u)
    (e1 : leastI u m = x * g) (e2 : c2 u = y * g) (g0 : 0 < g) (x0 : 0 ≤ x) (y0 : 0 < y) (hc : Nat.Coprime x.toNat y.toNat)
    (w1 : worstI rows u = wx * wg) (w2 : (rows.length : Int) = wy * wg) (wg0 : 0 < wg) (wx0 : 0 ≤ wx) (wy0 : 0 < wy) (eq : lowT (worstI rows u) (rows.length : Nat) = .tup [.int wx, .int wy]) (el : lowT (leastI u m) (c2 u) = .tup [.int x, .int y]) :
    x * wy ≤ wx * y ∧ (bestB rows u x y = true → (rows.length : Int) % y = 0) ∧ (bestB rows u x y = true ↔ (wx = x ∧ wy = y)) := by
  have hw := worst_least m1 hok.ok
  have hwb := worst_bound (rows := rows) u2
  have hl := List.length_pos_iff.mpr hok.ne
  have hbest : ∀ q ∈ pairL u, bestB rows u x y = true → ((metI rows q.1 q.2 : Nat) : Int) * y = x * (rows.length : Nat) := fun q hq h => of_decide_eq_true (List.all_eq_true.mp h q hq)
  have hmem : worstI rows u ∈ metsL rows u := maxI_mem fun z => pairL_ne u2 (List.map_eq_nil_iff.mp z)
  have hW : bestB rows u x y = true → worstI rows u * y = x * (rows.length : Nat) := fun h => by
    obtain ⟨q, hq, e⟩ := List.mem_map.mp hmem
    rw [← e]
    exact hbest q hq h
  have cross : wx * y = x * wy ↔ worstI rows u * y = x * (rows.length : Nat) := by
    rw [w1, w2, show wx * wg * y = wx * y * wg by grind, show x * (wy * wg) = x * wy * wg by grind]
    exact ⟨fun h => by rw [h], fun h => Int.eq_of_mul_eq_mul_right (by omega) h⟩
  refine ⟨?_, fun h => ?_, fun h => ?_, fun h => ?_⟩
  · rw [w2, e1, w1, e2, show wy * wg * (x * g) = x * wy * (wg * g) by grind, show wx * wg * (y * g) = wx * y * (wg * g) by grind] at hw
    exact Int.le_of_mul_le_mul_right hw (Int.mul_pos wg0 g0)
  · exact cop_dvd x0 y0 (by omega) hwb.1 hc (hW h)
  · have h1 := hW h
    have hs : lowT (worstI rows u) (rows.length : Nat) = lowT (leastI u m) (c2 u) := by
      have hcp := c2_pos u2
      have a1 := lowT_scale (a := worstI rows u) (b := (rows.length : Nat)) (k := c2 u) hwb.1 (by omega) hcp
      have a2 := lowT_scale (a := leastI u m) (b := c2 u) (k := (rows.length : Nat)) (by rw [e1]; exact Int.mul_nonneg x0 (by omega)) hcp (by omega)
      rw [← a1, ← a2]
      congr 1
      · rw [e2, e1, show worstI rows u * (y * g) = worstI rows u * y * g by grind, h1]
        grind
      · grind
    rw [eq, el] at hs
    cases hs
    exact ⟨rfl, rfl⟩
  · obtain ⟨rfl, rfl⟩ := h
    have h1 : worstI rows u * wy = wx * (rows.length : Nat) := cross.mp rfl
    have hcw : worstI rows u * c2 u = (rows.length : Int) * leastI u m := by
      rw [e2, e1, show worstI rows u * (wy * g) = worstI rows u * wy * g by grind, h1]
      grind
    have h2 := mets_sum hok.ok
    have h3 : ((rows.map fun r => met r u).length : Int) * leastI u m ≤ (rows.map fun r => met r u).sum := sum_ge_mul fun z hz => by
      obtain ⟨r, hr, rfl⟩ := List.mem_map.mp hz
      have hm : ((m.toNat : Nat) : Int) = m := Int.toNat_of_nonneg (by omega)
      have := met_least (m := m.toNat) (u := u) (row := r) (by omega) (by rw [hm]; exact hok.ok r hr)
      rw [hm] at this
      exact this
    rw [List.length_map, ← h2] at h3
    have h4 := all_eq_of_sum (l := metsL rows u) (c := worstI rows u) (fun z hz => maxI_ge hz) (by rw [metsL_length, Int.mul_comm, hcw]; exact h3)
    refine List.all_eq_true.mpr fun q hq => decide_eq_true ?_
    rw [h4 _ (List.mem_map.mpr ⟨q, hq, rfl⟩)]
    exact h1
theorem is_best_w {m : Int} {u : Nat} {rows : List (List Int)} {S : Store} {x y : Int} (hok : BookOk m u rows) (hl : rows.length ≤ 10000) (m1 : 1 ≤ m) (m2 : m ≤ 100000) (u2 : 2 ≤ u) (u3 : u ≤ 1000) (el : lowT (leastI u m) (c2 u) = .tup [.int x, .int y]) (x0 : 0 ≤ x) (x1 : x ≤ 10 ^ 9) (y0 : 0 < y) (y1 : y ≤ 10 ^ 9) :
    m_is_best [.d (bookD m rows)] S = .ok (.d (.bl (bestB rows u x y))) S := by
  refine eq_of (fun_w ?_)
  unfold mb_is_best
  walk_at "w"
  rw [need_pairs_ok hok u2]
  walk_at "w"
  rw [things_of_w hok]
  walk_at "w"
  rw [least_share_w (by omega) (by omega) m1 (by omega), el]
  walk_at "w"
  rw [things_of_w hok]
  walk_at "w"
  rw [pairs_of_w (by omega) (by omega), Int.toNat_natCast]
  walk_at "w"
  have hpl : (pairL u).length ≤ u * u := pairL_len
  have huu : u * u ≤ 1000 * 1000 := Nat.mul_le_mul u3 u3
  refine comp_all (l := pairL u) (F := pairD) (fun q => .bl (decide (((metI rows q.1 q.2 : Nat) : Int) * y = x * (rows.length : Nat)))) (le_line (by omega)) trivial (fun j q hq => ?_) ?_
  · have hq := mem_pairL.mp (List.mem_of_getElem? hq)
    refine ⟨_, rfl, ?_⟩
    walk_at "w"
    rw [meets_w hok (by omega) hq.1 (by omega) (by omega) hq.2.2 (by omega)]
    walk_at "w"
    have hm := metI_le (rows := rows) (x := q.1) (y := q.2)
    rw [List.length_map]
    exact ⟨cmul_l (by omega) (by omega), cmul_r (by omega) (by omega), rfl⟩
  · have e := blsOf_map ((pairL u).map fun q => decide (((metI rows q.1 q.2 : Nat) : Int) * y = x * (rows.length : Nat)))
    rw [List.map_map] at e
    have e : blsOf ((pairL u).map fun q => D.bl (decide (((metI rows q.1 q.2 : Nat) : Int) * y = x * (rows.length : Nat)))) = _ := e
    have e2 : ((pairL u).map fun q => decide (((metI rows q.1 q.2 : Nat) : Int) * y = x * (rows.length : Nat))).all id = bestB rows u x y := by
      rw [List.all_map]
      rfl
    simp! only [e, e2]
theorem is_best_ex {m : Int} {u : Nat} {rows : List (List Int)} {S : Store} (hok : BookOk m u rows) (hu : u < 2) : m_is_best [.d (bookD m rows)] S = .ex 1 [] S := by
  refine ex_of (fun_w ?_)
  unfold mb_is_best
  walk_at "w"
  rw [need_pairs_ex hok hu]
  walk_at "w"
end

section
open PySem PySem.Spec L2 DM
def planeRow (q a : Nat) : List Int := (List.range (q * q)).map fun (x : Nat) => ((x : Int) - (a : Int) * ((x : Int) / (q : Int))) % (q : Int)
def planeLast (q : Nat) : List Int := (List.range (q * q)).map fun (x : Nat) => (x : Int) / (q : Int)
def planeR (q : Nat) : List (List Int) := (List.range q).map (planeRow q) ++ [planeLast q]
theorem planeR_ok {q : Nat} (h : 1 ≤ q) : BookOk (q : Int) (q * q) (planeR q) := by
  refine ⟨by unfold planeR; simp, fun r hr => ?_⟩
  unfold planeR at hr
  rcases List.mem_append.mp hr with hr | hr
  · obtain ⟨a, _, rfl⟩ := List.mem_map.mp hr
    unfold planeRow
    refine ⟨by rw [List.length_map, List.length_range], fun y hy => ?_⟩
    obtain ⟨x, _, rfl⟩ := List.mem_map.mp hy
    exact ⟨Int.emod_nonneg _ (by omega), Int.emod_lt_of_pos _ (by omega)⟩
  · cases List.mem_singleton.mp hr
    unfold planeLast
    refine ⟨by rw [List.length_map, List.length_range], fun y hy => ?_⟩
    obtain ⟨x, hx, rfl⟩ := List.mem_map.mp hy
    have hx := List.mem_range.mp hx
    refine ⟨Int.ediv_nonneg (by omega) (by omega), ?_⟩
    have : x / q < q := Nat.div_lt_of_lt_mul hx
    rw [← Int.natCast_ediv]
    omega
theorem by_planes_w {q : Int} {n : Nat} {S : Store} (hp : PrimeI q) (e : q = n) (h7 : q ≤ 7) : m_by_planes [.d (.int q)] S = .ok (.d (bookD q (planeR n))) S := by
  subst e
  have q2 := hp.1
  have hqq : n * n ≤ 7 * 7 := Nat.mul_le_mul (by omega) (by omega)
  have tn : ((n : Int) * (n : Int)).toNat = n * n := by rw [← Int.natCast_mul]; rfl
  have eqq : (n : Int) * (n : Int) = ((n * n : Nat) : Int) := by rw [Int.natCast_mul]
  refine eq_of (fun_w ?_)
  unfold mb_by_planes
  walk_at "w"
  rw [need_prime_ok (by omega) hp]
  have d7 : decide ((n : Int) > 7) = false := decide_eq_false (by omega)
  have d7' : decide ((7 : Int) < n) = false := decide_eq_false (by omega)
  simp! only [d7, d7']
  refine ⟨by decide, ⟨by omega, by omega⟩, ?_⟩
  rw [Int.toNat_natCast]
  refine for_inv (fun i es S' => S' = S ∧ ∃ s2 s3, es = [.v (.int (n : Int)), .own (((List.range i).map (planeRow n)).map rowL), s2, s3]) ⟨rfl, _, _, rfl⟩ (fun _ _ _ _ => trivial) (fun i x es S' hx hI => ?_) (fun es S' hI => ?_)
  · obtain ⟨rfl, hi⟩ := rngD_get hx
    obtain ⟨rfl, s2, s3, rfl⟩ := hI
    refine ⟨_, rfl, ?_⟩
    walk_at "w"
    refine ⟨cmul_l (by omega) (by omega), ⟨by omega, by omega⟩, ?_⟩
    rw [tn]
    unfold rngD
    refine comp_all (l := List.range (n * n)) (F := fun j : Nat => D.int (j : Int)) (fun x : Nat => .int (((x : Int) - (i : Int) * ((x : Int) / (n : Int))) % (n : Int))) (by rw [List.length_range]; exact le_line (by omega)) trivial (fun j x hx => ?_) ?_
    · have hx := List.mem_range.mp (List.mem_of_getElem? hx)
      refine ⟨_, rfl, ?_⟩
      walk_at "w"
      have hq := Int.ediv_nonneg (show 0 ≤ (x : Int) by omega) (show 0 ≤ (n : Int) by omega)
      have hq2 := Int.ediv_le_self (n : Int) (show 0 ≤ (x : Int) by omega)
      exact ⟨cdiv (by omega) (by omega), cmul_l (by omega) (by omega), by omega⟩
    · have eI : ((List.range (n * n)).map fun x : Nat => D.int (((x : Int) - (i : Int) * ((x : Int) / (n : Int))) % (n : Int))) = (planeRow n i).map D.int := by
        unfold planeRow
        rw [List.map_map]
        rfl
      have eR : ((List.range (i + 1)).map (planeRow n)).map rowL = ((List.range i).map (planeRow n)).map rowL ++ [D.tup ((planeRow n i).map D.int)] := by
        rw [List.range_succ, List.map_append, List.map_append]
        rfl
      rw [eI]
      walk_at "w"
      rw [eR]
      exact ⟨by rw [List.length_map, List.length_map, List.length_range]; exact Nat.lt_of_lt_of_le (show i < 8 by omega) (by decide), _, _, rfl⟩
  · obtain ⟨rfl, s2, s3, rfl⟩ := hI
    rw [rngD_len]
    walk_at "w"
    refine ⟨cmul_l (by omega) (by omega), ⟨by omega, by omega⟩, ?_⟩
    rw [tn]
    unfold rngD
    refine comp_all (l := List.range (n * n)) (F := fun j : Nat => D.int (j : Int)) (fun x : Nat => .int ((x : Int) / (n : Int))) (by rw [List.length_range]; exact le_line (by omega)) trivial (fun j x hx => ?_) ?_
    · have hx := List.mem_range.mp (List.mem_of_getElem? hx)
      refine ⟨_, rfl, ?_⟩
      walk_at "w"
      exact cdiv (by omega) (by omega)
    · have eI : ((List.range (n * n)).map fun x : Nat => D.int ((x : Int) / (n : Int))) = (planeLast n).map D.int := by
        unfold planeLast
        rw [List.map_map]
        rfl
      rw [eI]
      walk_at "w"
      refine ⟨by rw [List.length_map, List.length_map, List.length_range]; exact Nat.lt_of_lt_of_le (show n < 8 by omega) (by decide), by decide, ?_⟩
      unfold bookD planeR
      rw [List.map_append]
      rfl
end

set_option maxHeartbeats 1000000
section
open PySem PySem.Spec L2 DM
def colK (rows : List (List Int)) (x : Int) : List Int := rows.map fun r => at_ r x
def alikeB (rows : List (List Int)) (x y : Nat) : Bool := decide (colK rows (x : Int) = colK rows (y : Int))
def isRep (rows : List (List Int)) (x : Nat) : Bool := !(List.range x).any fun y => alikeB rows y x
def repsN (rows : List (List Int)) (i : Nat) : List Nat := (List.range i).filter (isRep rows)
def memN (rows : List (List Int)) (i x : Nat) : List Nat := (List.range i).filter fun y => alikeB rows y x
def grpD (n : Nat) (rows : List (List Int)) (rs : List Nat) : List (List Key × D) := rs.map fun x : Nat => (keyL (colK rows (x : Int)), D.loc (n + 1 + x))
def GInv (n : Nat) (rows : List (List Int)) (S0 : Store) (i : Nat) (S : Store) : Prop := S.length = n + 1 + i ∧ (∀ j, j < n → S[j]? = S0[j]?) ∧ S[n]? = some (.dic true (grpD n rows (repsN rows i))) ∧ ∀ x ∈ repsN rows i, S[n + 1 + x]? = some (.lst ((memN rows i x).map fun y : Nat => D.int (y : Int)))
theorem GInv.ext {n i : Nat} {rows : List (List Int)} {S0 S : Store} (h : GInv n rows S0 i S) (hn : n = S0.length) : Ext S0 S := ⟨by have := h.1; omega, fun j hj => h.2.1 j (by omega)⟩
noncomputable def bodyG : MS := (sDrop (eAppD (eSetD (eVar 1) (eOpN tupF [(eComp (miSeq (qC (eOp2 ixF (eVar 0) (eC (.int 1))))) (tgName 3) bYes (eOp2 ixF (eVar 3) (eVar 2)) [3])]) (eLst [])) (eVar 2)))
noncomputable def mb_gath : MS := (sSeq (sSet 1 (eDNew true))
    (sSeq (sFor (miRng1 (eCall m_things_of [(eVar 0)])) (tgName 2) bodyG)
    (sRet (eOpN tupF [(eMaxLen (eVar 1))]))))
noncomputable def m_gath : MF := mFun 1 4 (mb_gath)
end

set_option maxHeartbeats 1000000
section
open PySem PySem.Spec L2 DM
def ones (u : Nat) (s : List Int) : List Int := (List.range u).map fun x : Nat => if (x : Int) ∈ s then 1 else 0
end

set_option maxHeartbeats 1000000
section
open PySem PySem.Spec L2 DM
def lastK (is : List Nat) : Nat := is.getLast?.getD 0
def nextN (N : Nat) (is : List Nat) : List (List Nat) := (List.range (N - lastK is)).map fun j => is ++ [lastK is + j]
def nd (N : Nat) : Nat → List (List Nat)
  | 0 => [[]]
  | t + 1 => (nd N t).flatMap (nextN N)
theorem lastK_snoc (is : List Nat) (k : Nat) : lastK (is ++ [k]) = k := by
  unfold lastK
  simp
def pick {α : Type} (A : List α) (is : List Nat) : List α := is.filterMap fun i => A[i]?
theorem pick_snoc {α : Type} {A : List α} {is : List Nat} {k : Nat} {a : α} (h : A[k]? = some a) : pick A (is ++ [k]) = pick A is ++ [a] := by
  unfold pick
  rw [List.filterMap_append]
  simp [h]
def addV (a b : List Int) : List Int := List.zipWith (· + ·) a b
theorem addV_comm (a b : List Int) : addV a b = addV b a := by
  unfold addV
  rw [List.zipWith_comm]
  congr 1
  funext x y
  omega
theorem addV_assoc (a b c : List Int) : addV (addV a b) c = addV a (addV b c) := by
  unfold addV
  induction a generalizing b c with
  | nil => simp
  | cons x a ih =>
    cases b with
    | nil => simp
    | cons y b =>
      cases c with
      | nil => simp
      | cons z c => simp [ih, Int.add_assoc]
def vsum (Z : List Int) : List (List Int) → List Int
  | [] => Z
  | v :: vs => addV v (vsum Z vs)
theorem vsum_perm {Z : List Int} {a b : List (List Int)} (h : a.Perm b) : vsum Z a = vsum Z b := by
  induction h with
  | nil => rfl
  | cons x _ ih => unfold vsum; rw [ih]
  | swap x y l =>
    show addV y (addV x _) = addV x (addV y _)
    rw [← addV_assoc, ← addV_assoc, addV_comm y x]
  | trans _ _ h1 h2 => rw [h1, h2]
theorem vsum_snoc (Z : List Int) (vs : List (List Int)) (v : List Int) : vsum Z (vs ++ [v]) = addV (vsum Z vs) v := by
  rw [vsum_perm (List.perm_append_comm (l₁ := vs) (l₂ := [v]))]
  show addV v (vsum Z vs) = _
  exact addV_comm _ _
end

set_option maxHeartbeats 1000000
section
open PySem PySem.Spec L2 DM
end

set_option maxHeartbeats 1000000
section
open PySem PySem.Spec L2 DM
end

set_option maxHeartbeats 1000000
section
open PySem PySem.Spec L2 DM
section
open PyProof.Rows PySem.W
end
end

set_option maxHeartbeats 1000000
section
open PySem PySem.Spec L2 DM
theorem mem_putD {kvs : List (List Key × D)} {k : List Key} {v : D} {kv : List Key × D} (h : kv ∈ putD kvs k v) : kv = (k, v) ∨ kv ∈ kvs := by
  unfold putD at h
  split at h
  · obtain ⟨x, hx, e⟩ := List.mem_map.mp h
    by_cases z : x.1 = k
    · rw [if_pos z] at e
      left
      rw [← e, z]
    · rw [if_neg z] at e
      right
      exact e ▸ hx
  · rcases List.mem_append.mp h with h | h
    · exact .inr h
    · exact .inl (List.mem_singleton.mp h)
theorem valD_mem {kvs : List (List Key × D)} {k : List Key} {d : D} (h : valD kvs k = some d) : (k, d) ∈ kvs := by
  unfold valD at h
  obtain ⟨kv, hk, e⟩ := Option.map_eq_some_iff.mp h
  have h1 := List.find?_some hk
  have h2 := List.mem_of_find?_eq_some hk
  have h1 := of_decide_eq_true h1
  rw [← e, ← h1]
  exact h2
section
open PyProof.Rows PySem.W
end
structure FInv (Z : List Int) (KS : List (List Int)) (t : Nat) (kvs : List (List Key × D)) : Prop where
  len : kvs.length ≤ KS.length ^ t
  b : ∀ kv ∈ kvs, ∃ is ∈ nd KS.length t, kv = (keyL (vsum Z (pick KS is)), .int (lastK is : Nat))
  a : ∀ is ∈ nd KS.length t, ∃ v : Nat, valD kvs (keyL (vsum Z (pick KS is))) = some (.int (v : Nat)) ∧ v ≤ lastK is
theorem FInv.zero (Z : List Int) (KS : List (List Int)) : FInv Z KS 0 [(keyL Z, .int 0)] := by
  refine ⟨by simp, fun kv hkv => ⟨[], List.mem_singleton.mpr rfl, List.mem_singleton.mp hkv⟩, fun is his => ?_⟩
  cases List.mem_singleton.mp his
  exact ⟨0, by simp [valD, pick, vsum], Nat.le_refl _⟩
structure GInv2 (Z : List Int) (KS : List (List Int)) (t : Nat) (done : List Int → Nat → Prop) (kvs : List (List Key × D)) : Prop where
  b : ∀ kv ∈ kvs, ∃ is ∈ nd KS.length (t + 1), kv = (keyL (vsum Z (pick KS is)), .int (lastK is : Nat))
  a : ∀ c k v, done c k → KS[k]? = some v → ∃ w : Nat, valD kvs (keyL (addV c v)) = some (.int (w : Nat)) ∧ w ≤ k
theorem GInv2.get {Z : List Int} {KS : List (List Int)} {t : Nat} {done : List Int → Nat → Prop} {kvs : List (List Key × D)} (h : GInv2 Z KS t done kvs) (c : List Int) (k : Nat) : ∃ w : Nat, (valD kvs (keyL c)).getD (.int (k : Nat)) = .int (w : Nat) ∧ ((∃ js ∈ nd KS.length (t + 1), keyL c = keyL (vsum Z (pick KS js)) ∧ w = lastK js) ∨ w = k) := by
  cases e : valD kvs (keyL c) with
  | none => exact ⟨k, rfl, .inr rfl⟩
  | some d =>
    obtain ⟨is, his, e2⟩ := h.b _ (valD_mem e)
    injection e2 with e3 e4
    exact ⟨lastK is, by rw [e4]; rfl, .inl ⟨is, his, e3, rfl⟩⟩
theorem GInv2.put {Z : List Int} {KS : List (List Int)} {t k w : Nat} {done : List Int → Nat → Prop} {kvs : List (List Key × D)} {is : List Nat} {v : List Int} (h : GInv2 Z KS t done kvs) (his : is ∈ nd KS.length t) (hk : lastK is ≤ k) (hv : KS[k]? = some v)
    (hw : (valD kvs (keyL (addV (vsum Z (pick KS is)) v))).getD (.int (k : Nat)) = .int (w : Nat)) :
    GInv2 Z KS t (fun c j => done c j ∨ (c = vsum Z (pick KS is) ∧ j = k)) (putD kvs (keyL (addV (vsum Z (pick KS is)) v)) (.int ((min w k : Nat) : Nat))) := by
  have hkl := (List.getElem?_eq_some_iff.mp hv).1
  have hjs : is ++ [k] ∈ nd KS.length (t + 1) := List.mem_flatMap.mpr ⟨is, his, List.mem_map.mpr ⟨k - lastK is, List.mem_range.mpr (by omega), by rw [show lastK is + (k - lastK is) = k by omega]⟩⟩
  have hsum : vsum Z (pick KS (is ++ [k])) = addV (vsum Z (pick KS is)) v := by rw [pick_snoc hv, vsum_snoc]
  obtain ⟨w', e1, e2⟩ := h.get (addV (vsum Z (pick KS is)) v) k
  have ew : w' = w := by
    rw [hw] at e1
    injection e1 with e1
    omega
  subst ew
  refine ⟨fun kv hkv => ?_, fun c j x hd hx => ?_⟩
  · rcases mem_putD hkv with rfl | hkv
    · by_cases z : w' ≤ k
      · rw [Nat.min_eq_left z]
        rcases e2 with ⟨js, hj, e3, e4⟩ | e2
        · exact ⟨js, hj, by rw [e3, e4]⟩
        · exact ⟨is ++ [k], hjs, by rw [hsum, lastK_snoc, e2]⟩
      · rw [Nat.min_eq_right (by omega)]
        exact ⟨is ++ [k], hjs, by rw [hsum, lastK_snoc]⟩
    · exact h.b kv hkv
  · rw [val_put]
    by_cases z : keyL (addV (vsum Z (pick KS is)) v) = keyL (addV c x)
    · rw [if_pos z]
      refine ⟨min w' k, rfl, ?_⟩
      rcases hd with hd | ⟨rfl, rfl⟩
      · obtain ⟨w2, f1, f2⟩ := h.a c j x hd hx
        rw [← z] at f1
        rw [f1] at hw
        injection hw with hw
        omega
      · exact Nat.min_le_right _ _
    · rw [if_neg z]
      rcases hd with hd | ⟨rfl, rfl⟩
      · exact h.a c j x hd hx
      · rw [hv] at hx
        cases hx
        exact absurd rfl z
theorem GInv2.mono {Z : List Int} {KS : List (List Int)} {t : Nat} {d1 d2 : List Int → Nat → Prop} {kvs : List (List Key × D)} (h : GInv2 Z KS t d1 kvs) (hd : ∀ c k, d2 c k → d1 c k) : GInv2 Z KS t d2 kvs := ⟨h.b, fun c k v z => h.a c k v (hd c k z)⟩
theorem GInv2.nil {Z : List Int} {KS : List (List Int)} {t : Nat} : GInv2 Z KS t (fun _ _ => False) [] := ⟨fun _ h => (nomatch h), fun _ _ _ h => h.elim⟩
theorem GInv2.done {Z : List Int} {KS : List (List Int)} {t : Nat} {kvs kvs' : List (List Key × D)} (h : FInv Z KS t kvs) (g : GInv2 Z KS t (fun c k => ∃ v : Nat, valD kvs (keyL c) = some (.int (v : Nat)) ∧ v ≤ k ∧ k < KS.length) kvs') (hl : kvs'.length ≤ KS.length ^ (t + 1)) : FInv Z KS (t + 1) kvs' := by
  refine ⟨hl, g.b, fun js hjs => ?_⟩
  obtain ⟨is, his, hj⟩ := List.mem_flatMap.mp hjs
  unfold nextN at hj
  obtain ⟨j, hjr, rfl⟩ := List.mem_map.mp hj
  have hjr := List.mem_range.mp hjr
  have hk : lastK is + j < KS.length := by omega
  obtain ⟨v, e1, e2⟩ := h.a is his
  obtain ⟨w, f1, f2⟩ := g.a (vsum Z (pick KS is)) (lastK is + j) _ ⟨v, e1, by omega, hk⟩ (List.getElem?_eq_getElem hk)
  refine ⟨w, ?_, by rw [lastK_snoc]; exact f2⟩
  rw [pick_snoc (List.getElem?_eq_getElem hk), vsum_snoc]
  exact f1
end

set_option maxHeartbeats 1000000
section
open PySem PySem.Spec L2 DM
abbrev HL := List (Int × Int)
def lookH (h : HL) (b : Int) : Option Int := (h.find? fun p => decide (p.1 = b)).map (·.2)
def cntH (h : HL) (t : Int) : Nat := h.countP fun p => decide (p.2 = t)
def sidL (SD : HL) (t : Int) : List Int := match SD[t.toNat]? with
  | some p => [p.1, p.2]
  | none => []
structure GoodH (SD : HL) (h : HL) : Prop where
  nd : (h.map (·.1)).Nodup
  ok : ∀ p ∈ h, 0 ≤ p.2 ∧ p.2 < (SD.length : Int) ∧ p.1 ∈ sidL SD p.2
structure WidT (SD h : HL) (n : Int) (s : List Int) (h' : HL) (s' : List Int) : Prop where
  good : GoodH SD h'
  cnt : ∀ t, cntH h' t = cntH h t + if t = n then 1 else 0
  keep : ∀ c ∈ s, lookH h' c = lookH h c
  sub : ∀ c ∈ s, c ∈ s'
structure WidF (SD h : HL) (bs : List Int) (s : List Int) (h' : HL) (s' : List Int) : Prop where
  same : h' = h
  sub : ∀ c ∈ s, c ∈ s'
  own : ∀ b ∈ bs, b ∈ s'
  cl : ∀ b ∈ s', b ∉ s → ∃ t, lookH h b = some t ∧ ∀ c ∈ sidL SD t, c ∈ s'
  nd : s.Nodup → s'.Nodup
theorem sid_AB {SD : HL} {AB : List Int} (hAB : ∀ p ∈ SD, p.1 ∈ AB ∧ p.2 ∈ AB) (n : Int) : ∀ b ∈ sidL SD n, b ∈ AB := by
  intro b hb
  unfold sidL at hb
  cases e : SD[n.toNat]? with
  | none => rw [e] at hb; cases hb
  | some p =>
    rw [e] at hb
    obtain ⟨h1, h2⟩ := hAB p (List.mem_of_getElem? e)
    simp at hb
    rcases hb with rfl | rfl
    · exact h1
    · exact h2
structure LayOk (SD : HL) (k : Nat) (h : HL) : Prop where
  good : GoodH SD h
  cnt : ∀ t, cntH h t = if 0 ≤ t ∧ t < (k : Int) then 1 else 0
structure CrowdOk (SD : HL) (k : Nat) (h : HL) (s : List Int) : Prop where
  lay : LayOk SD k h
  lt : k < SD.length
  nd : s.Nodup
  own : ∀ b ∈ sidL SD k, b ∈ s
  cl : ∀ b ∈ s, ∃ t, lookH h b = some t ∧ ∀ c ∈ sidL SD t, c ∈ s
end

set_option maxHeartbeats 1000000
section
open PySem PySem.Spec L2 DM
local macro_rules | `(tactic| walk_at "d") => `(tactic| simp! only [w_dnew, w_dput, kDP1_d, kDP2_e])
noncomputable def bdW (rec : MF) : MS := (sIf (bOf (eOp2 dninF (eVar 4) (eVar 3))) (sSeq (sDPut (eVar 3) (eVar 4) (eC (.bl true)))
    (sIf (bOr (bOf (eOp2 dninF (eVar 4) (eVar 1))) (bOf (eCall rec [(eVar 0), (eVar 1), (eOp2 dgetF (eVar 1) (eVar 4)), (eVar 3)]))) (sSeq (sDPut (eVar 1) (eVar 4) (eVar 2))
    (sRet (eC (.bl true)))) sNop)) sNop)
noncomputable def mb_widR (rec : MF) : MS := (sSeq (sFor (miSeq (qE (eOp2 ixF (eVar 0) (eVar 2)))) (tgName 4) (bdW rec))
    (sRet (eC (.bl false))))
noncomputable def m_widR : Nat → MF
  | 0 => fun _ _ => .bad
  | n + 1 => mFun 4 5 (mb_widR (m_widR n))
section
variable {S : Store} {hd sd : Nat} {h h' : HL} {s s' : List Int}
end
theorem nodup_lenI : ∀ (l L : List Int), l.Nodup → (∀ x ∈ l, x ∈ L) → l.length ≤ L.length
  | [], _, _, _ => Nat.zero_le _
  | x :: l, L, hn, h => by
    have hx := h x List.mem_cons_self
    have h1 := nodup_lenI l (L.erase x) (List.nodup_cons.mp hn).2 fun y hy => by
      have hne : y ≠ x := fun z => (List.nodup_cons.mp hn).1 (z ▸ hy)
      exact (List.mem_erase_of_ne hne).mpr (h y (List.mem_cons_of_mem _ hy))
    rw [List.length_erase_of_mem hx] at h1
    have := List.length_pos_of_mem hx
    rw [List.length_cons]
    omega
theorem GoodH.len {SD h : HL} {AB : List Int} (g : GoodH SD h) (hAB : ∀ p ∈ SD, p.1 ∈ AB ∧ p.2 ∈ AB) : h.length ≤ AB.length := by
  have := nodup_lenI (h.map (·.1)) AB g.nd fun x hx => by
    obtain ⟨p, hp, rfl⟩ := List.mem_map.mp hx
    exact sid_AB hAB _ _ (g.ok p hp).2.2
  simpa using this
end

set_option maxHeartbeats 1000000
section
open PySem PySem.Spec L2 DM
structure LayX (SD : HL) (BX : List Int) : Prop where
  len : BX.length = SD.length
  own : ∀ (i : Nat) (b : Int), BX[i]? = some b → b ∈ sidL SD i
  nd : BX.Nodup
structure CrowdX (SD : HL) (TS : List Int) : Prop where
  inc : TS.Pairwise (· < ·)
  rng : ∀ t ∈ TS, 0 ≤ t ∧ t < (SD.length : Int)
  few : ∃ s : List Int, s.length < TS.length ∧ ∀ t ∈ TS, ∀ b ∈ sidL SD t, b ∈ s
theorem LayX.can {SD : HL} {BX TS : List Int} (h : LayX SD BX) (k : CrowdX SD TS) : False := by
  obtain ⟨s, hs, hb⟩ := k.few
  have hn : TS.Nodup := k.inc.imp fun h => by omega
  have h1 := nodup_lenI (TS.map fun t => BX[t.toNat]?.getD 0) s ?_ fun b hb2 => ?_
  · rw [List.length_map] at h1; omega
  · refine List.Pairwise.map _ (R := fun a b : Int => a ∈ TS ∧ b ∈ TS ∧ a ≠ b) ?_ (List.Pairwise.imp_of_mem (fun {a b} ha hb hab => ⟨ha, hb, hab⟩) hn)
    rintro a b ⟨ha, hb, hne⟩ z
    obtain ⟨a0, al⟩ := k.rng a ha
    obtain ⟨b0, bl⟩ := k.rng b hb
    have hla : a.toNat < BX.length := by rw [h.len]; omega
    have hlb : b.toNat < BX.length := by rw [h.len]; omega
    rw [List.getElem?_eq_getElem hla, List.getElem?_eq_getElem hlb] at z
    have z : BX[a.toNat] = BX[b.toNat] := z
    have := (List.getElem_inj h.nd).mp z
    omega
  · obtain ⟨t, ht, rfl⟩ := List.mem_map.mp hb2
    obtain ⟨a0, al⟩ := k.rng t ht
    have hla : t.toNat < BX.length := by rw [h.len]; omega
    have e := List.getElem?_eq_getElem hla
    rw [e]
    have := h.own _ _ e
    have e2 : ((t.toNat : Nat) : Int) = t := by omega
    rw [e2] at this
    exact hb t ht _ this
noncomputable def bdL (mw : MF) : MS := (sSeq (sSet 3 (eDNew false))
    (sIf (bNot (bOf (eCall mw [(eVar 0), (eVar 1), (eVar 2), (eVar 3)]))) (sRet (eTup [(eC (.str "crowded")), (eOpN sortedF [(eOp2 addF (eLst [(eVar 2)]) (eLk 3 (eComp (miKeys 3) (tgName 5) bYes (eOp2 dgetF (eVar 1) (eVar 5)) [5])))])])) sNop))
noncomputable def mb_locR : MS := (sSeq (sSet 1 (eDNew false))
    (sSeq (sFor (miRng1 (eOpN lenF [(eVar 0)])) (tgName 2) (bdL (m_widR 70)))
    (sSeq (sSet 4 (eDictP [(eLk 1 (eComp (miKeys 1) (tgName 5) bYes (eTup [(eOp2 dgetF (eVar 1) (eVar 5)), (eVar 5)]) [5]))]))
    (sRet (eTup [(eC (.str "laid")), (eComp (miRng1 (eOpN lenF [(eVar 0)])) (tgName 2) bYes (eOp2 dgetF (eVar 4) (eVar 2)) [2])])))))
noncomputable def m_locR : MF := mFun 1 6 mb_locR
end

set_option maxHeartbeats 1000000
section
open PySem PySem.Spec L2 DM
def CanLay (SD : HL) : Prop := ∃ BX, LayX SD BX
noncomputable def mb_twoR : MS := (sSeq (sDrop (eCall m_need_two [(eVar 0), (eVar 1), (eVar 2), (eVar 3)]))
    (sSeq (sAsg (tgTup 2 (tgCons (tgName 4) (tgCons (tgName 5) tgNil))) (eCall m_locR [(eCall m_sides_of [(eVar 0), (eVar 1), (eVar 2), (eVar 3)])]))
    (sSeq (sIf (bOf (eOp2 eqF (eVar 4) (eC (.str "crowded")))) (sRet (eTup [(eVar 4), (eOpN tupF [(eComp (miSeq (qC (eVar 5))) (tgName 6) bYes (eOp2 ixF (eVar 3) (eVar 6)) [6])])])) sNop)
    (sRet (eTup [(eVar 4), (eOpN tupF [(eVar 5)])])))))
noncomputable def m_twoR : MF := mFun 4 7 (mb_twoR)
section
variable {b n : Nat} {m : Int} {u : Nat} {rows : List (List Int)} {S : Store}
end
end

set_option maxHeartbeats 1000000
section
open PySem PySem.Spec L2 DM
section
variable {b n : Nat} {m : Int} {u : Nat} {rows : List (List Int)} {S : Store}
end
end

set_option maxHeartbeats 1000000
section
open PySem PySem.Spec L2 DM
end

set_option maxHeartbeats 1000000
section
open PySem PySem.Spec L2 DM
def everN (n : Nat) : List Int := (List.range n).map fun (k : Nat) => (k : Int)
theorem everN_len (n : Nat) : (everN n).length = n := by unfold everN; rw [List.length_map, List.length_range]
end

set_option maxHeartbeats 1000000
section
open PySem PySem.Spec L2 DM
theorem CrowdX.not {SD : HL} {TS : List Int} (h : CrowdX SD TS) : ¬ CanLay SD := fun ⟨_, hL⟩ => hL.can h
section
variable {b n : Nat} {m : Int} {u : Nat} {rows : List (List Int)} {S : Store}
end
end

set_option maxHeartbeats 1000000
section
open PySem PySem.Spec L2 DM
end

set_option maxHeartbeats 1000000
section
open PySem PySem.Spec L2 DM
def subsL (l : List Int) : List (List Int) := l.foldl (fun acc x => acc ++ acc.map fun C => C ++ [x]) [[]]
theorem subsL_snoc {l : List Int} {x : Int} : subsL (l ++ [x]) = subsL l ++ (subsL l).map fun C => C ++ [x] := by
  unfold subsL
  rw [List.foldl_append]
  rfl
theorem subsL_len (l : List Int) : (subsL l).length = 2 ^ l.length := by
  generalize hn : l.length = n
  induction n generalizing l with
  | zero =>
    have : l = [] := List.length_eq_zero_iff.mp hn
    subst this
    rfl
  | succ n ih =>
    rcases List.eq_nil_or_concat l with rfl | ⟨L, b, rfl⟩
    · simp at hn
    · rw [List.concat_eq_append, subsL_snoc, List.length_append, List.length_map, ih L (by simpa using hn)]
      omega
theorem subsL_mem {l : List Int} : ∀ C, C ∈ subsL l ↔ C.Sublist l := by
  generalize hn : l.length = n
  induction n generalizing l with
  | zero =>
    have : l = [] := List.length_eq_zero_iff.mp hn
    subst this
    intro C
    show C ∈ [[]] ↔ _
    rw [List.mem_singleton, List.sublist_nil]
  | succ n ih =>
    rcases List.eq_nil_or_concat l with rfl | ⟨L, b, rfl⟩
    · simp at hn
    · intro C
      have ih := ih (l := L) (by simpa using hn)
      rw [List.concat_eq_append, subsL_snoc, List.mem_append, List.mem_map, List.sublist_append_iff]
      constructor
      · rintro (h | ⟨C', h, rfl⟩)
        · exact ⟨C, [], by simp, (ih C).mp h, List.nil_sublist _⟩
        · exact ⟨C', [b], rfl, (ih C').mp h, List.Sublist.refl _⟩
      · rintro ⟨l1, l2, rfl, h1, h2⟩
        cases l2 with
        | nil => left; rw [List.append_nil]; exact (ih l1).mpr h1
        | cons y l2 =>
          right
          have h3 := h2.length_le
          have : l2 = [] := by
            cases l2 with
            | nil => rfl
            | cons _ _ => simp at h3
          subst this
          have hy : y = b := by
            have := h2.subset (List.mem_cons_self)
            simpa using this
          subst hy
          exact ⟨l1, (ih l1).mpr h1, rfl⟩
end

set_option maxHeartbeats 1000000
section
open PySem PySem.Spec L2 DM
end

set_option maxHeartbeats 1000000
section
open PySem PySem.Spec L2 DM
section
variable {m : Int} {u : Nat} {rows : List (List Int)} {S : Store}
end
structure LOk (n : Nat) (L : List (List Int)) : Prop where
  nd : L.Nodup
  sub : ∀ s ∈ L, s.Sublist (everN n)
theorem nodup_lenL {T : Type} [DecidableEq T] : ∀ (l L : List T), l.Nodup → (∀ x ∈ l, x ∈ L) → l.length ≤ L.length
  | [], _, _, _ => Nat.zero_le _
  | x :: l, L, hn, h => by
    have hx := h x List.mem_cons_self
    have h1 := nodup_lenL l (L.erase x) (List.nodup_cons.mp hn).2 fun y hy => by
      have hne : y ≠ x := fun z => (List.nodup_cons.mp hn).1 (z ▸ hy)
      exact (List.mem_erase_of_ne hne).mpr (h y (List.mem_cons_of_mem _ hy))
    rw [List.length_erase_of_mem hx] at h1
    have := List.length_pos_of_mem hx
    rw [List.length_cons]
    omega
theorem LOk.len {n : Nat} {L : List (List Int)} (h : LOk n L) : L.length ≤ 2 ^ n := by
  have := nodup_lenL L (subsL (everN n)) h.nd fun s hs => (subsL_mem s).mpr (h.sub s hs)
  rwa [subsL_len, everN_len] at this
section
variable {T : Type} {g : List Int → D} {L : List (List Int)} {s : List Int}
end
end

set_option maxHeartbeats 2000000
section
open PySem PySem.Spec L2 DM
end

set_option maxHeartbeats 1000000
section
open PySem PySem.Spec L2 DM
section
variable {u : Nat} {rows : List (List Int)}
end
end

set_option maxHeartbeats 1000000
section
open PySem PySem.Spec L2 DM
section
variable {u : Nat} {rows : List (List Int)}
end
end

section
open PySem PySem.Spec L2 DM
section
variable {m : Int} {u : Nat} {rows : List (List Int)} {S : Store}
end
end

section
open PySem PySem.Spec L2 DM
def wtD (S : Store) : Nat → D → Nat
  | 0, _ => 1
  | k + 1, .tup ds => 1 + (ds.map (wtD S k)).sum
  | k + 1, .loc l => 1 + match S[l]? with
    | some (.lst ds) => (ds.map (wtD S k)).sum
    | _ => 0
  | _ + 1, _ => 1
theorem wt_up {b : Nat} {S S' : Store} (hg : Grow b S S') : ∀ {k n : Nat} {d : D}, AnyD b S k d → k ≤ n → wtD S' n d = wtD S k d
  | 0, _, _, h, _ => h.elim
  | _ + 1, 0, _, _, h => absurd h (by omega)
  | k + 1, n + 1, .tup ds, h, hn => by
    show 1 + _ = 1 + _
    congr 2
    exact List.map_congr_left fun d hd => wt_up (k := k) hg (h.2 d hd) (by omega)
  | k + 1, n + 1, .loc l, h, hn => by
    obtain ⟨hb, ds, e, _, hd⟩ := h
    have e1 : ds.map (wtD S' n) = ds.map (wtD S k) := List.map_congr_left fun d q => wt_up (k := k) hg (hd d q) (by omega)
    show 1 + (match S'[l]? with
      | some (.lst ds) => (ds.map (wtD S' n)).sum
      | _ => 0) = 1 + (match S[l]? with
      | some (.lst ds) => (ds.map (wtD S k)).sum
      | _ => 0)
    rw [hg.get e hb, e]
    show 1 + (ds.map (wtD S' n)).sum = 1 + (ds.map (wtD S k)).sum
    rw [e1]
  | _ + 1, _ + 1, .non, _, _ => rfl
  | _ + 1, _ + 1, .bl _, _, _ => rfl
  | _ + 1, _ + 1, .int _, _, _ => rfl
  | _ + 1, _ + 1, .str _, _, _ => rfl
  | _ + 1, _ + 1, .ty _, _, _ => rfl
  | _ + 1, _ + 1, .cls _, _, _ => rfl
  | _ + 1, _ + 1, .fn _, _, _ => rfl
  | _ + 1, _ + 1, .exn _ _, _, _ => rfl
  | _ + 1, _ + 1, .scr _, _, _ => rfl
structure AnyV (b : Nat) (S : Store) (k w : Nat) (d : D) : Prop where
  any : AnyD b S k d
  wt : wtD S k d ≤ w
structure AnyL (b : Nat) (S : Store) (k n w : Nat) (ds : List D) : Prop where
  len : ds.length ≤ n
  any : ∀ d ∈ ds, AnyD b S k d
  wt : (ds.map (wtD S k)).sum ≤ w
section
variable {b k n w : Nat} {S S' : Store} {d : D} {ds es : List D}
theorem AnyV.up {k2 w2 : Nat} (h : AnyV b S k w d) (hk : k ≤ k2) (hw : w ≤ w2) : AnyV b S k2 w2 d := ⟨h.any.up hk, by rw [wt_up (Grow.refl _ _) h.any hk]; exact Nat.le_trans h.wt hw⟩
theorem AnyL.up {k2 n2 w2 : Nat} (h : AnyL b S k n w ds) (hk : k ≤ k2) (hn : n ≤ n2) (hw : w ≤ w2) : AnyL b S k2 n2 w2 ds := ⟨Nat.le_trans h.len hn, fun d hd => (h.any d hd).up hk, by
  have : ds.map (wtD S k2) = ds.map (wtD S k) := List.map_congr_left fun d hd => wt_up (Grow.refl _ _) (h.any d hd) hk
  rw [this]
  exact Nat.le_trans h.wt hw⟩
theorem AnyL.tup (h : AnyL b S k n w ds) (hn : n ≤ 150) : AnyV b S (k + 1) (w + 1) (.tup ds) := ⟨⟨Nat.le_trans h.len hn, h.any⟩, by
  show 1 + _ ≤ w + 1
  have := h.wt
  omega⟩
theorem AnyL.lst {l : Nat} (h : AnyL b S k n w ds) (hn : n ≤ 150) (hl : S[l]? = some (.lst ds)) (hb : l ≠ b) : AnyV b S (k + 1) (w + 1) (.loc l) := ⟨⟨hb, ds, hl, Nat.le_trans h.len hn, h.any⟩, by
  have h5 : wtD S (k + 1) (.loc l) = 1 + (ds.map (wtD S k)).sum := by
    show 1 + (match S[l]? with
      | some (.lst ds) => (ds.map (wtD S k)).sum
      | _ => 0) = _
    rw [hl]
  have := h.wt
  omega⟩
theorem AnyL.nil : AnyL b S k 0 0 [] := ⟨Nat.le_refl _, fun _ h => (nomatch h), Nat.le_refl _⟩
theorem AnyL.cons {v : Nat} (hd : AnyV b S k v d) (h : AnyL b S k n w ds) : AnyL b S k (n + 1) (v + w) (d :: ds) := ⟨by have := h.len; simp; omega, fun e he => by
  rcases List.mem_cons.mp he with rfl | he
  · exact hd.any
  · exact h.any e he, by
  have h1 := hd.wt
  have h2 := h.wt
  rw [List.map_cons, List.sum_cons]
  omega⟩
theorem AnyL.one (hd : AnyV b S k w d) : AnyL b S k 1 w [d] := AnyL.cons hd .nil
end
end

section
open PySem PySem.Spec L2 DM
end

section
open PySem PySem.Spec L2 DM
theorem eq_rowsT {S : Store} {xs ys : List Int} : eqF S (.d (rowL xs)) (.d (rowL ys)) = some (.d (.bl (decide (xs = ys)))) := by
  have e1 : ∀ zs : List Int, pyR S (.d (rowL zs)) = some (.tuple (zs.map PyData.int)) := fun zs => by
    show ((zs.map D.int).mapM (pyD 63 S)).map PyData.tuple = _
    rw [ints_py]; rfl
  unfold eqF
  rw [e1, e1]
  show (if SeqAt.shaped (.tuple (xs.map PyData.int)) = true ∧ SeqAt.shaped (.tuple (ys.map PyData.int)) = true then _ else _) = _
  rw [if_pos ⟨shaped_tints, shaped_tints⟩]
  have : PyData.eqv (.tuple (xs.map PyData.int)) (.tuple (ys.map PyData.int)) = decide (xs = ys) := by
    rw [← eqv_ints]
    simp [PyData.eqv]
  rw [this]
section
variable {u : Nat} {rows : List (List Int)}
end
section
variable {m : Int} {u b n : Nat} {rows : List (List Int)} {S : Store}
end
end

section
open PySem PySem.Spec L2 DM
section
variable {p : Int} {s t : List Int}
theorem room_parts {d : D} (h : roomB p t d = true) : ∃ c e : Int, d = .tup [.int c, .int e, .tup (cellL p c e ((t.length : Int) * (t.length : Int)) t)] ∧ (1 ≤ c ∧ c < p) ∧ (0 ≤ e ∧ e < p) ∧ (t.map (boxF p c e ((t.length : Int) * (t.length : Int)))).Nodup := by
  obtain ⟨c, e, rfl, hn⟩ := roomB_true h
  have h2 : roomB p t (.tup [.int c, .int e, .tup (cellL p c e ((t.length : Int) * (t.length : Int)) t)]) = (isPairB p (.int c) (.int e) && (decide ((t.map (boxF p c e ((t.length : Int) * (t.length : Int)))).Nodup) && cellsB t (cellL p c e ((t.length : Int) * (t.length : Int)) t) (.tup (cellL p c e ((t.length : Int) * (t.length : Int)) t)))) := rfl
  rw [h2, Bool.and_eq_true] at h
  obtain ⟨a, b, e1, e2, h3, h4⟩ := isPairB_true h.1
  cases e1
  cases e2
  exact ⟨c, e, rfl, by omega, h4, hn⟩
structure Tab (p : Int) (s : List Int) (a b : Int) (R : List D) : Prop where
  ha : 1 ≤ a ∧ a < p
  hb : 0 ≤ b ∧ b < p
  meet : 2 * meetL (s.map (boxF p a b (s.length : Int))) < (s.length : Int)
  len : R.length = s.length
  room : ∀ (i : Nat) (r : D), R[i]? = some r → roomB p (inBox p (a, b) (s.length : Int) (i : Int) s) r = true
def tabD (a b : Int) (R : List D) : D := .tup [.int a, .int b, .tup R]
theorem parts_get {a b : Int} {i : Nat} (hi : i < s.length) : (partsP p a b s)[i]? = some (inBox p (a, b) (s.length : Int) (i : Int) s) := by
  unfold partsP
  rw [List.getElem?_map, List.getElem?_range hi]
  rfl
theorem Tab.ok {a b : Int} {R : List D} (T : Tab p s a b R) (h1 : 1 ≤ s.length) : floorsB p s (tabD a b R) = true := by
  have e : floorsB p s (tabD a b R) = (isPairB p (.int a) (.int b) && (decide (R.length = s.length) && ((((partsP p a b s).zip R).all fun q => roomB p q.1 q.2) && decide (squaresI (partsP p a b s) < 2 * (s.length : Int))))) := rfl
  have hm := T.meet
  rw [e, pair_B T.ha T.hb, squares_parts h1, decide_eq_true T.len, decide_eq_true (by omega)]
  have : (((partsP p a b s).zip R).all fun q => roomB p q.1 q.2) = true := by
    rw [List.all_eq_true]
    intro q hq
    obtain ⟨i, hi⟩ := List.mem_iff_getElem?.mp hq
    obtain ⟨h2, h3⟩ := List.getElem?_zip_eq_some.mp hi
    have hil := (List.getElem?_eq_some_iff.mp h3).1
    rw [parts_get (by rw [← T.len]; exact hil)] at h2
    have := T.room i q.2 h3
    have e2 := Option.some.inj h2
    rw [← e2]
    exact this
  rw [this]
  rfl
theorem Tab.small {a b : Int} {R : List D} {i : Nat} (T : Tab p s a b R) (h1 : 1 ≤ s.length) (hi : i < s.length) : (inBox p (a, b) (s.length : Int) (i : Int) s).length * (inBox p (a, b) (s.length : Int) (i : Int) s).length < 2 * s.length := by
  have h := mem_le_sum (l := (partsP p a b s).map fun t => (t.length : Int) * (t.length : Int)) (fun x hx => by
    obtain ⟨j, _, rfl⟩ := List.mem_map.mp hx
    exact Int.mul_nonneg (by omega) (by omega)) _ (List.mem_map.mpr ⟨_, List.mem_of_getElem? (parts_get hi), rfl⟩)
  have h2 := squares_parts (p := p) (a := a) (b := b) h1
  unfold squaresI at h2
  rw [h2] at h
  have := T.meet
  have h3 : (((inBox p (a, b) (s.length : Int) (i : Int) s).length * (inBox p (a, b) (s.length : Int) (i : Int) s).length : Nat) : Int) < ((2 * s.length : Nat) : Int) := by
    push_cast
    omega
  exact_mod_cast h3
variable {b n : Nat} {S : Store}
theorem each_wt {k w : Nat} : ∀ {L : List D}, (∀ x ∈ L, AnyV b S k w x) → (L.map (wtD S k)).sum ≤ L.length * w
  | [], _ => by simp
  | x :: L, h => by
    rw [List.map_cons, List.sum_cons, List.length_cons, Nat.succ_mul]
    have h1 := (h x List.mem_cons_self).wt
    have h2 := each_wt (L := L) fun y hy => h y (List.mem_cons_of_mem _ hy)
    omega
theorem each {k m w : Nat} {L : List D} (h : ∀ x ∈ L, AnyV b S k w x) (hl : L.length ≤ m) : AnyL b S k m (m * w) L := ⟨hl, fun d hd => (h d hd).any, Nat.le_trans (each_wt h) (Nat.mul_le_mul_right _ hl)⟩
theorem cell_in {c e M : Int} {x : D} (ht : RsOk p t) (p6 : p ≤ 1000000) (h : x ∈ cellL p c e M t) : x = .non ∨ ∃ v, x = .int v ∧ 0 ≤ v ∧ v ≤ 1000000 := by
  rcases cellD_two h with rfl | ⟨v, rfl⟩
  · exact .inl rfl
  · refine .inr ⟨v, rfl, ?_⟩
    unfold cellL at h
    obtain ⟨i, _, hi⟩ := List.mem_map.mp h
    have := ht.2 v (cellD_out hi)
    omega
def RoomD (m : Nat) (r : D) : Prop := ∃ (c e : Int) (L : List D), r = .tup [.int c, .int e, .tup L] ∧ (0 ≤ c ∧ c ≤ 1000000) ∧ (0 ≤ e ∧ e ≤ 1000000) ∧ L.length ≤ m ∧ ∀ x ∈ L, x = .non ∨ ∃ v, x = .int v ∧ 0 ≤ v ∧ v ≤ 1000000
theorem Tab.rooms {a q : Int} {R : List D} (T : Tab p s a q R) (hs : RsOk p s) (p6 : p ≤ 1000000) (h1 : 1 ≤ s.length) (h2 : s.length ≤ 12) : ∀ r ∈ R, RoomD 24 r := fun r hr => by
  obtain ⟨i, hi⟩ := List.mem_iff_getElem?.mp hr
  have hil := (List.getElem?_eq_some_iff.mp hi).1
  have hsm := T.small h1 (show i < s.length by rw [← T.len]; exact hil)
  obtain ⟨c, e, rfl, hc, he, _⟩ := room_parts (T.room i r hi)
  have hrs := (inBox_rs (q := (a, q)) (m := (s.length : Int)) (box := (i : Int)) hs).1
  generalize inBox p (a, q) (s.length : Int) (i : Int) s = t at *
  exact ⟨c, e, _, rfl, by omega, by omega, by rw [cellL_len, sq_nat]; omega, fun x hx => cell_in hrs p6 hx⟩
def TabD (m : Nat) (d : D) : Prop := ∃ (a q : Int) (R : List D), d = tabD a q R ∧ (0 ≤ a ∧ a ≤ 1000000) ∧ (0 ≤ q ∧ q ≤ 1000000) ∧ R.length ≤ 12 ∧ ∀ r ∈ R, RoomD m r
theorem Tab.D {a q : Int} {R : List D} (T : Tab p s a q R) (hs : RsOk p s) (p6 : p ≤ 1000000) (h1 : 1 ≤ s.length) (h2 : s.length ≤ 12) : TabD 24 (tabD a q R) := by
  have ha := T.ha
  have hb := T.hb
  exact ⟨a, q, R, rfl, by omega, by omega, by rw [T.len]; exact h2, T.rooms hs p6 h1 h2⟩
end
end

section
open PySem PySem.Spec L2 DM TL
def strN (n : Nat) : Str := Str.ofString (toString (n : Int))
end

section
open PySem PySem.Spec L2 DM TL
end

section
open PySem PySem.Spec L2 DM TL
abbrev rowI (r : List Nat) : List D := r.map fun (n : Nat) => D.int (n : Int)
def wObj (m q : Nat) : O := .obj 7 [("boxes", .int (m : Int)), ("rows", .loc q)]
structure WAt (S : Store) (B p m q : Nat) (ls : List Nat) (rows : List (List Nat)) : Prop where
  bp : B ≤ p
  bq : B ≤ q
  bl : ∀ l ∈ ls, B ≤ l
  pq : p ≠ q
  pl : p ∉ ls
  ql : q ∉ ls
  nd : ls.Nodup
  hp : S[p]? = some (wObj m q)
  hq : S[q]? = some (.lst (ls.map D.loc))
  len : ls.length = rows.length
  row : ∀ (i l : Nat) (r : List Nat), ls[i]? = some l → rows[i]? = some r → S[l]? = some (.lst (rowI r))
def lastR (rows : List (List Nat)) : List Nat := rows.getLast?.getD []
def headR (rows : List (List Nat)) : List Nat := rows.head?.getD []
section
variable {S : Store} {B p m q : Nat} {ls : List Nat} {rows : List (List Nat)}
theorem WAt.ne (h : WAt S B p m q ls rows) (hne : rows ≠ []) : ls ≠ [] := fun z => hne (List.length_eq_zero_iff.mp (by rw [← h.len, z]; rfl))
theorem WAt.first (h : WAt S B p m q ls rows) (hne : rows ≠ []) : ∃ l0, atI (ls.map D.loc) 0 = some (.loc l0) ∧ S[l0]? = some (.lst (rowI (headR rows))) := by
  cases ls with
  | nil => exact absurd rfl (h.ne hne)
  | cons l0 r =>
    refine ⟨l0, DM.atI_nat (l := (l0 :: r).map D.loc) (j := 0) (by simp), ?_⟩
    cases rows with
    | nil => exact absurd rfl hne
    | cons x xs => exact h.row 0 l0 x rfl rfl
end
def fullR (rows : List (List Nat)) : Nat := if 1 < rows.length then (headR rows).length else 64
def putL (rows : List (List Nat)) (n : Nat) : List (List Nat) := rows.dropLast ++ [lastR rows ++ [n]]
structure GoodR (rows : List (List Nat)) : Prop where
  len : rows.length ≤ 600
  row : ∀ r ∈ rows, r.length ≤ 64
  lf : (lastR rows).length ≤ fullR rows
def Low (B : Nat) (S S' : Store) : Prop := S.length ≤ S'.length ∧ ∀ j, j < B → S'[j]? = S[j]?
theorem Low.trans {B : Nat} {S S1 S2 : Store} (a : Low B S S1) (b : Low B S1 S2) : Low B S S2 := ⟨Nat.le_trans a.1 b.1, fun j h => (b.2 j h).trans (a.2 j h)⟩
theorem Low.set {B l : Nat} {S : Store} {o : O} (h : B ≤ l) : Low B S (S.set l o) := ⟨by rw [List.length_set]; exact Nat.le_refl _, fun j hj => List.getElem?_set_ne (by omega)⟩
theorem Low.push {B : Nat} {S : Store} {o : O} (h : B ≤ S.length) : Low B S (S ++ [o]) := ⟨by simp, fun j hj => List.getElem?_append_left (by omega)⟩
section
variable {S : Store} {B p m q : Nat} {ls : List Nat} {rows : List (List Nat)}
theorem WAt.pb (h : WAt S B p m q ls rows) : p < S.length := (List.getElem?_eq_some_iff.mp h.hp).1
theorem WAt.lb (h : WAt S B p m q ls rows) {l : Nat} (hl : l ∈ ls) : l < S.length := by
  obtain ⟨i, hi⟩ := List.getElem?_of_mem hl
  have hr : i < rows.length := by rw [← h.len]; exact (List.getElem?_eq_some_iff.mp hi).1
  exact (List.getElem?_eq_some_iff.mp (h.row i l _ hi (List.getElem?_eq_getElem hr))).1
theorem WAt.boxes (h : WAt S B p m q ls rows) (n : Nat) : WAt (S.set p (wObj n q)) B p n q ls rows :=
  ⟨h.bp, h.bq, h.bl, h.pq, h.pl, h.ql, h.nd, List.getElem?_set_self h.pb, by rw [List.getElem?_set_ne h.pq]; exact h.hq, h.len, fun i l r h1 h2 => by
    rw [List.getElem?_set_ne (show p ≠ l from fun z => h.pl (z ▸ List.mem_of_getElem? h1))]; exact h.row i l r h1 h2⟩
theorem WAt.put (h : WAt S B p m q ls rows) (hne : rows ≠ []) {lz n : Nat} (hz : ls[ls.length - 1]? = some lz) : WAt (S.set lz (.lst (rowI (lastR rows ++ [n])))) B p m q ls (putL rows n) := by
  have hm := List.mem_of_getElem? hz
  have hn := List.length_pos_iff.mpr (h.ne hne)
  have hd : rows.dropLast.length = ls.length - 1 := by rw [List.length_dropLast, h.len]
  refine ⟨h.bp, h.bq, h.bl, h.pq, h.pl, h.ql, h.nd, by rw [List.getElem?_set_ne (show lz ≠ p from fun z => h.pl (z ▸ hm))]; exact h.hp, by rw [List.getElem?_set_ne (show lz ≠ q from fun z => h.ql (z ▸ hm))]; exact h.hq, ?_, fun i l r h1 h2 => ?_⟩
  · unfold putL; rw [List.length_append, hd]; simp; omega
  · unfold putL at h2
    by_cases hi : i < ls.length - 1
    · rw [List.getElem?_append_left (by omega)] at h2
      have h3 : rows[i]? = some r := by
        rw [List.getElem?_dropLast] at h2
        split at h2
        · exact h2
        · cases h2
      have e : lz ≠ l := fun z => by
        subst z
        have g1 := (List.getElem?_eq_some_iff.mp hz).2
        have g2 := (List.getElem?_eq_some_iff.mp h1).2
        have := (List.getElem_inj h.nd).mp (g1.trans g2.symm)
        omega
      rw [List.getElem?_set_ne e]
      exact h.row i l r h1 h3
    · have hi' : i = ls.length - 1 := by
        have := (List.getElem?_eq_some_iff.mp h1).1; omega
      subst hi'
      rw [hz] at h1
      cases h1
      rw [List.getElem?_append_right (by omega), hd] at h2
      simp at h2
      subst h2
      exact List.getElem?_set_self (h.lb hm)
end
end

section
open PySem PySem.Spec L2 DM TL
section
variable {S : Store} {B p m q : Nat} {ls : List Nat} {rows : List (List Nat)} {w : Str}
theorem GoodR.head (g : GoodR rows) : (headR rows).length ≤ 64 := by
  cases rows with
  | nil => simp [headR]
  | cons r _ => exact g.row r (by simp)
theorem GoodR.full (g : GoodR rows) : fullR rows ≤ 64 := by
  unfold fullR
  split
  · exact g.head
  · exact Nat.le_refl _
theorem lastR_app {r : List Nat} : lastR (rows ++ [r]) = r := by simp [lastR]
theorem full_put {n : Nat} (hne : rows ≠ []) : fullR (putL rows n) = fullR rows := by
  have hl : (putL rows n).length = rows.length := by
    have := List.length_pos_iff.mpr hne
    unfold putL; rw [List.length_append, List.length_dropLast]; simp; omega
  unfold fullR
  rw [hl]
  split
  · rename_i h1
    congr 1
    unfold headR putL
    match rows, h1 with
    | a :: b :: r, _ => rfl
  · rfl
theorem GoodR.put (g : GoodR rows) (hne : rows ≠ []) (hf : (lastR rows).length ≠ fullR rows) (n : Nat) : GoodR (putL rows n) := by
  have h2 := g.lf
  have h3 := g.full
  refine ⟨?_, fun r hr => ?_, ?_⟩
  · have := g.len; have := List.length_pos_iff.mpr hne
    unfold putL
    rw [List.length_append, List.length_dropLast]; simp; omega
  · unfold putL at hr
    rcases List.mem_append.mp hr with hr | hr
    · exact g.row r (List.dropLast_subset _ hr)
    · have e : r = lastR rows ++ [n] := by simpa using hr
      subst e
      simp; omega
  · rw [full_put hne]
    unfold putL
    rw [lastR_app]
    simp; omega
end
end

section
open PySem PySem.Spec L2 DM TL
end

section
open PySem PySem.Spec L2 DM TL
def blank : Str := Str.ofString " "
structure BkN (m : Nat) (rows : List (List Nat)) : Prop where
  m1 : 1 ≤ m
  m2 : m ≤ 64
  ne : rows ≠ []
  r2 : rows.length ≤ 600
  u : ∃ u, 1 ≤ u ∧ u ≤ 64 ∧ ∀ r ∈ rows, r.length = u ∧ ∀ b ∈ r, b < m
end

section
open PySem PySem.Spec L2 DM TL
end

section
open PySem PySem.Spec L2 DM TL
structure BkT (m : Nat) (rows : List (List Nat)) : Prop where
  m : m < 1000000
  r : rows.length ≤ 1000
  u : ∀ r ∈ rows, r.length ≤ 1000 ∧ ∀ b ∈ r, b < 1000000
theorem BkN.t {m : Nat} {rows : List (List Nat)} (h : BkN m rows) : BkT m rows := by
  obtain ⟨u, u1, u2, hu⟩ := h.u
  have := h.m2
  exact ⟨by omega, Nat.le_trans h.r2 (by decide), fun r hr => ⟨by rw [(hu r hr).1]; omega, fun b hb => by have := (hu r hr).2 b hb; omega⟩⟩
theorem log_nat {n : Nat} (h : n < 1000000) : ((n : Int)).natAbs.log2 < 1920 := by
  rw [Int.natAbs_natCast]
  by_cases h0 : n = 0
  · rw [h0]; decide
  · exact Nat.lt_trans ((Nat.log2_lt h0).mpr (show n < 2 ^ 20 by omega)) (by decide)
end

section
open PySem PySem.Spec L2 DM TL
end

section
open PySem PySem.Spec L2 DM TL
end

section
open PySem PySem.Spec L2 DM TL
theorem log_int {i : Int} (h0 : 0 ≤ i) (h : i < 1000000) : i.natAbs.log2 < 1920 := by
  obtain ⟨n, rfl⟩ := Int.eq_ofNat_of_zero_le h0
  exact log_nat (by omega)
theorem str_len_app {x y : Str} : (x ++ y).length = x.length + y.length := by
  rw [len_tl, tl_append, List.length_append, ← len_tl, ← len_tl]
def rowAB (w : Str) (ns : List Nat) : Bool :=
  if w = Str.ofString "two" then decide (2 < ns.length)
  else if (ns.length : Int) = (tab_ASKED.lookup w).getD (-1) then (if w = Str.ofString "even" ∨ w = Str.ofString "missed" then decide (1 ≤ ns.headD 0 ∧ ns.headD 0 ≤ 4) else true)
  else false
abbrev natD (ns : List Nat) : List D := ns.map fun (n : Nat) => D.int (n : Int)
end

section
open PySem PySem.Spec L2 DM TL
end

section
open PySem PySem.Spec L2 DM TL
noncomputable def mb_evtR : MS := (sSeq (sSet 2 (eCall m_evenfor [(eVar 0), (eVar 1)]))
    (sSeq (sIf (bOf (eOp2 eqF (eOpN lenF [(eVar 2)]) (eC (.int 1)))) (sRet (eC (.str "even"))) sNop)
    (sRet (eMt "str" joinF (eC (.str " ")) [(eLst [(eOp2 ixF (eVar 2) (eC (.int 0))), (eCall m_by_commas [(eOp2 ixF (eVar 2) (eC (.int 1)))]), (eC (.str ":")), (eCall m_by_commas [(eOp2 ixF (eVar 2) (eC (.int 2)))]), (eC (.str ":")), (eOpN strF [(eOp2 ixF (eVar 2) (eC (.int 3)))])])]))))
noncomputable def m_evtR : MF := mFun 2 3 (mb_evtR)
noncomputable def mb_ansR : MS := (sSeq (sIf (bOf (eOp2 eqF (eVar 1) (eC (.str "meets")))) (sRet (eOpN strF [(eCall m_meets [(eVar 0), (eOp2 ixF (eVar 2) (eC (.int 0))), (eOp2 ixF (eVar 2) (eC (.int 1)))])])) sNop)
    (sSeq (sIf (bOf (eOp2 eqF (eVar 1) (eC (.str "worst")))) (sRet (eCall m_worst_text [(eVar 0)])) sNop)
    (sSeq (sIf (bOf (eOp2 eqF (eVar 1) (eC (.str "even")))) (sRet (eCall m_evtR [(eVar 0), (eOp2 ixF (eVar 2) (eC (.int 0)))])) sNop)
    (sSeq (sIf (bOf (eOp2 eqF (eVar 1) (eC (.str "parted")))) (sRet (eOpN strF [(eCall m_parted_by [(eVar 0)])])) sNop)
    (sSeq (sIf (bOf (eOp2 eqF (eVar 1) (eC (.str "missed")))) (sRet (eCall m_missed_text [(eVar 0), (eOp2 ixF (eVar 2) (eC (.int 0)))])) sNop)
    (sSeq (sIf (bOf (eOp2 eqF (eVar 1) (eC (.str "gathered")))) (sRet (eCall m_by_commas [(eCall m_gath [(eVar 0)])])) sNop)
    (sSeq (sSet 3 (eCall m_twoR [(eVar 0), (eOp2 ixF (eVar 2) (eC (.int 0))), (eOp2 ixF (eVar 2) (eC (.int 1))), (eOpN tupF [(eSl (some (eC (.int 2))) none (eVar 2))])]))
    (sRet (eOp2 addF (eOp2 addF (eOp2 ixF (eVar 3) (eC (.int 0))) (eC (.str " "))) (eCall m_by_commas [(eOp2 ixF (eVar 3) (eC (.int 1)))]))))))))))
noncomputable def m_ansR : MF := mFun 3 4 (mb_ansR)
noncomputable def mb_sayR : MS := (sSeq (sSet 2 (eMt "str" splitF (eVar 1) [(eC (.str " "))]))
    (sSeq (sIf (bAnd (bOf (eOp2 eqF (eOp2 ixF (eVar 2) (eC (.int 0))) (eC (.str "book")))) (bOf (eOp2 gtF (eOpN lenF [(eVar 2)]) (eC (.int 1))))) (sSeq (sFld 8 "book" (eVar 0) (eCall m_read_book [(eSl (some (eC (.int 5))) none (eVar 1))]))
    (sRet (eC (.str "ok")))) sNop)
    (sSeq (sSet 3 (eComp (miSeq (qC (eSl (some (eC (.int 1))) none (eVar 2)))) (tgName 4) bYes (eCall m_number_of [(eVar 4)]) [4]))
    (sSeq (sIf (bOf (eOp2 inF (eC .non) (eVar 3))) (sRaise 5) sNop)
    (sSeq (sIf (bAnd (bOf (eOp1 (inGF tab_MADE) (eOp2 ixF (eVar 2) (eC (.int 0))))) (bOf (eCall m_is_made [(eOp2 ixF (eVar 2) (eC (.int 0))), (eVar 3)]))) (sSeq (sFld 8 "book" (eVar 0) (eCall m_made_by [(eOp2 ixF (eVar 2) (eC (.int 0))), (eVar 3)]))
    (sRet (eC (.str "ok")))) sNop)
    (sSeq (sIf (bOr (bOf (eOp2 isF (eFld 8 "book" (eVar 0)) (eC .non))) (bNot (bOf (eCall m_is_asked [(eOp2 ixF (eVar 2) (eC (.int 0))), (eVar 3)])))) (sRaise 5) sNop)
    (sRet (eCall m_ansR [(eFld 8 "book" (eVar 0)), (eOp2 ixF (eVar 2) (eC (.int 0))), (eVar 3)]))))))))
noncomputable def m_sayR : MF := mFun 2 5 (mb_sayR)
def deskO (d : D) : O := .obj 8 [("book", d)]
end

section
open PySem PySem.Spec L2 DM TL
section
variable {S : Store} {bk : D} {p : Bool} {Q : RV → Store → Prop} {X : QX}
end
end

section
open PySem PySem.Spec L2 DM TL
end

section
open PySem PySem.Spec L2 DM TL
def rowW (w : Str) (ns : List Nat) : Str := Txt.join blank (w :: ns.map strN)
section
variable {S : Store} {p : Nat} {bk : D} {Q : RV → Store → Prop} {X : QX}
end
end

section
open PySem PySem.Spec L2 DM
def sumRows (p : Int) (t u : Nat) : List (List Int) := (numsA p.toNat t).map fun s => sumRow p u s
theorem sumRows_ok {p : Int} {t u : Nat} (p2 : 2 ≤ p) : BookOk p u (sumRows p t u) := by
  have pos := Nat.pow_pos (a := p.toNat) (n := t) (by omega)
  refine ⟨fun z => ?_, fun r hr => ?_⟩
  · have := congrArg List.length z
    unfold sumRows at this
    rw [List.length_map, numsA_len] at this
    have this : p.toNat ^ t = 0 := this
    omega
  · unfold sumRows at hr
    obtain ⟨s, _, rfl⟩ := List.mem_map.mp hr
    refine ⟨by unfold sumRow; rw [List.length_map, List.length_range], fun x hx => ?_⟩
    unfold sumRow at hx
    obtain ⟨y, _, rfl⟩ := List.mem_map.mp hx
    rw [worth_poly]
    exact ⟨Int.emod_nonneg _ (by omega), Int.emod_lt_of_pos _ (by omega)⟩
theorem prime_of {q : Int} (h : q ∈ ([2, 3, 5, 7, 11, 13] : List Int)) : PrimeI q := (primes_in (l := [2, 3, 5, 7, 11, 13]) (by decide +kernel) q h).1
theorem row0_of {m : Int} {u : Nat} {rows : List (List Int)} (h : BookOk m u rows) : ∃ r0, atI (rows.map rowL) 0 = some (rowL r0) ∧ r0.length = u := by
  have := List.length_pos_iff.mpr h.ne
  obtain ⟨r, er, hr2, hz⟩ := DM.atI_get (l := rows) (i := 0) (by omega) (by omega)
  exact ⟨r, by rw [atI_map, er]; rfl, (h.ok r hr2).1⟩
end

section
open PySem PySem.Spec L2 DM TL
structure DkB (m : Int) (u : Nat) (rows : List (List Int)) : Prop where
  ok : BookOk m u rows
  m1 : 1 ≤ m
  m2 : m ≤ 64
  u1 : 1 ≤ u
  u2 : u ≤ 64
  len : rows.length ≤ 600
end

section
open PySem PySem.Spec L2 DM TL
section
variable {m : Int} {u : Nat} {rows : List (List Int)} {S : Store} {Q : RV → Store → Prop} {X : QX}
end
end

section
open PySem PySem.Spec L2 DM TL
noncomputable def mb_saidR : MS := (sSeq (sSet 2 (eC .non))
    (sSeq (sSetS 3 (eC .non))
    (sSeq (sTry 4 2 (sSetS 3 (eMeth 8 "say" m_sayR (eVar 0) [(eVar 1)])))
    (sRet (eCut (eIf (bOf (eOp2 isF (eVar 2) (eC .non))) (eVar 3) (eLst [(eCall m_l_gkind [(eVar 2)])])))))))
noncomputable def m_saidR : MF := mFun 2 5 (mb_saidR)
end

section
open PySem PySem.Spec L2 DM TL
section
variable {S : Store} {Q : RV → Store → Prop} {X : QX} {p : Bool}
end
theorem planeR_len {q : Nat} : (planeR q).length = q + 1 := by
  unfold planeR
  rw [List.length_append, List.length_map, List.length_range]
  rfl
end

section
open PySem PySem.Spec L2 DM TL
local macro_rules | `(tactic| walk_at "s") => `(tactic| (repeat (refine ⟨by (first | exact log_int (by omega) (by omega) | (refine le_line ?_; (try simp only [str_len_app]); omega) | decide), ?_⟩)))
end

section
open PySem PySem.Spec L2 DM TL
structure WordOk (w : Str) : Prop where
  bl : 32 ∉ tl w
  ok : PyData.strOk w = true
  len : w.length ≤ 100
  nb : w ≠ Str.ofString "book"
  nm : tab_MADE.lookup w = none
structure AskR (x w : Str) (ns : List Nat) : Prop where
  e : x = rowW w ns
  ask : rowAB w ns = true
  n : ∀ n ∈ ns, n < 1000
  l : ns.length ≤ 1000
section
variable {m : Int} {u : Nat} {rows : List (List Int)} {S : Store} {p : Nat} {x w : Str} {ns : List Nat} {Q : RV → Store → Prop} {X : QX}
def sayO : Str ⊕ Nat → RV
  | .inl t => .d (.str t)
  | .inr c => .l true [.str (kindS c)]
end
end

section
open PySem PySem.Spec L2 DM
section
variable {m : Int} {u : Nat} {rows : List (List Int)} {S : Store}
end
end

section
open PySem PySem.Spec L2 DM TL
structure TwoOk (m : Int) (u : Nat) (rows : List (List Int)) (i j : Nat) (s : List Nat) : Prop where
  i : i < rows.length
  j : j < rows.length
  s : RsOk (u : Int) (s.map fun (n : Nat) => (n : Int))
abbrev natI (s : List Nat) : List Int := s.map fun (n : Nat) => (n : Int)
section
variable {m : Int} {u : Nat} {rows : List (List Int)} {S : Store} {Q : RV → Store → Prop} {X : QX} {p i j : Nat} {x : Str} {s : List Nat}
end
end

section
open PySem PySem.Spec L2 DM TL
abbrev Bk := Option (Int × Nat × List (List Int))
def obD : Bk → D
  | none => .non
  | some b => bookD b.1 b.2.2
def obOk : Bk → Prop
  | none => True
  | some b => DkB b.1 b.2.1 b.2.2
structure StayR (x : Str) (o : Bk → Str ⊕ Nat) : Prop where
  ok : PyData.strOk x = true
  len : x.length ≤ 1000000
  txt : ∀ ob, obOk ob → ∀ t, o ob = .inl t → PyData.strOk t = true
  run : ∀ (ob : Bk) (p : Nat) (S : Store) (Q : RV → Store → Prop) (X : QX), obOk ob → S[p]? = some (deskO (obD ob)) → (∀ S', Grow p S S' → S'[p]? = some (deskO (obD ob)) → Q (sayO (o ob)) S') → WR (okR (m_saidR [.d (.loc p), .d (.str x)] S)) Q X
theorem k5 : kindS 5 = Str.ofString "row" := rfl
end

end LM
namespace LK
open PySem PySem.Spec L2 DM LM
def topS (i : Nat) : Stmt := PySem.Challenge.pw_partbook_k31_best_books.main.body.getD i (.Pass ⟨0, 0, 0, 0⟩)
noncomputable def mb_l_all_rows : MS := (sSeq (sSet 2 (eLst [(eTup [])]))
    (sSeq (sFor (miRng1 (eVar 0)) (tgName 3) (sSeq (sSetS 4 (eLst []))
    (sSeq (sFrz 2 (sFor (miSeq (qVar 2)) (tgName 5) (sSeq (sSet 6 (eOpN minF [(eVar 1), (eOp2 addF (eOp2 addF (eC (.int 1)) (eOpN maxTF [(eOp2 addF (eTup [(eOp1 negF (eC (.int 1)))]) (eVar 5))])) (eC (.int 1)))]))
    (sExt 4 (eComp (miRng1 (eVar 6)) (tgName 7) bYes (eOp2 addF (eVar 5) (eTup [(eVar 7)])) [7])))))
    (sSet 2 (eVar 4)))))
    (sRetV 2)))
noncomputable def m_l_all_rows : MF := mFun 2 8 (mb_l_all_rows)
noncomputable def mb_l_counts : MS := (sRet (eComp (miRng1 (eVar 1)) (tgName 2) bYes (eCntT (eVar 0) (eVar 2)) [2]))
noncomputable def m_l_counts : MF := mFun 2 3 (mb_l_counts)
noncomputable def mb_l_made : MS := (sSeq (sSet 1 (eCall m_l_pull [(eVar 0), (eC (.int 7))]))
    (sSeq (sSet 2 (eCall m_l_pull [(eVar 0), (eC (.int 4))]))
    (sSeq (sCut (sIf (bOf (eOp2 eqF (eVar 1) (eC (.int 0)))) (sAsg (tgTup 2 (tgCons (tgName 3) (tgCons (tgName 4) tgNil))) (eCall m_by_planes [(eOp2 ixF (eLst [(eC (.int 2)), (eC (.int 3)), (eC (.int 5)), (eC (.int 7))]) (eCall m_l_pull [(eVar 0), (eC (.int 4))]))])) (sIf (bOf (eOp2 eqF (eVar 1) (eC (.int 1)))) (sSeq (sAsg (tgTup 2 (tgCons (tgName 5) (tgCons (tgName 3) tgNil))) (eOp2 ixF (eLst [(eTup [(eC (.int 2)), (eC (.int 1))]), (eTup [(eC (.int 3)), (eC (.int 2))]), (eTup [(eC (.int 4)), (eC (.int 2))]), (eTup [(eC (.int 4)), (eC (.int 3))]), (eTup [(eC (.int 5)), (eC (.int 2))]), (eTup [(eC (.int 5)), (eC (.int 3))]), (eTup [(eC (.int 6)), (eC (.int 2))])]) (eCall m_l_pull [(eVar 0), (eC (.int 7))])))
    (sSeq (sSet 6 (eOp2 fdivF (eOp2 subF (eOp2 addF (eVar 5) (eVar 3)) (eC (.int 1))) (eVar 3)))
    (sSeq (sSetS 4 (eComp (miSeq (qC (eCall m_l_all_rows [(eVar 5), (eVar 3)]))) (tgName 10) (bOf (eOp2 leF (eOpN maxF [(eCall m_l_counts [(eVar 10), (eVar 3)])]) (eVar 6))) (eVar 10) [10]))
    (sSetS 4 (eOpN tupF [(eComp (miSeq (qC (eVar 4))) (tgName 10) (bOf (eOp2 geF (eOpN minF [(eCall m_l_counts [(eVar 10), (eVar 3)])]) (eOp2 fdivF (eVar 5) (eVar 3)))) (eVar 10) [10])]))))) (sIf (bOf (eOp2 eqF (eVar 1) (eC (.int 2)))) (sSeq (sSetS 5 (eOp2 addF (eC (.int 2)) (eCall m_l_pull [(eVar 0), (eC (.int 4))])))
    (sAsg (tgTup 2 (tgCons (tgName 3) (tgCons (tgName 4) tgNil))) (eTup [(eVar 5), (eTup [(eOpN tupRgF [(eVar 5)])])]))) (sIf (bOf (eOp2 eqF (eVar 1) (eC (.int 3)))) (sSeq (sSet 7 (eLst [(eCall m_by_sums [(eC (.int 3)), (eC (.int 2)), (eC (.int 3))]), (eCall m_by_sums [(eC (.int 5)), (eC (.int 2)), (eC (.int 5))]), (eCall m_by_digits [(eC (.int 4)), (eC (.int 2))]), (eCall m_by_digits [(eC (.int 9)), (eC (.int 3))]), (eCall m_by_points [(eC (.int 5)), (eC (.int 2)), (eC (.int 4)), (eC (.int 20))])]))
    (sAsg (tgTup 2 (tgCons (tgName 3) (tgCons (tgName 4) tgNil))) (eOp2 ixF (eVar 7) (eCall m_l_pull [(eVar 0), (eC (.int 5))])))) (sAsg (tgTup 2 (tgCons (tgName 3) (tgCons (tgName 4) tgNil))) (eCall m_l_book [(eVar 0), (eC (.int 4)), (eC (.int 6)), (eC (.int 8))])))))))
    (sSeq (sSet 8 (eCall m_l_pull [(eVar 0), (eOpN lenF [(eVar 4)])]))
    (sSeq (sSet 9 (eCall m_l_pull [(eVar 0), (eOpN lenF [(eOp2 ixF (eVar 4) (eC (.int 0)))])]))
    (sSeq (sCut (sIf (bOf (eOp2 eqF (eVar 2) (eC (.int 1)))) (sSetS 4 (eOp2 addF (eVar 4) (eTup [(eOp2 ixF (eVar 4) (eVar 8))]))) sNop))
    (sSeq (sCut (sIf (bOf (eOp2 eqF (eVar 2) (eC (.int 2)))) (sSetS 4 (eOp2 addF (eVar 4) (eVar 4))) sNop))
    (sSeq (sCut (sIf (bOf (eOp2 eqF (eVar 2) (eC (.int 3)))) (sSeq (sSetS 10 (eOp2 ixF (eVar 4) (eVar 8)))
    (sSeq (sSetS 11 (eOp2 modF (eOp2 addF (eOp2 ixF (eVar 10) (eVar 9)) (eC (.int 1))) (eVar 3)))
    (sSeq (sSetS 10 (eOp2 addF (eOp2 addF (eSl none (some (eVar 9)) (eVar 10)) (eTup [(eVar 11)])) (eSl (some (eOp2 addF (eVar 9) (eC (.int 1)))) none (eVar 10))))
    (sSetS 4 (eOp2 addF (eOp2 addF (eSl none (some (eVar 8)) (eVar 4)) (eTup [(eVar 10)])) (eSl (some (eOp2 addF (eVar 8) (eC (.int 1)))) none (eVar 4))))))) sNop))
    (sRet (eTup [(eVar 3), (eVar 4)]))))))))))
noncomputable def m_l_made : MF := mFun 1 12 (mb_l_made)
noncomputable def mb_law (tbl : Nat → MF) : MS := (sSeq (sSetS 1 (eCall m_l_bag [(eVar 0)]))
    (sSeq (sFor (miRng1 (eC (.int 3))) (tgName 2) (sSeq (sSetS 3 (eCall m_l_made [(eVar 1)]))
    (sSeq (sAsg (tgTup 2 (tgCons (tgName 4) (tgCons (tgName 5) tgNil))) (eVar 3))
    (sSeq (sSet 6 (eOpN lenF [(eOp2 ixF (eVar 5) (eC (.int 0)))]))
    (sSeq (sIf (bOf (eOp2 eqF (eVar 6) (eC (.int 1)))) (sSeq (sIf (bOf (eOp2 neF (eCall (m_l_refused tbl) [(eC (.fn 0)), (eTup [(eVar 3)])]) (eC (.str "few")))) (sRet (eC (.bl false))) sNop)
    sCnt) sNop)
    (sSeq (sAsg (tgTup 2 (tgCons (tgName 7) (tgCons (tgName 8) tgNil))) (eCall m_least_share [(eVar 6), (eVar 4)]))
    (sSeq (sSet 9 (eC (.bl true)))
    (sSeq (sFor (miSeq (qE (eCall m_l_all_pairs [(eVar 6)]))) (tgTup 2 (tgCons (tgName 10) (tgCons (tgName 11) tgNil))) (sSeq (sSet 12 (eOpN lenF [(eComp (miSeq (qC (eVar 5))) (tgName 15) (bOf (eOp2 eqF (eOp2 ixF (eVar 15) (eVar 10)) (eOp2 ixF (eVar 15) (eVar 11)))) (eC (.int 1)) [15])]))
    (sIf (bOf (eOp2 neF (eOp2 mulF (eVar 12) (eVar 8)) (eOp2 mulF (eVar 7) (eOpN lenF [(eVar 5)])))) (sSet 9 (eC (.bl false))) sNop)))
    (sSeq (sSet 13 (eCall m_is_best [(eVar 3)]))
    (sSeq (sIf (bOr (bNot (bOf (eOpN isiF [(eVar 13), (eC (.ty "bool"))]))) (bOr (bOf (eOp2 neF (eVar 13) (eVar 9))) (bAnd (bOf (eVar 9)) (bOf (eOp2 gtF (eOp2 modF (eOpN lenF [(eVar 5)]) (eVar 8)) (eC (.int 0))))))) (sRet (eC (.bl false))) sNop)
    (sSeq (sSet 14 (eOp2 ixF (eCall m_worst_pairs [(eVar 3)]) (eC (.int 0))))
    (sIf (bOr (bOf (eOp2 ltF (eOp2 mulF (eOp2 ixF (eVar 14) (eC (.int 0))) (eVar 8)) (eOp2 mulF (eVar 7) (eOp2 ixF (eVar 14) (eC (.int 1)))))) (bOf (eOp2 neF (eOp2 eqF (eVar 14) (eTup [(eVar 7), (eVar 8)])) (eVar 9)))) (sRet (eC (.bl false))) sNop))))))))))))
    (sRet (eOp2 eqF (eCall (m_l_refused tbl) [(eC (.fn 0)), (eTup [(eTup [(eC (.int 3)), (eTup [(eTup [(eC (.int 0))]), (eTup [(eC (.int 1))])])])])]) (eC (.str "few"))))))
noncomputable def m_law (tbl : Nat → MF) : MF := mFun 1 16 (mb_law tbl)
noncomputable def tblL : Nat → MF
  | 0 => m_is_best
  | _ => fun _ _ => .bad
abbrev gT (K : PySem.W.Frag) (cl fns : List Addr) : GT := ⟨K, cl, fns, fun _ _ _ _ => False⟩
structure Txt (K : PySem.W.Frag) (mg : Str → Option Value) (cl fns : List Addr) : Prop where
  b_ValueError : mg "ValueError" = none
  b_all : mg "all" = none
  b_bool : mg "bool" = none
  b_int : mg "int" = none
  b_isinstance : mg "isinstance" = none
  b_len : mg "len" = none
  b_list : mg "list" = none
  b_max : mg "max" = none
  b_min : mg "min" = none
  b_range : mg "range" = none
  b_reversed : mg "reversed" = none
  b_tuple : mg "tuple" = none
  c_MOST_BOXES : ∃ t, mg "MOST_BOXES" = some (.int 64 t)
  c_MOST_ROWS : ∃ t, mg "MOST_ROWS" = some (.int 600 t)
  f_is_best : ∃ a, mg "is_best" = some (.ref a) ∧ fns[0]? = some a
  m_NoPrime : ∃ a, mg "NoPrime" = some (.ref a) ∧ cl[3]? = some a
  m_NoRow : ∃ a, mg "NoRow" = some (.ref a) ∧ cl[5]? = some a
  m_NoText : ∃ a, mg "NoText" = some (.ref a) ∧ cl[6]? = some a
  m_NoThing : ∃ a, mg "NoThing" = some (.ref a) ∧ cl[4]? = some a
  m_TooFew : ∃ a, mg "TooFew" = some (.ref a) ∧ cl[1]? = some a
  m_TooMany : ∃ a, mg "TooMany" = some (.ref a) ∧ cl[2]? = some a
  r_NoPrime : RaiseF K mg cl 3 "NoPrime"
  r_NoThing : RaiseF K mg cl 4 "NoThing"
  r_TooFew : RaiseF K mg cl 1 "TooFew"
  r_TooMany : RaiseF K mg cl 2 "TooMany"
  x_PartError : CatchF K mg cl "PartError"
  kin : KinF K cl
section
variable {P : Program} {w : World} {K : PySem.W.Frag} {mg : Str → Option Value} {base : Heap} {cl fns : List Addr}
abbrev s_common : Stmt := topS 9
theorem sc_common : FnScope ["one", "other"] ["one", "other"] (defScope s_common) := ⟨rfl, rfl, rfl, by decide +kernel, rfl, by decide +kernel, by decide +kernel⟩
theorem ok_common {f : Addr} {fd : FuncData} (T : Txt K mg cl fns) (F : Fun K "common" "common" s_common f fd) (hm : mg "common" = some (.ref f)) (hb : Binds K fd ["one", "other"] [])  : Cal (gT K cl fns) P w K mg base 1 "common" 2 (m_common) :=
  cal_mk F hm hb (fn_ok F sc_common fun cdv A outer s H E hr tk hp =>
    have nd := sc_common.nd
    (sp_cons (sp_while (n := 10000000000000000000000000000000000000000) hp (sb_gt (se_var (i := 1) rfl rfl (.inl rfl)) (se_int rfl)) (sp_one (sp_par (i := 0) (j := 1) rfl nd rfl rfl (by decide) rfl rfl (si_cons (se_var (i := 1) rfl rfl (.inl rfl)) (si_cons (se_mod (se_var (i := 0) rfl rfl (.inl rfl)) (se_var (i := 1) rfl rfl (.inl rfl))) (si_nil rfl))) (by rfl))))
    (sp_one (sp_retV (i := 0) rfl rfl (.inl rfl)))))
abbrev s_part_of : Stmt := topS 10
theorem sc_part_of : FnScope ["top", "bottom", "by"] ["top", "bottom"] (defScope s_part_of) := ⟨rfl, rfl, rfl, by decide +kernel, rfl, by decide +kernel, by decide +kernel⟩
theorem ok_part_of {f : Addr} {fd : FuncData} (T : Txt K mg cl fns) (F : Fun K "part_of" "part_of" s_part_of f fd) (hm : mg "part_of" = some (.ref f)) (hb : Binds K fd ["top", "bottom"] []) (c_common : Cal (gT K cl fns) P w K mg base 1 "common" 2 m_common) : Cal (gT K cl fns) P w K mg base 2 "part_of" 2 (m_part_of) :=
  cal_mk F hm hb (fn_ok F sc_part_of fun cdv A outer s H E hr tk hp =>
    have nd := sc_part_of.nd
    (sp_cons (sp_set (i := 2) (se_callC tk c_common (hr.mono (by omega)) (by rfl) (sa_cons (se_var (i := 0) rfl rfl (.inl rfl)) (sa_cons (se_var (i := 1) rfl rfl (.inl rfl)) (sa_nil rfl)))) nd rfl (.inl rfl))
    (sp_one (sp_ret (se_tup (si_cons (se_fdiv (se_var (i := 0) rfl rfl (.inl rfl)) (se_var (i := 2) rfl rfl (.inl rfl))) (si_cons (se_fdiv (se_var (i := 1) rfl rfl (.inl rfl)) (se_var (i := 2) rfl rfl (.inl rfl))) (si_nil rfl))))))))
abbrev s_is_whole : Stmt := topS 11
theorem sc_is_whole : FnScope ["thing"] ["thing"] (defScope s_is_whole) := ⟨rfl, rfl, rfl, by decide +kernel, rfl, by decide +kernel, by decide +kernel⟩
theorem ok_is_whole {f : Addr} {fd : FuncData} (T : Txt K mg cl fns) (F : Fun K "is_whole" "is_whole" s_is_whole f fd) (hm : mg "is_whole" = some (.ref f)) (hb : Binds K fd ["thing"] [])  : Cal (gT K cl fns) P w K mg base 1 "is_whole" 1 (m_is_whole) :=
  cal_mk F hm hb (fn_ok F sc_is_whole fun cdv A outer s H E hr tk hp =>
    have nd := sc_is_whole.nd
    (sp_one (sp_ret (se_and (se_isi (by rfl) T.b_isinstance (sa_cons (se_var (i := 0) rfl rfl (.inl rfl)) (sa_cons (se_ty (n := "int") rfl (by rfl) T.b_int bt_int) (sa_nil rfl)))) (se_one (se_not (se_isi (by rfl) T.b_isinstance (sa_cons (se_var (i := 0) rfl rfl (.inl rfl)) (sa_cons (se_ty (n := "bool") rfl (by rfl) T.b_bool bt_bool) (sa_nil rfl))))))))))
abbrev s_is_prime : Stmt := topS 12
theorem sc_is_prime : FnScope ["number", "by"] ["number"] (defScope s_is_prime) := ⟨rfl, rfl, rfl, by decide +kernel, rfl, by decide +kernel, by decide +kernel⟩
theorem ok_is_prime {f : Addr} {fd : FuncData} (T : Txt K mg cl fns) (F : Fun K "is_prime" "is_prime" s_is_prime f fd) (hm : mg "is_prime" = some (.ref f)) (hb : Binds K fd ["number"] [])  : Cal (gT K cl fns) P w K mg base 1 "is_prime" 1 (m_is_prime) :=
  cal_mk F hm hb (fn_ok F sc_is_prime fun cdv A outer s H E hr tk hp =>
    have nd := sc_is_prime.nd
    (sp_cons (sp_if (sb_lt (se_var (i := 0) rfl rfl (.inl rfl)) (se_int rfl)) (sp_one (sp_ret (se_bl rfl))) (sp_nil rfl))
    (sp_cons (sp_set (i := 1) (se_int rfl) nd rfl (.inl rfl))
    (sp_cons (sp_while (n := 10000000000000000000000000000000000000000) hp (sb_le (se_mul (se_var (i := 1) rfl rfl (.inl rfl)) (se_var (i := 1) rfl rfl (.inl rfl))) (se_var (i := 0) rfl rfl (.inl rfl))) (sp_cons (sp_if (sb_eq hr.units (se_mod (se_var (i := 0) rfl rfl (.inl rfl)) (se_var (i := 1) rfl rfl (.inl rfl))) (se_int rfl)) (sp_one (sp_ret (se_bl rfl))) (sp_nil rfl))
    (sp_one (sp_set (i := 1) (se_add (se_var (i := 1) rfl rfl (.inl rfl)) (se_int rfl)) nd rfl (.inl rfl)))))
    (sp_one (sp_ret (se_bl rfl)))))))
abbrev s_choose : Stmt := topS 13
theorem sc_choose : FnScope ["many", "some", "found", "k"] ["many", "some"] (defScope s_choose) := ⟨rfl, rfl, rfl, by decide +kernel, rfl, by decide +kernel, by decide +kernel⟩
theorem ok_choose {f : Addr} {fd : FuncData} (T : Txt K mg cl fns) (F : Fun K "choose" "choose" s_choose f fd) (hm : mg "choose" = some (.ref f)) (hb : Binds K fd ["many", "some"] [])  : Cal (gT K cl fns) P w K mg base 1 "choose" 2 (m_choose) :=
  cal_mk F hm hb (fn_ok F sc_choose fun cdv A outer s H E hr tk hp =>
    have nd := sc_choose.nd
    (sp_cons (sp_set (i := 2) (se_int rfl) nd rfl (.inl rfl))
    (sp_cons (sp_for hp rfl (si_rng1 (sa_cons (se_var (i := 1) rfl rfl (.inl rfl)) (sa_nil rfl)) (by rfl) T.b_range) (sg_of (pg_name (i := 3) nd rfl (.inl rfl)) og_name) (sp_one (sp_set (i := 2) (se_fdiv (se_mul (se_var (i := 2) rfl rfl (.inl rfl)) (se_sub (se_var (i := 0) rfl rfl (.inl rfl)) (se_var (i := 3) rfl rfl (.inl rfl)))) (se_add (se_var (i := 3) rfl rfl (.inl rfl)) (se_int rfl))) nd rfl (.inl rfl))))
    (sp_one (sp_retV (i := 2) rfl rfl (.inl rfl))))))
abbrev s_things_of : Stmt := topS 17
theorem sc_things_of : FnScope ["book"] ["book"] (defScope s_things_of) := ⟨rfl, rfl, rfl, by decide +kernel, rfl, by decide +kernel, by decide +kernel⟩
theorem ok_things_of {f : Addr} {fd : FuncData} (T : Txt K mg cl fns) (F : Fun K "things_of" "things_of" s_things_of f fd) (hm : mg "things_of" = some (.ref f)) (hb : Binds K fd ["book"] [])  : Cal (gT K cl fns) P w K mg base 1 "things_of" 1 (m_things_of) :=
  cal_mk F hm hb (fn_ok F sc_things_of fun cdv A outer s H E hr tk hp =>
    have nd := sc_things_of.nd
    (sp_one (sp_ret (se_len (by rfl) T.b_len (sa_cons (se_sub_ (se_sub_ (se_var (i := 0) rfl rfl (.inl rfl)) (se_int rfl)) (se_int rfl)) (sa_nil rfl))))))
abbrev s_need_things : Stmt := topS 18
theorem sc_need_things : FnScope ["book", "some", "x"] ["book", "some"] (defScope s_need_things) := ⟨rfl, rfl, rfl, by decide +kernel, rfl, by decide +kernel, by decide +kernel⟩
theorem ok_need_things {f : Addr} {fd : FuncData} (T : Txt K mg cl fns) (F : Fun K "need_things" "need_things" s_need_things f fd) (hm : mg "need_things" = some (.ref f)) (hb : Binds K fd ["book", "some"] []) (c_is_whole : Cal (gT K cl fns) P w K mg base 1 "is_whole" 1 m_is_whole) (c_things_of : Cal (gT K cl fns) P w K mg base 1 "things_of" 1 m_things_of) : Cal (gT K cl fns) P w K mg base 2 "need_things" 2 (m_need_things) :=
  cal_mk F hm hb (fn_ok F sc_need_things fun cdv A outer s H E hr tk hp =>
    have nd := sc_need_things.nd
    (sp_one (sp_frz 1 (sp_for hp rfl (si_seq (sq_var (i := 1) rfl rfl (.inl rfl))) (sg_of (pg_name (i := 2) nd rfl (.inl rfl)) og_name) (sp_one (sp_if (sb_w (sbw_or (sb_not (sb_val (se_callC tk c_is_whole (hr.mono (by omega)) (by rfl) (sa_cons (se_var (i := 2) rfl rfl (.inl rfl)) (sa_nil rfl))))) (sbw_or1 (sb_not (sb_chain co_le co_lt (se_int rfl) (se_var (i := 2) rfl rfl (.inl rfl)) (se_callC tk c_things_of (hr.mono (by omega)) (by rfl) (sa_cons (se_var (i := 0) rfl rfl (.inl rfl)) (sa_nil rfl)))))))) (sp_one (sp_raise rfl tk rfl T.r_NoThing (by rfl))) (sp_nil rfl)))))))
abbrev s_need_pairs : Stmt := topS 19
theorem sc_need_pairs : FnScope ["book"] ["book"] (defScope s_need_pairs) := ⟨rfl, rfl, rfl, by decide +kernel, rfl, by decide +kernel, by decide +kernel⟩
theorem ok_need_pairs {f : Addr} {fd : FuncData} (T : Txt K mg cl fns) (F : Fun K "need_pairs" "need_pairs" s_need_pairs f fd) (hm : mg "need_pairs" = some (.ref f)) (hb : Binds K fd ["book"] []) (c_things_of : Cal (gT K cl fns) P w K mg base 1 "things_of" 1 m_things_of) : Cal (gT K cl fns) P w K mg base 2 "need_pairs" 1 (m_need_pairs) :=
  cal_mk F hm hb (fn_ok F sc_need_pairs fun cdv A outer s H E hr tk hp =>
    have nd := sc_need_pairs.nd
    (sp_one (sp_if (sb_lt (se_callC tk c_things_of (hr.mono (by omega)) (by rfl) (sa_cons (se_var (i := 0) rfl rfl (.inl rfl)) (sa_nil rfl))) (se_int rfl)) (sp_one (sp_raise rfl tk rfl T.r_TooFew (by rfl))) (sp_nil rfl))))
abbrev s_meets : Stmt := topS 20
theorem sc_meets : FnScope ["book", "x", "y", "row"] ["book", "x", "y"] (defScope s_meets) := ⟨rfl, rfl, rfl, by decide +kernel, rfl, by decide +kernel, by decide +kernel⟩
theorem ok_meets {f : Addr} {fd : FuncData} (T : Txt K mg cl fns) (F : Fun K "meets" "meets" s_meets f fd) (hm : mg "meets" = some (.ref f)) (hb : Binds K fd ["book", "x", "y"] []) (c_need_things : Cal (gT K cl fns) P w K mg base 2 "need_things" 2 m_need_things) : Cal (gT K cl fns) P w K mg base 3 "meets" 3 (m_meets) :=
  cal_mk F hm hb (fn_ok F sc_meets fun cdv A outer s H E hr tk hp =>
    have nd := sc_meets.nd
    (sp_cons (sp_drop (se_callC tk c_need_things (hr.mono (by omega)) (by rfl) (sa_cons (se_var (i := 0) rfl rfl (.inl rfl)) (sa_cons (se_tup (si_cons (se_var (i := 1) rfl rfl (.inr (.inl rfl))) (si_cons (se_var (i := 2) rfl rfl (.inr (.inl rfl))) (si_nil rfl)))) (sa_nil rfl)))))
    (sp_cons (sp_if (sb_eq hr.units (se_var (i := 1) rfl rfl (.inr (.inl rfl))) (se_var (i := 2) rfl rfl (.inr (.inl rfl)))) (sp_one (sp_raise rfl tk rfl T.r_NoThing (by rfl))) (sp_nil rfl))
    (sp_one (sp_ret (se_len (by rfl) T.b_len (sa_cons (se_lc (own := [("row", 3)]) (ix := [3]) (g := (gName 3)) rfl nd (si_seq (sq_c (se_sub_ (se_var (i := 0) rfl rfl (.inl rfl)) (se_int rfl)))) (blkOk_by (own := [("row", 3)]) (by kernel_rfl)) (by decide) (fun _ _ _ _ _ => (pg_name (i := 3) nd rfl (.inl rfl))) og_name (fun _ _ _ _ _ => (sts_one (sb_eq hr.units (se_sub_ (se_var (i := 3) rfl rfl (.inl rfl)) (se_var (i := 1) rfl rfl (.inr (.inl rfl)))) (se_sub_ (se_var (i := 3) rfl rfl (.inl rfl)) (se_var (i := 2) rfl rfl (.inr (.inl rfl))))))) (fun _ _ _ _ _ => (se_var (i := 3) rfl rfl (.inl rfl)))) (sa_nil rfl))))))))
abbrev s_pairs_of : Stmt := topS 21
theorem sc_pairs_of : FnScope ["many", "found", "x", "y"] ["many"] (defScope s_pairs_of) := ⟨rfl, rfl, rfl, by decide +kernel, rfl, by decide +kernel, by decide +kernel⟩
theorem ok_pairs_of {f : Addr} {fd : FuncData} (T : Txt K mg cl fns) (F : Fun K "pairs_of" "pairs_of" s_pairs_of f fd) (hm : mg "pairs_of" = some (.ref f)) (hb : Binds K fd ["many"] [])  : Cal (gT K cl fns) P w K mg base 1 "pairs_of" 1 (m_pairs_of) :=
  cal_mk F hm hb (fn_ok F sc_pairs_of fun cdv A outer s H E hr tk hp =>
    have nd := sc_pairs_of.nd
    (sp_cons (sp_set (i := 1) (se_lst (si_nil rfl)) nd rfl (.inl rfl))
    (sp_cons (sp_for hp rfl (si_rng1 (sa_cons (se_var (i := 0) rfl rfl (.inl rfl)) (sa_nil rfl)) (by rfl) T.b_range) (sg_of (pg_name (i := 2) nd rfl (.inr rfl)) og_name) (sp_one (sp_ext (k := 1) rfl rfl (.inl rfl) (se_lc (own := [("y", 3)]) (ix := [3]) (g := (gName 3)) rfl nd (sc_rng2 (sa_cons (se_add (se_var (i := 2) rfl rfl (.inr (.inl rfl))) (se_int rfl)) (sa_cons (se_var (i := 0) rfl rfl (.inl rfl)) (sa_nil rfl))) (by rfl) T.b_range) (blkOk_by (own := [("y", 3)]) (by kernel_rfl)) (by decide) (fun _ _ _ _ _ => (pg_name (i := 3) nd rfl (.inl rfl))) og_name (fun _ _ _ _ _ => (sts_nil rfl)) (fun _ _ _ _ _ => (se_tup (si_cons (se_var (i := 2) rfl rfl (.inr (.inl rfl))) (si_cons (se_var (i := 3) rfl rfl (.inl rfl)) (si_nil rfl)))))))))
    (sp_one (sp_retV (i := 1) rfl rfl (.inl rfl))))))
abbrev s_worst_pairs : Stmt := topS 22
theorem sc_worst_pairs : FnScope ["book", "counted", "most", "pair", "number"] ["book"] (defScope s_worst_pairs) := ⟨rfl, rfl, rfl, by decide +kernel, rfl, by decide +kernel, by decide +kernel⟩
theorem ok_worst_pairs {f : Addr} {fd : FuncData} (T : Txt K mg cl fns) (F : Fun K "worst_pairs" "worst_pairs" s_worst_pairs f fd) (hm : mg "worst_pairs" = some (.ref f)) (hb : Binds K fd ["book"] []) (c_need_pairs : Cal (gT K cl fns) P w K mg base 2 "need_pairs" 1 m_need_pairs) (c_things_of : Cal (gT K cl fns) P w K mg base 1 "things_of" 1 m_things_of) (c_pairs_of : Cal (gT K cl fns) P w K mg base 1 "pairs_of" 1 m_pairs_of) (c_meets : Cal (gT K cl fns) P w K mg base 3 "meets" 3 m_meets) (c_part_of : Cal (gT K cl fns) P w K mg base 2 "part_of" 2 m_part_of) : Cal (gT K cl fns) P w K mg base 4 "worst_pairs" 1 (m_worst_pairs) :=
  cal_mk F hm hb (fn_ok F sc_worst_pairs fun cdv A outer s H E hr tk hp =>
    have nd := sc_worst_pairs.nd
    (sp_cons (sp_drop (se_callC tk c_need_pairs (hr.mono (by omega)) (by rfl) (sa_cons (se_var (i := 0) rfl rfl (.inr (.inl rfl))) (sa_nil rfl))))
    (sp_cons (sp_setLc (i := 1) (own := [("pair", 3)]) (ix := [3]) (g := (gName 3)) rfl nd rfl rfl (sw_true rfl rfl rfl (by decide +kernel)) (si_seq (sq_c (se_callC tk c_pairs_of (hr.mono (by omega)) (by rfl) (sa_cons (se_callC tk c_things_of (hr.mono (by omega)) (by rfl) (sa_cons (se_var (i := 0) rfl rfl (.inr (.inl rfl))) (sa_nil rfl))) (sa_nil rfl))))) (blkOk_by (own := [("pair", 3)]) (by kernel_rfl)) (by decide) (fun _ _ _ _ _ => (pg_name (i := 3) nd rfl (.inl rfl))) og_name (fun _ _ _ _ _ => (sts_nil rfl)) (fun _ _ _ _ _ => (se_tup (si_cons (se_callC takes0 c_meets (hr.mono (by omega)) (by rfl) (sa_cons (se_var (i := 0) rfl rfl (.inr (.inl rfl))) (sa_cons (se_sub_ (se_var (i := 3) rfl rfl (.inl rfl)) (se_int rfl)) (sa_cons (se_sub_ (se_var (i := 3) rfl rfl (.inl rfl)) (se_int rfl)) (sa_nil rfl))))) (si_cons (se_var (i := 3) rfl rfl (.inl rfl)) (si_nil rfl))))))
    (sp_cons (sp_set (i := 2) (se_max rfl (by rfl) T.b_max (sa_cons (se_lc (own := [("number", 4), ("pair", 3)]) (ix := [4, 3]) (g := (gTup K 2 (gCons (gName 4) (gCons (gName 3) gNil)))) rfl nd (si_seq (sq_c (se_var (i := 1) rfl rfl (.inl rfl)))) (blkOk_by (own := [("number", 4), ("pair", 3)]) (by kernel_rfl)) (by decide) (fun _ _ _ _ _ => (pg_tup rfl (pgs_cons (pg_name (i := 4) nd rfl (.inl rfl)) (pgs_cons (pg_name (i := 3) nd rfl (.inl rfl)) pgs_nil)))) (og_tup rfl (ogs_cons og_name (ogs_cons og_name ogs_nil))) (fun _ _ _ _ _ => (sts_nil rfl)) (fun _ _ _ _ _ => (se_var (i := 4) rfl rfl (.inl rfl)))) (sa_nil rfl))) nd rfl (.inr rfl))
    (sp_one (sp_ret (se_tup (si_cons (se_callC tk c_part_of (hr.mono (by omega)) (by rfl) (sa_cons (se_var (i := 2) rfl rfl (.inr (.inl rfl))) (sa_cons (se_len (by rfl) T.b_len (sa_cons (se_sub_ (se_var (i := 0) rfl rfl (.inr (.inl rfl))) (se_int rfl)) (sa_nil rfl))) (sa_nil rfl)))) (si_cons (se_lc (own := [("number", 4), ("pair", 3)]) (ix := [4, 3]) (g := (gTup K 2 (gCons (gName 4) (gCons (gName 3) gNil)))) rfl nd (si_seq (sq_c (se_var (i := 1) rfl rfl (.inl rfl)))) (blkOk_by (own := [("number", 4), ("pair", 3)]) (by kernel_rfl)) (by decide) (fun _ _ _ _ _ => (pg_tup rfl (pgs_cons (pg_name (i := 4) nd rfl (.inl rfl)) (pgs_cons (pg_name (i := 3) nd rfl (.inl rfl)) pgs_nil)))) (og_tup rfl (ogs_cons og_name (ogs_cons og_name ogs_nil))) (fun _ _ _ _ _ => (sts_one (sb_eq hr.units (se_var (i := 4) rfl rfl (.inl rfl)) (se_var (i := 2) rfl rfl (.inr (.inl rfl)))))) (fun _ _ _ _ _ => (se_var (i := 3) rfl rfl (.inl rfl)))) (si_nil rfl))))))))))
abbrev s_need_prime : Stmt := topS 24
theorem sc_need_prime : FnScope ["p"] ["p"] (defScope s_need_prime) := ⟨rfl, rfl, rfl, by decide +kernel, rfl, by decide +kernel, by decide +kernel⟩
theorem ok_need_prime {f : Addr} {fd : FuncData} (T : Txt K mg cl fns) (F : Fun K "need_prime" "need_prime" s_need_prime f fd) (hm : mg "need_prime" = some (.ref f)) (hb : Binds K fd ["p"] []) (c_is_prime : Cal (gT K cl fns) P w K mg base 1 "is_prime" 1 m_is_prime) : Cal (gT K cl fns) P w K mg base 2 "need_prime" 1 (m_need_prime) :=
  cal_mk F hm hb (fn_ok F sc_need_prime fun cdv A outer s H E hr tk hp =>
    have nd := sc_need_prime.nd
    (sp_one (sp_if (sb_not (sb_val (se_callC tk c_is_prime (hr.mono (by omega)) (by rfl) (sa_cons (se_var (i := 0) rfl rfl (.inl rfl)) (sa_nil rfl))))) (sp_one (sp_raise rfl tk rfl T.r_NoPrime (by rfl))) (sp_nil rfl))))
abbrev s_need_room : Stmt := topS 25
theorem sc_need_room : FnScope ["many"] ["many"] (defScope s_need_room) := ⟨rfl, rfl, rfl, by decide +kernel, rfl, by decide +kernel, by decide +kernel⟩
theorem ok_need_room {f : Addr} {fd : FuncData} (T : Txt K mg cl fns) (F : Fun K "need_room" "need_room" s_need_room f fd) (hm : mg "need_room" = some (.ref f)) (hb : Binds K fd ["many"] [])  : Cal (gT K cl fns) P w K mg base 1 "need_room" 1 (m_need_room) :=
  cal_mk F hm hb (fn_ok F sc_need_room fun cdv A outer s H E hr tk hp =>
    have nd := sc_need_room.nd
    (sp_one (sp_if (sb_gt (se_var (i := 0) rfl rfl (.inl rfl)) (se_gintE rfl (by rfl) T.c_MOST_ROWS)) (sp_one (sp_raise rfl tk rfl T.r_TooMany (by rfl))) (sp_nil rfl))))
abbrev s_worth_at : Stmt := topS 26
theorem sc_worth_at : FnScope ["sums", "x", "p", "found", "factor"] ["sums", "x", "p"] (defScope s_worth_at) := ⟨rfl, rfl, rfl, by decide +kernel, rfl, by decide +kernel, by decide +kernel⟩
theorem ok_worth_at {f : Addr} {fd : FuncData} (T : Txt K mg cl fns) (F : Fun K "worth_at" "worth_at" s_worth_at f fd) (hm : mg "worth_at" = some (.ref f)) (hb : Binds K fd ["sums", "x", "p"] [])  : Cal (gT K cl fns) P w K mg base 1 "worth_at" 3 (m_worth_at) :=
  cal_mk F hm hb (fn_ok F sc_worth_at fun cdv A outer s H E hr tk hp =>
    have nd := sc_worth_at.nd
    (sp_cons (sp_set (i := 3) (se_int rfl) nd rfl (.inl rfl))
    (sp_cons (sp_frz 0 (sp_for hp rfl (si_rev (sq_var (i := 0) rfl rfl (.inl rfl)) (by rfl) T.b_reversed) (sg_of (pg_name (i := 4) nd rfl (.inl rfl)) og_name) (sp_one (sp_set (i := 3) (se_mod (se_add (se_mul (se_var (i := 3) rfl rfl (.inl rfl)) (se_var (i := 1) rfl rfl (.inl rfl))) (se_var (i := 4) rfl rfl (.inl rfl))) (se_var (i := 2) rfl rfl (.inl rfl))) nd rfl (.inl rfl)))))
    (sp_one (sp_retV (i := 3) rfl rfl (.inl rfl))))))
abbrev s_rows_of_numbers : Stmt := topS 27
theorem sc_rows_of_numbers : FnScope ["many", "p", "found", "k", "longer", "some", "number"] ["many", "p"] (defScope s_rows_of_numbers) := ⟨rfl, rfl, rfl, by decide +kernel, rfl, by decide +kernel, by decide +kernel⟩
theorem ok_rows_of_numbers {f : Addr} {fd : FuncData} (T : Txt K mg cl fns) (F : Fun K "rows_of_numbers" "rows_of_numbers" s_rows_of_numbers f fd) (hm : mg "rows_of_numbers" = some (.ref f)) (hb : Binds K fd ["many", "p"] [])  : Cal (gT K cl fns) P w K mg base 1 "rows_of_numbers" 2 (m_rows_of_numbers) :=
  cal_mk F hm hb (fn_ok F sc_rows_of_numbers fun cdv A outer s H E hr tk hp =>
    have nd := sc_rows_of_numbers.nd
    (sp_cons (sp_set (i := 2) (se_lst (si_cons (se_tup (si_nil rfl)) (si_nil rfl))) nd rfl (.inl rfl))
    (sp_cons (sp_for hp rfl (si_rng1 (sa_cons (se_var (i := 0) rfl rfl (.inl rfl)) (sa_nil rfl)) (by rfl) T.b_range) (sg_of (pg_name (i := 3) nd rfl (.inl rfl)) og_name) (sp_cons (sp_setS (i := 4) (se_lst (si_nil rfl)) nd rfl (.inl rfl))
    (sp_cons (sp_frz 2 (sp_for hp rfl (si_seq (sq_var (i := 2) rfl rfl (.inl rfl))) (sg_of (pg_name (i := 5) nd rfl (.inr rfl)) og_name) (sp_one (sp_ext (k := 4) rfl rfl (.inl rfl) (se_lc (own := [("number", 6)]) (ix := [6]) (g := (gName 6)) rfl nd (sc_rng1 (sa_cons (se_var (i := 1) rfl rfl (.inl rfl)) (sa_nil rfl)) (by rfl) T.b_range) (blkOk_by (own := [("number", 6)]) (by kernel_rfl)) (by decide) (fun _ _ _ _ _ => (pg_name (i := 6) nd rfl (.inl rfl))) og_name (fun _ _ _ _ _ => (sts_nil rfl)) (fun _ _ _ _ _ => (se_add (se_var (i := 5) rfl rfl (.inr (.inl rfl))) (se_tup (si_cons (se_var (i := 6) rfl rfl (.inl rfl)) (si_nil rfl))))))))))
    (sp_one (sp_set (i := 2) (se_var (i := 4) rfl rfl (.inl rfl)) nd rfl (.inl rfl))))))
    (sp_one (sp_retV (i := 2) rfl rfl (.inl rfl))))))
abbrev s_by_sums : Stmt := topS 28
theorem sc_by_sums : FnScope ["p", "t", "u", "sums", "x"] ["p", "t", "u"] (defScope s_by_sums) := ⟨rfl, rfl, rfl, by decide +kernel, rfl, by decide +kernel, by decide +kernel⟩
theorem ok_by_sums {f : Addr} {fd : FuncData} (T : Txt K mg cl fns) (F : Fun K "by_sums" "by_sums" s_by_sums f fd) (hm : mg "by_sums" = some (.ref f)) (hb : Binds K fd ["p", "t", "u"] []) (c_need_prime : Cal (gT K cl fns) P w K mg base 2 "need_prime" 1 m_need_prime) (c_need_room : Cal (gT K cl fns) P w K mg base 1 "need_room" 1 m_need_room) (c_rows_of_numbers : Cal (gT K cl fns) P w K mg base 1 "rows_of_numbers" 2 m_rows_of_numbers) (c_worth_at : Cal (gT K cl fns) P w K mg base 1 "worth_at" 3 m_worth_at) : Cal (gT K cl fns) P w K mg base 3 "by_sums" 3 (m_by_sums) :=
  cal_mk F hm hb (fn_ok F sc_by_sums fun cdv A outer s H E hr tk hp =>
    have nd := sc_by_sums.nd
    (sp_cons (sp_drop (se_callC tk c_need_prime (hr.mono (by omega)) (by rfl) (sa_cons (se_var (i := 0) rfl rfl (.inr (.inl rfl))) (sa_nil rfl))))
    (sp_cons (sp_drop (se_callC tk c_need_room (hr.mono (by omega)) (by rfl) (sa_cons (se_sub_ (se_lst (si_cons (se_int rfl) (si_cons (se_var (i := 0) rfl rfl (.inr (.inl rfl))) (si_cons (se_mul (se_var (i := 0) rfl rfl (.inr (.inl rfl))) (se_var (i := 0) rfl rfl (.inr (.inl rfl)))) (si_cons (se_mul (se_mul (se_var (i := 0) rfl rfl (.inr (.inl rfl))) (se_var (i := 0) rfl rfl (.inr (.inl rfl)))) (se_var (i := 0) rfl rfl (.inr (.inl rfl)))) (si_cons (se_mul (se_mul (se_mul (se_var (i := 0) rfl rfl (.inr (.inl rfl))) (se_var (i := 0) rfl rfl (.inr (.inl rfl)))) (se_var (i := 0) rfl rfl (.inr (.inl rfl)))) (se_var (i := 0) rfl rfl (.inr (.inl rfl)))) (si_nil rfl))))))) (se_var (i := 1) rfl rfl (.inl rfl))) (sa_nil rfl))))
    (sp_cons (sp_if (sb_gt (se_var (i := 0) rfl rfl (.inr (.inl rfl))) (se_gintE rfl (by rfl) T.c_MOST_BOXES)) (sp_one (sp_raise rfl tk rfl T.r_TooMany (by rfl))) (sp_nil rfl))
    (sp_one (sp_ret (se_tup (si_cons (se_var (i := 0) rfl rfl (.inr (.inl rfl))) (si_cons (se_tuple (by rfl) T.b_tuple (sa_cons (se_lc (own := [("sums", 3)]) (ix := [3]) (g := (gName 3)) rfl nd (si_seq (sq_c (se_callC tk c_rows_of_numbers (hr.mono (by omega)) (by rfl) (sa_cons (se_var (i := 1) rfl rfl (.inl rfl)) (sa_cons (se_var (i := 0) rfl rfl (.inr (.inl rfl))) (sa_nil rfl)))))) (blkOk_by (own := [("sums", 3)]) (by kernel_rfl)) (by decide) (fun _ _ _ _ _ => (pg_name (i := 3) nd rfl (.inr rfl))) og_name (fun _ _ _ _ _ => (sts_nil rfl)) (fun _ _ _ _ _ => (se_tuple (by rfl) T.b_tuple (sa_cons (se_lc (own := [("x", 4)]) (ix := [4]) (g := (gName 4)) rfl nd (sc_rng1 (sa_cons (se_var (i := 2) rfl rfl (.inr (.inl rfl))) (sa_nil rfl)) (by rfl) T.b_range) (blkOk_by (own := [("x", 4)]) (by kernel_rfl)) (by decide) (fun _ _ _ _ _ => (pg_name (i := 4) nd rfl (.inl rfl))) og_name (fun _ _ _ _ _ => (sts_nil rfl)) (fun _ _ _ _ _ => (se_callC takes0 c_worth_at (hr.mono (by omega)) (by rfl) (sa_cons (se_var (i := 3) rfl rfl (.inr (.inl rfl))) (sa_cons (se_var (i := 4) rfl rfl (.inl rfl)) (sa_cons (se_var (i := 0) rfl rfl (.inr (.inl rfl))) (sa_nil rfl))))))) (sa_nil rfl))))) (sa_nil rfl))) (si_nil rfl))))))))))
abbrev s_least_together : Stmt := topS 30
theorem sc_least_together : FnScope ["u", "m", "low", "fuller"] ["u", "m"] (defScope s_least_together) := ⟨rfl, rfl, rfl, by decide +kernel, rfl, by decide +kernel, by decide +kernel⟩
theorem ok_least_together {f : Addr} {fd : FuncData} (T : Txt K mg cl fns) (F : Fun K "least_together" "least_together" s_least_together f fd) (hm : mg "least_together" = some (.ref f)) (hb : Binds K fd ["u", "m"] []) (c_choose : Cal (gT K cl fns) P w K mg base 1 "choose" 2 m_choose) : Cal (gT K cl fns) P w K mg base 2 "least_together" 2 (m_least_together) :=
  cal_mk F hm hb (fn_ok F sc_least_together fun cdv A outer s H E hr tk hp =>
    have nd := sc_least_together.nd
    (sp_cons (sp_if (sb_lt (se_var (i := 0) rfl rfl (.inl rfl)) (se_int rfl)) (sp_one (sp_raise rfl tk rfl T.r_TooFew (by rfl))) (sp_nil rfl))
    (sp_cons (sp_set (i := 2) (se_fdiv (se_var (i := 0) rfl rfl (.inl rfl)) (se_var (i := 1) rfl rfl (.inl rfl))) nd rfl (.inl rfl))
    (sp_cons (sp_set (i := 3) (se_mod (se_var (i := 0) rfl rfl (.inl rfl)) (se_var (i := 1) rfl rfl (.inl rfl))) nd rfl (.inl rfl))
    (sp_one (sp_ret (se_add (se_mul (se_var (i := 3) rfl rfl (.inl rfl)) (se_callC tk c_choose (hr.mono (by omega)) (by rfl) (sa_cons (se_add (se_var (i := 2) rfl rfl (.inl rfl)) (se_int rfl)) (sa_cons (se_int rfl) (sa_nil rfl))))) (se_mul (se_sub (se_var (i := 1) rfl rfl (.inl rfl)) (se_var (i := 3) rfl rfl (.inl rfl))) (se_callC tk c_choose (hr.mono (by omega)) (by rfl) (sa_cons (se_var (i := 2) rfl rfl (.inl rfl)) (sa_cons (se_int rfl) (sa_nil rfl))))))))))))
abbrev s_least_share : Stmt := topS 31
theorem sc_least_share : FnScope ["u", "m"] ["u", "m"] (defScope s_least_share) := ⟨rfl, rfl, rfl, by decide +kernel, rfl, by decide +kernel, by decide +kernel⟩
theorem ok_least_share {f : Addr} {fd : FuncData} (T : Txt K mg cl fns) (F : Fun K "least_share" "least_share" s_least_share f fd) (hm : mg "least_share" = some (.ref f)) (hb : Binds K fd ["u", "m"] []) (c_least_together : Cal (gT K cl fns) P w K mg base 2 "least_together" 2 m_least_together) (c_choose : Cal (gT K cl fns) P w K mg base 1 "choose" 2 m_choose) (c_part_of : Cal (gT K cl fns) P w K mg base 2 "part_of" 2 m_part_of) : Cal (gT K cl fns) P w K mg base 3 "least_share" 2 (m_least_share) :=
  cal_mk F hm hb (fn_ok F sc_least_share fun cdv A outer s H E hr tk hp =>
    have nd := sc_least_share.nd
    (sp_one (sp_ret (se_callC tk c_part_of (hr.mono (by omega)) (by rfl) (sa_cons (se_callC tk c_least_together (hr.mono (by omega)) (by rfl) (sa_cons (se_var (i := 0) rfl rfl (.inl rfl)) (sa_cons (se_var (i := 1) rfl rfl (.inl rfl)) (sa_nil rfl)))) (sa_cons (se_callC tk c_choose (hr.mono (by omega)) (by rfl) (sa_cons (se_var (i := 0) rfl rfl (.inl rfl)) (sa_cons (se_int rfl) (sa_nil rfl)))) (sa_nil rfl)))))))
abbrev s_is_best : Stmt := topS 32
theorem sc_is_best : FnScope ["book", "top", "bottom", "many", "x", "y"] ["book"] (defScope s_is_best) := ⟨rfl, rfl, rfl, by decide +kernel, rfl, by decide +kernel, by decide +kernel⟩
theorem ok_is_best {f : Addr} {fd : FuncData} (T : Txt K mg cl fns) (F : Fun K "is_best" "is_best" s_is_best f fd) (hm : mg "is_best" = some (.ref f)) (hb : Binds K fd ["book"] []) (c_need_pairs : Cal (gT K cl fns) P w K mg base 2 "need_pairs" 1 m_need_pairs) (c_things_of : Cal (gT K cl fns) P w K mg base 1 "things_of" 1 m_things_of) (c_least_share : Cal (gT K cl fns) P w K mg base 3 "least_share" 2 m_least_share) (c_pairs_of : Cal (gT K cl fns) P w K mg base 1 "pairs_of" 1 m_pairs_of) (c_meets : Cal (gT K cl fns) P w K mg base 3 "meets" 3 m_meets) : Cal (gT K cl fns) P w K mg base 4 "is_best" 1 (m_is_best) :=
  cal_mk F hm hb (fn_ok F sc_is_best fun cdv A outer s H E hr tk hp =>
    have nd := sc_is_best.nd
    (sp_cons (sp_drop (se_callC tk c_need_pairs (hr.mono (by omega)) (by rfl) (sa_cons (se_var (i := 0) rfl rfl (.inr (.inl rfl))) (sa_nil rfl))))
    (sp_cons (sp_asg (se_callC tk c_least_share (hr.mono (by omega)) (by rfl) (sa_cons (se_callC tk c_things_of (hr.mono (by omega)) (by rfl) (sa_cons (se_var (i := 0) rfl rfl (.inr (.inl rfl))) (sa_nil rfl))) (sa_cons (se_sub_ (se_var (i := 0) rfl rfl (.inr (.inl rfl))) (se_int rfl)) (sa_nil rfl)))) (pg_tup rfl (pgs_cons (pg_name (i := 1) nd rfl (.inr rfl)) (pgs_cons (pg_name (i := 2) nd rfl (.inr rfl)) pgs_nil))) (og_tup rfl (ogs_cons og_name (ogs_cons og_name ogs_nil))))
    (sp_cons (sp_set (i := 3) (se_len (by rfl) T.b_len (sa_cons (se_sub_ (se_var (i := 0) rfl rfl (.inr (.inl rfl))) (se_int rfl)) (sa_nil rfl))) nd rfl (.inr rfl))
    (sp_one (sp_ret (se_all rfl (by rfl) T.b_all (sa_cons (se_lc (own := [("x", 4), ("y", 5)]) (ix := [4, 5]) (g := (gTup K 2 (gCons (gName 4) (gCons (gName 5) gNil)))) rfl nd (si_seq (sq_c (se_callC tk c_pairs_of (hr.mono (by omega)) (by rfl) (sa_cons (se_callC tk c_things_of (hr.mono (by omega)) (by rfl) (sa_cons (se_var (i := 0) rfl rfl (.inr (.inl rfl))) (sa_nil rfl))) (sa_nil rfl))))) (blkOk_by (own := [("x", 4), ("y", 5)]) (by kernel_rfl)) (by decide) (fun _ _ _ _ _ => (pg_tup rfl (pgs_cons (pg_name (i := 4) nd rfl (.inl rfl)) (pgs_cons (pg_name (i := 5) nd rfl (.inl rfl)) pgs_nil)))) (og_tup rfl (ogs_cons og_name (ogs_cons og_name ogs_nil))) (fun _ _ _ _ _ => (sts_nil rfl)) (fun _ _ _ _ _ => (se_eq hr.units (se_mul (se_callC takes0 c_meets (hr.mono (by omega)) (by rfl) (sa_cons (se_var (i := 0) rfl rfl (.inr (.inl rfl))) (sa_cons (se_var (i := 4) rfl rfl (.inl rfl)) (sa_cons (se_var (i := 5) rfl rfl (.inl rfl)) (sa_nil rfl))))) (se_var (i := 2) rfl rfl (.inr (.inl rfl)))) (se_mul (se_var (i := 1) rfl rfl (.inr (.inl rfl))) (se_var (i := 3) rfl rfl (.inr (.inl rfl))))))) (sa_nil rfl)))))))))
abbrev s_by_planes : Stmt := topS 33
theorem sc_by_planes : FnScope ["q", "rows", "a", "x"] ["q"] (defScope s_by_planes) := ⟨rfl, rfl, rfl, by decide +kernel, rfl, by decide +kernel, by decide +kernel⟩
theorem ok_by_planes {f : Addr} {fd : FuncData} (T : Txt K mg cl fns) (F : Fun K "by_planes" "by_planes" s_by_planes f fd) (hm : mg "by_planes" = some (.ref f)) (hb : Binds K fd ["q"] []) (c_need_prime : Cal (gT K cl fns) P w K mg base 2 "need_prime" 1 m_need_prime) : Cal (gT K cl fns) P w K mg base 3 "by_planes" 1 (m_by_planes) :=
  cal_mk F hm hb (fn_ok F sc_by_planes fun cdv A outer s H E hr tk hp =>
    have nd := sc_by_planes.nd
    (sp_cons (sp_drop (se_callC tk c_need_prime (hr.mono (by omega)) (by rfl) (sa_cons (se_var (i := 0) rfl rfl (.inr (.inl rfl))) (sa_nil rfl))))
    (sp_cons (sp_if (sb_gt (se_var (i := 0) rfl rfl (.inr (.inl rfl))) (se_int rfl)) (sp_one (sp_raise rfl tk rfl T.r_TooMany (by rfl))) (sp_nil rfl))
    (sp_cons (sp_set (i := 1) (se_lst (si_nil rfl)) nd rfl (.inl rfl))
    (sp_cons (sp_for hp rfl (si_rng1 (sa_cons (se_var (i := 0) rfl rfl (.inr (.inl rfl))) (sa_nil rfl)) (by rfl) T.b_range) (sg_of (pg_name (i := 2) nd rfl (.inr rfl)) og_name) (sp_one (sp_app (k := 1) rfl rfl (.inl rfl) (se_tuple (by rfl) T.b_tuple (sa_cons (se_lc (own := [("x", 3)]) (ix := [3]) (g := (gName 3)) rfl nd (sc_rng1 (sa_cons (se_mul (se_var (i := 0) rfl rfl (.inr (.inl rfl))) (se_var (i := 0) rfl rfl (.inr (.inl rfl)))) (sa_nil rfl)) (by rfl) T.b_range) (blkOk_by (own := [("x", 3)]) (by kernel_rfl)) (by decide) (fun _ _ _ _ _ => (pg_name (i := 3) nd rfl (.inl rfl))) og_name (fun _ _ _ _ _ => (sts_nil rfl)) (fun _ _ _ _ _ => (se_mod (se_sub (se_var (i := 3) rfl rfl (.inl rfl)) (se_mul (se_var (i := 2) rfl rfl (.inr (.inl rfl))) (se_fdiv (se_var (i := 3) rfl rfl (.inl rfl)) (se_var (i := 0) rfl rfl (.inr (.inl rfl)))))) (se_var (i := 0) rfl rfl (.inr (.inl rfl)))))) (sa_nil rfl))))))
    (sp_cons (sp_app (k := 1) rfl rfl (.inl rfl) (se_tuple (by rfl) T.b_tuple (sa_cons (se_lc (own := [("x", 3)]) (ix := [3]) (g := (gName 3)) rfl nd (sc_rng1 (sa_cons (se_mul (se_var (i := 0) rfl rfl (.inr (.inl rfl))) (se_var (i := 0) rfl rfl (.inr (.inl rfl)))) (sa_nil rfl)) (by rfl) T.b_range) (blkOk_by (own := [("x", 3)]) (by kernel_rfl)) (by decide) (fun _ _ _ _ _ => (pg_name (i := 3) nd rfl (.inl rfl))) og_name (fun _ _ _ _ _ => (sts_nil rfl)) (fun _ _ _ _ _ => (se_fdiv (se_var (i := 3) rfl rfl (.inl rfl)) (se_var (i := 0) rfl rfl (.inr (.inl rfl)))))) (sa_nil rfl))))
    (sp_one (sp_ret (se_tup (si_cons (se_var (i := 0) rfl rfl (.inr (.inl rfl))) (si_cons (se_tuple (by rfl) T.b_tuple (sa_cons (se_var (i := 1) rfl rfl (.inl rfl)) (sa_nil rfl))) (si_nil rfl))))))))))))
abbrev s_digits_of : Stmt := topS 35
theorem sc_digits_of : FnScope ["number", "m", "many", "found", "k"] ["number", "m", "many"] (defScope s_digits_of) := ⟨rfl, rfl, rfl, by decide +kernel, rfl, by decide +kernel, by decide +kernel⟩
theorem ok_digits_of {f : Addr} {fd : FuncData} (T : Txt K mg cl fns) (F : Fun K "digits_of" "digits_of" s_digits_of f fd) (hm : mg "digits_of" = some (.ref f)) (hb : Binds K fd ["number", "m", "many"] [])  : Cal (gT K cl fns) P w K mg base 1 "digits_of" 3 (m_digits_of) :=
  cal_mk F hm hb (fn_ok F sc_digits_of fun cdv A outer s H E hr tk hp =>
    have nd := sc_digits_of.nd
    (sp_cons (sp_set (i := 3) (se_lst (si_nil rfl)) nd rfl (.inl rfl))
    (sp_cons (sp_for hp rfl (si_rng1 (sa_cons (se_var (i := 2) rfl rfl (.inl rfl)) (sa_nil rfl)) (by rfl) T.b_range) (sg_of (pg_name (i := 4) nd rfl (.inl rfl)) og_name) (sp_cons (sp_app (k := 3) rfl rfl (.inl rfl) (se_mod (se_var (i := 0) rfl rfl (.inl rfl)) (se_var (i := 1) rfl rfl (.inl rfl))))
    (sp_one (sp_set (i := 0) (se_fdiv (se_var (i := 0) rfl rfl (.inl rfl)) (se_var (i := 1) rfl rfl (.inl rfl))) nd rfl (.inl rfl)))))
    (sp_one (sp_ret (se_tuple (by rfl) T.b_tuple (sa_cons (se_var (i := 3) rfl rfl (.inl rfl)) (sa_nil rfl))))))))
abbrev s_by_digits : Stmt := topS 36
theorem sc_by_digits : FnScope ["u", "m", "many", "reach", "spelled", "x", "k", "digits"] ["u", "m"] (defScope s_by_digits) := ⟨rfl, rfl, rfl, by decide +kernel, rfl, by decide +kernel, by decide +kernel⟩
theorem ok_by_digits {f : Addr} {fd : FuncData} (T : Txt K mg cl fns) (F : Fun K "by_digits" "by_digits" s_by_digits f fd) (hm : mg "by_digits" = some (.ref f)) (hb : Binds K fd ["u", "m"] []) (c_digits_of : Cal (gT K cl fns) P w K mg base 1 "digits_of" 3 m_digits_of) : Cal (gT K cl fns) P w K mg base 2 "by_digits" 2 (m_by_digits) :=
  cal_mk F hm hb (fn_ok F sc_by_digits fun cdv A outer s H E hr tk hp =>
    have nd := sc_by_digits.nd
    (sp_cons (sp_set (i := 2) (se_int rfl) nd rfl (.inr rfl))
    (sp_cons (sp_set (i := 3) (se_var (i := 1) rfl rfl (.inr (.inl rfl))) nd rfl (.inl rfl))
    (sp_cons (sp_while (n := 10000000000000000000000000000000000000000) hp (sb_lt (se_var (i := 3) rfl rfl (.inl rfl)) (se_var (i := 0) rfl rfl (.inl rfl))) (sp_cons (sp_set (i := 3) (se_mul (se_var (i := 3) rfl rfl (.inl rfl)) (se_var (i := 1) rfl rfl (.inr (.inl rfl)))) nd rfl (.inl rfl))
    (sp_one (sp_set (i := 2) (se_add (se_var (i := 2) rfl rfl (.inr (.inl rfl))) (se_int rfl)) nd rfl (.inr rfl)))))
    (sp_cons (sp_set (i := 4) (se_lc (own := [("x", 5)]) (ix := [5]) (g := (gName 5)) rfl nd (sc_rng1 (sa_cons (se_var (i := 0) rfl rfl (.inl rfl)) (sa_nil rfl)) (by rfl) T.b_range) (blkOk_by (own := [("x", 5)]) (by kernel_rfl)) (by decide) (fun _ _ _ _ _ => (pg_name (i := 5) nd rfl (.inl rfl))) og_name (fun _ _ _ _ _ => (sts_nil rfl)) (fun _ _ _ _ _ => (se_callC takes0 c_digits_of (hr.mono (by omega)) (by rfl) (sa_cons (se_var (i := 5) rfl rfl (.inl rfl)) (sa_cons (se_var (i := 1) rfl rfl (.inr (.inl rfl))) (sa_cons (se_var (i := 2) rfl rfl (.inr (.inl rfl))) (sa_nil rfl))))))) nd rfl (.inr rfl))
    (sp_one (sp_ret (se_tup (si_cons (se_var (i := 1) rfl rfl (.inr (.inl rfl))) (si_cons (se_tuple (by rfl) T.b_tuple (sa_cons (se_lc (own := [("k", 6)]) (ix := [6]) (g := (gName 6)) rfl nd (sc_rng1 (sa_cons (se_var (i := 2) rfl rfl (.inr (.inl rfl))) (sa_nil rfl)) (by rfl) T.b_range) (blkOk_by (own := [("k", 6)]) (by kernel_rfl)) (by decide) (fun _ _ _ _ _ => (pg_name (i := 6) nd rfl (.inr rfl))) og_name (fun _ _ _ _ _ => (sts_nil rfl)) (fun _ _ _ _ _ => (se_tuple (by rfl) T.b_tuple (sa_cons (se_lc (own := [("digits", 7)]) (ix := [7]) (g := (gName 7)) rfl nd (si_seq (sq_c (se_var (i := 4) rfl rfl (.inr (.inl rfl))))) (blkOk_by (own := [("digits", 7)]) (by kernel_rfl)) (by decide) (fun _ _ _ _ _ => (pg_name (i := 7) nd rfl (.inl rfl))) og_name (fun _ _ _ _ _ => (sts_nil rfl)) (fun _ _ _ _ _ => (se_sub_ (se_var (i := 7) rfl rfl (.inl rfl)) (se_var (i := 6) rfl rfl (.inr (.inl rfl)))))) (sa_nil rfl))))) (sa_nil rfl))) (si_nil rfl)))))))))))
abbrev s_by_points : Stmt := topS 37
theorem sc_by_points : FnScope ["p", "t", "n", "u", "rows", "v", "x"] ["p", "t", "n", "u"] (defScope s_by_points) := ⟨rfl, rfl, rfl, by decide +kernel, rfl, by decide +kernel, by decide +kernel⟩
theorem ok_by_points {f : Addr} {fd : FuncData} (T : Txt K mg cl fns) (F : Fun K "by_points" "by_points" s_by_points f fd) (hm : mg "by_points" = some (.ref f)) (hb : Binds K fd ["p", "t", "n", "u"] []) (c_need_prime : Cal (gT K cl fns) P w K mg base 2 "need_prime" 1 m_need_prime) (c_digits_of : Cal (gT K cl fns) P w K mg base 1 "digits_of" 3 m_digits_of) (c_worth_at : Cal (gT K cl fns) P w K mg base 1 "worth_at" 3 m_worth_at) : Cal (gT K cl fns) P w K mg base 3 "by_points" 4 (m_by_points) :=
  cal_mk F hm hb (fn_ok F sc_by_points fun cdv A outer s H E hr tk hp =>
    have nd := sc_by_points.nd
    (sp_cons (sp_drop (se_callC tk c_need_prime (hr.mono (by omega)) (by rfl) (sa_cons (se_var (i := 0) rfl rfl (.inr (.inl rfl))) (sa_nil rfl))))
    (sp_cons (sp_set (i := 4) (se_lst (si_nil rfl)) nd rfl (.inl rfl))
    (sp_cons (sp_for hp rfl (si_rng1 (sa_cons (se_var (i := 2) rfl rfl (.inl rfl)) (sa_nil rfl)) (by rfl) T.b_range) (sg_of (pg_name (i := 5) nd rfl (.inr rfl)) og_name) (sp_one (sp_app (k := 4) rfl rfl (.inl rfl) (se_tuple (by rfl) T.b_tuple (sa_cons (se_lc (own := [("x", 6)]) (ix := [6]) (g := (gName 6)) rfl nd (sc_rng1 (sa_cons (se_var (i := 3) rfl rfl (.inl rfl)) (sa_nil rfl)) (by rfl) T.b_range) (blkOk_by (own := [("x", 6)]) (by kernel_rfl)) (by decide) (fun _ _ _ _ _ => (pg_name (i := 6) nd rfl (.inl rfl))) og_name (fun _ _ _ _ _ => (sts_nil rfl)) (fun _ _ _ _ _ => (se_callC takes0 c_worth_at (hr.mono (by omega)) (by rfl) (sa_cons (se_callC takes0 c_digits_of (hr.mono (by omega)) (by rfl) (sa_cons (se_var (i := 6) rfl rfl (.inl rfl)) (sa_cons (se_var (i := 0) rfl rfl (.inr (.inl rfl))) (sa_cons (se_var (i := 1) rfl rfl (.inr (.inl rfl))) (sa_nil rfl))))) (sa_cons (se_var (i := 5) rfl rfl (.inr (.inl rfl))) (sa_cons (se_var (i := 0) rfl rfl (.inr (.inl rfl))) (sa_nil rfl))))))) (sa_nil rfl))))))
    (sp_one (sp_ret (se_tup (si_cons (se_var (i := 0) rfl rfl (.inr (.inl rfl))) (si_cons (se_tuple (by rfl) T.b_tuple (sa_cons (se_var (i := 4) rfl rfl (.inl rfl)) (sa_nil rfl))) (si_nil rfl))))))))))
abbrev s_l_bag : Stmt := topS 39
theorem sc_l_bag : FnScope ["_law_script"] ["_law_script"] (defScope s_l_bag) := ⟨rfl, rfl, rfl, by decide +kernel, rfl, by decide +kernel, by decide +kernel⟩
theorem ok_l_bag {f : Addr} {fd : FuncData} (T : Txt K mg cl fns) (F : Fun K "_law_bag" "_law_bag" s_l_bag f fd) (hm : mg "_law_bag" = some (.ref f)) (hb : Binds K fd ["_law_script"] [])  : Cal (gT K cl fns) P w K mg base 1 "_law_bag" 1 (m_l_bag) :=
  cal_mk F hm hb (fn_ok F sc_l_bag fun cdv A outer s H E hr tk hp =>
    have nd := sc_l_bag.nd
    (sp_one (sp_ret (se_lst (si_cons (se_list (by rfl) T.b_list (sa_cons (se_sl (se_var (i := 0) rfl rfl (.inl rfl)) so_no (so_some (se_int rfl))) (sa_nil rfl))) (si_cons (se_int rfl) (si_cons (se_int rfl) (si_nil rfl))))))))
abbrev s_l_pull : Stmt := topS 40
theorem sc_l_pull : FnScope ["_law_bag_here", "_law_many", "_law_at", "_law_cell", "_law_one", "_law_two", "_law_found"] ["_law_bag_here", "_law_many"] (defScope s_l_pull) := ⟨rfl, rfl, rfl, by decide +kernel, rfl, by decide +kernel, by decide +kernel⟩
theorem ok_l_pull {f : Addr} {fd : FuncData} (T : Txt K mg cl fns) (F : Fun K "_law_pull" "_law_pull" s_l_pull f fd) (hm : mg "_law_pull" = some (.ref f)) (hb : Binds K fd ["_law_bag_here", "_law_many"] [])  : Cal (gT K cl fns) P w K mg base 1 "_law_pull" 2 (m_l_pull) :=
  cal_mk F hm hb (fn_ok F sc_l_pull fun cdv A outer s H E hr tk hp =>
    have nd := sc_l_pull.nd
    (sp_cons (sp_if (sb_lt (se_sub_ (se_var (i := 0) rfl rfl (.inl rfl)) (se_int rfl)) (se_var (i := 1) rfl rfl (.inl rfl))) (sp_cons (sp_set (i := 2) (se_sub_ (se_var (i := 0) rfl rfl (.inl rfl)) (se_int rfl)) nd rfl (.inl rfl))
    (sp_cons (sp_setix (k := 0) rfl rfl (.inl rfl) (se_int rfl) (se_add (se_var (i := 2) rfl rfl (.inl rfl)) (se_int rfl)))
    (sp_cons (sp_setS (i := 3) (se_if (sb_gt (se_len (by rfl) T.b_len (sa_cons (se_sub_ (se_var (i := 0) rfl rfl (.inl rfl)) (se_int rfl)) (sa_nil rfl))) (se_int rfl)) (se_sub_ (se_sub_ (se_var (i := 0) rfl rfl (.inl rfl)) (se_int rfl)) (se_mod (se_var (i := 2) rfl rfl (.inl rfl)) (se_len (by rfl) T.b_len (sa_cons (se_sub_ (se_var (i := 0) rfl rfl (.inl rfl)) (se_int rfl)) (sa_nil rfl))))) (se_int rfl)) nd rfl (.inl rfl))
    (sp_cons (sp_setix (k := 0) rfl rfl (.inl rfl) (se_int rfl) (se_var (i := 3) rfl rfl (.inl rfl)))
    (sp_one (sp_if (sb_w (sbw_or (sb_lt (se_var (i := 3) rfl rfl (.inl rfl)) (se_pow (se_int rfl) (se_int rfl))) (sbw_or1 (sb_ge (se_var (i := 2) rfl rfl (.inl rfl)) (se_len (by rfl) T.b_len (sa_cons (se_sub_ (se_var (i := 0) rfl rfl (.inl rfl)) (se_int rfl)) (sa_nil rfl))))))) (sp_cons (sp_set (i := 4) (se_mod (se_pow (se_add (se_add (se_mod (se_var (i := 3) rfl rfl (.inl rfl)) (se_int rfl)) (se_mul (se_int rfl) (se_var (i := 2) rfl rfl (.inl rfl)))) (se_int rfl)) (se_int rfl)) (se_int rfl)) nd rfl (.inl rfl))
    (sp_cons (sp_set (i := 5) (se_mod (se_pow (se_add (se_add (se_add (se_var (i := 4) rfl rfl (.inl rfl)) (se_mul (se_int rfl) (se_var (i := 2) rfl rfl (.inl rfl)))) (se_mod (se_var (i := 3) rfl rfl (.inl rfl)) (se_int rfl))) (se_int rfl)) (se_int rfl)) (se_int rfl)) nd rfl (.inl rfl))
    (sp_one (sp_setix (k := 0) rfl rfl (.inl rfl) (se_int rfl) (se_add (se_mul (se_var (i := 4) rfl rfl (.inl rfl)) (se_int rfl)) (se_var (i := 5) rfl rfl (.inl rfl))))))) (sp_nil rfl))))))) (sp_nil rfl))
    (sp_cons (sp_set (i := 6) (se_mod (se_sub_ (se_var (i := 0) rfl rfl (.inl rfl)) (se_int rfl)) (se_var (i := 1) rfl rfl (.inl rfl))) nd rfl (.inl rfl))
    (sp_cons (sp_setix (k := 0) rfl rfl (.inl rfl) (se_int rfl) (se_fdiv (se_sub_ (se_var (i := 0) rfl rfl (.inl rfl)) (se_int rfl)) (se_var (i := 1) rfl rfl (.inl rfl))))
    (sp_one (sp_retV (i := 6) rfl rfl (.inl rfl)))))))
abbrev s_l_row : Stmt := topS 41
theorem sc_l_row : FnScope ["_law_bag_here", "_law_m", "_law_u", "_law_way", "_law_some", "_law_first", "_law_step", "_law_odd", "_law_x"] ["_law_bag_here", "_law_m", "_law_u", "_law_way"] (defScope s_l_row) := ⟨rfl, rfl, rfl, by decide +kernel, rfl, by decide +kernel, by decide +kernel⟩
theorem ok_l_row {f : Addr} {fd : FuncData} (T : Txt K mg cl fns) (F : Fun K "_law_row" "_law_row" s_l_row f fd) (hm : mg "_law_row" = some (.ref f)) (hb : Binds K fd ["_law_bag_here", "_law_m", "_law_u", "_law_way"] []) (c_l_pull : Cal (gT K cl fns) P w K mg base 1 "_law_pull" 2 m_l_pull) : Cal (gT K cl fns) P w K mg base 2 "_law_row" 4 (m_l_row) :=
  cal_mk F hm hb (fn_ok F sc_l_row fun cdv A outer s H E hr tk hp =>
    have nd := sc_l_row.nd
    (sp_cons (sp_if (sb_eq hr.units (se_var (i := 3) rfl rfl (.inl rfl)) (se_int rfl)) (sp_cons (sp_set (i := 4) (se_lst (si_cons (se_callC tk c_l_pull (hr.mono (by omega)) (by rfl) (sa_cons (se_var (i := 0) rfl rfl (.inr (.inl rfl))) (sa_cons (se_var (i := 1) rfl rfl (.inr (.inl rfl))) (sa_nil rfl)))) (si_cons (se_callC tk c_l_pull (hr.mono (by omega)) (by rfl) (sa_cons (se_var (i := 0) rfl rfl (.inr (.inl rfl))) (sa_cons (se_var (i := 1) rfl rfl (.inr (.inl rfl))) (sa_nil rfl)))) (si_nil rfl)))) nd rfl (.inr rfl))
    (sp_one (sp_ret (se_tuple (by rfl) T.b_tuple (sa_cons (se_lc (own := [("_law_x", 8)]) (ix := [8]) (g := (gName 8)) rfl nd (sc_rng1 (sa_cons (se_var (i := 2) rfl rfl (.inl rfl)) (sa_nil rfl)) (by rfl) T.b_range) (blkOk_by (own := [("_law_x", 8)]) (by kernel_rfl)) (by decide) (fun _ _ _ _ _ => (pg_name (i := 8) nd rfl (.inl rfl))) og_name (fun _ _ _ _ _ => (sts_nil rfl)) (fun _ _ _ _ _ => (se_sub_ (se_var (i := 4) rfl rfl (.inr (.inl rfl))) (se_callC takes0 c_l_pull (hr.mono (by omega)) (by rfl) (sa_cons (se_var (i := 0) rfl rfl (.inr (.inl rfl))) (sa_cons (se_int rfl) (sa_nil rfl))))))) (sa_nil rfl)))))) (sp_nil rfl))
    (sp_cons (sp_set (i := 5) (se_callC tk c_l_pull (hr.mono (by omega)) (by rfl) (sa_cons (se_var (i := 0) rfl rfl (.inr (.inl rfl))) (sa_cons (se_var (i := 1) rfl rfl (.inr (.inl rfl))) (sa_nil rfl)))) nd rfl (.inr rfl))
    (sp_cons (sp_if (sb_eq hr.units (se_var (i := 3) rfl rfl (.inl rfl)) (se_int rfl)) (sp_cons (sp_set (i := 6) (se_add (se_int rfl) (se_callC tk c_l_pull (hr.mono (by omega)) (by rfl) (sa_cons (se_var (i := 0) rfl rfl (.inr (.inl rfl))) (sa_cons (se_var (i := 2) rfl rfl (.inl rfl)) (sa_nil rfl))))) nd rfl (.inr rfl))
    (sp_one (sp_ret (se_tuple (by rfl) T.b_tuple (sa_cons (se_lc (own := [("_law_x", 8)]) (ix := [8]) (g := (gName 8)) rfl nd (sc_rng1 (sa_cons (se_var (i := 2) rfl rfl (.inl rfl)) (sa_nil rfl)) (by rfl) T.b_range) (blkOk_by (own := [("_law_x", 8)]) (by kernel_rfl)) (by decide) (fun _ _ _ _ _ => (pg_name (i := 8) nd rfl (.inl rfl))) og_name (fun _ _ _ _ _ => (sts_nil rfl)) (fun _ _ _ _ _ => (se_mod (se_add (se_var (i := 5) rfl rfl (.inr (.inl rfl))) (se_fdiv (se_var (i := 8) rfl rfl (.inl rfl)) (se_var (i := 6) rfl rfl (.inr (.inl rfl))))) (se_var (i := 1) rfl rfl (.inr (.inl rfl)))))) (sa_nil rfl)))))) (sp_nil rfl))
    (sp_cons (sp_if (sb_eq hr.units (se_var (i := 3) rfl rfl (.inl rfl)) (se_int rfl)) (sp_cons (sp_set (i := 7) (se_callC tk c_l_pull (hr.mono (by omega)) (by rfl) (sa_cons (se_var (i := 0) rfl rfl (.inr (.inl rfl))) (sa_cons (se_var (i := 2) rfl rfl (.inl rfl)) (sa_nil rfl)))) nd rfl (.inr rfl))
    (sp_one (sp_ret (se_tuple (by rfl) T.b_tuple (sa_cons (se_lc (own := [("_law_x", 8)]) (ix := [8]) (g := (gName 8)) rfl nd (sc_rng1 (sa_cons (se_var (i := 2) rfl rfl (.inl rfl)) (sa_nil rfl)) (by rfl) T.b_range) (blkOk_by (own := [("_law_x", 8)]) (by kernel_rfl)) (by decide) (fun _ _ _ _ _ => (pg_name (i := 8) nd rfl (.inl rfl))) og_name (fun _ _ _ _ _ => (sts_nil rfl)) (fun _ _ _ _ _ => (se_mod (se_add (se_var (i := 5) rfl rfl (.inr (.inl rfl))) (se_intc (by rfl) T.b_int (sa_cons (se_eq hr.units (se_var (i := 8) rfl rfl (.inl rfl)) (se_var (i := 7) rfl rfl (.inr (.inl rfl)))) (sa_nil rfl)))) (se_var (i := 1) rfl rfl (.inr (.inl rfl)))))) (sa_nil rfl)))))) (sp_nil rfl))
    (sp_one (sp_ret (se_tuple (by rfl) T.b_tuple (sa_cons (se_lc (own := [("_law_x", 8)]) (ix := [8]) (g := (gName 8)) rfl nd (sc_rng1 (sa_cons (se_var (i := 2) rfl rfl (.inl rfl)) (sa_nil rfl)) (by rfl) T.b_range) (blkOk_by (own := [("_law_x", 8)]) (by kernel_rfl)) (by decide) (fun _ _ _ _ _ => (pg_name (i := 8) nd rfl (.inl rfl))) og_name (fun _ _ _ _ _ => (sts_nil rfl)) (fun _ _ _ _ _ => (se_callC takes0 c_l_pull (hr.mono (by omega)) (by rfl) (sa_cons (se_var (i := 0) rfl rfl (.inr (.inl rfl))) (sa_cons (se_var (i := 1) rfl rfl (.inr (.inl rfl))) (sa_nil rfl)))))) (sa_nil rfl))))))))))
abbrev s_l_book : Stmt := topS 42
theorem sc_l_book : FnScope ["_law_bag_here", "_law_boxes", "_law_things", "_law_rows", "_law_m", "_law_u", "_law_found", "_law_k", "_law_way"] ["_law_bag_here", "_law_boxes", "_law_things", "_law_rows"] (defScope s_l_book) := ⟨rfl, rfl, rfl, by decide +kernel, rfl, by decide +kernel, by decide +kernel⟩
theorem ok_l_book {f : Addr} {fd : FuncData} (T : Txt K mg cl fns) (F : Fun K "_law_book" "_law_book" s_l_book f fd) (hm : mg "_law_book" = some (.ref f)) (hb : Binds K fd ["_law_bag_here", "_law_boxes", "_law_things", "_law_rows"] []) (c_l_pull : Cal (gT K cl fns) P w K mg base 1 "_law_pull" 2 m_l_pull) (c_l_row : Cal (gT K cl fns) P w K mg base 2 "_law_row" 4 m_l_row) : Cal (gT K cl fns) P w K mg base 3 "_law_book" 4 (m_l_book) :=
  cal_mk F hm hb (fn_ok F sc_l_book fun cdv A outer s H E hr tk hp =>
    have nd := sc_l_book.nd
    (sp_cons (sp_setS (i := 4) (se_add (se_int rfl) (se_callC tk c_l_pull (hr.mono (by omega)) (by rfl) (sa_cons (se_var (i := 0) rfl rfl (.inl rfl)) (sa_cons (se_var (i := 1) rfl rfl (.inl rfl)) (sa_nil rfl))))) nd rfl (.inl rfl))
    (sp_cons (sp_set (i := 5) (se_add (se_int rfl) (se_callC tk c_l_pull (hr.mono (by omega)) (by rfl) (sa_cons (se_var (i := 0) rfl rfl (.inl rfl)) (sa_cons (se_var (i := 2) rfl rfl (.inl rfl)) (sa_nil rfl))))) nd rfl (.inl rfl))
    (sp_cons (sp_set (i := 6) (se_lst (si_nil rfl)) nd rfl (.inl rfl))
    (sp_cons (sp_for hp rfl (si_rng1 (sa_cons (se_add (se_int rfl) (se_callC tk c_l_pull (hr.mono (by omega)) (by rfl) (sa_cons (se_var (i := 0) rfl rfl (.inl rfl)) (sa_cons (se_var (i := 3) rfl rfl (.inl rfl)) (sa_nil rfl))))) (sa_nil rfl)) (by rfl) T.b_range) (sg_of (pg_name (i := 7) nd rfl (.inl rfl)) og_name) (sp_cons (sp_set (i := 8) (se_callC tk c_l_pull (hr.mono (by omega)) (by rfl) (sa_cons (se_var (i := 0) rfl rfl (.inl rfl)) (sa_cons (se_int rfl) (sa_nil rfl)))) nd rfl (.inl rfl))
    (sp_one (sp_if (sb_w (sbw_and (sb_eq hr.units (se_var (i := 8) rfl rfl (.inl rfl)) (se_int rfl)) (sbw_and1 (sb_gt (se_len (by rfl) T.b_len (sa_cons (se_var (i := 6) rfl rfl (.inl rfl)) (sa_nil rfl))) (se_int rfl))))) (sp_one (sp_app (k := 6) rfl rfl (.inl rfl) (se_sub_ (se_var (i := 6) rfl rfl (.inl rfl)) (se_callC tk c_l_pull (hr.mono (by omega)) (by rfl) (sa_cons (se_var (i := 0) rfl rfl (.inl rfl)) (sa_cons (se_len (by rfl) T.b_len (sa_cons (se_var (i := 6) rfl rfl (.inl rfl)) (sa_nil rfl))) (sa_nil rfl))))))) (sp_one (sp_app (k := 6) rfl rfl (.inl rfl) (se_callC tk c_l_row (hr.mono (by omega)) (by rfl) (sa_cons (se_var (i := 0) rfl rfl (.inl rfl)) (sa_cons (se_var (i := 4) rfl rfl (.inl rfl)) (sa_cons (se_var (i := 5) rfl rfl (.inl rfl)) (sa_cons (se_var (i := 8) rfl rfl (.inl rfl)) (sa_nil rfl))))))))))))
    (sp_one (sp_ret (se_tup (si_cons (se_var (i := 4) rfl rfl (.inl rfl)) (si_cons (se_tuple (by rfl) T.b_tuple (sa_cons (se_var (i := 6) rfl rfl (.inl rfl)) (sa_nil rfl))) (si_nil rfl)))))))))))
abbrev s_l_all_rows : Stmt := topS 43
theorem sc_l_all_rows : FnScope ["_law_u", "_law_m", "_law_found", "_law_x", "_law_longer", "_law_row_here", "_law_upto", "_law_box"] ["_law_u", "_law_m"] (defScope s_l_all_rows) := ⟨rfl, rfl, rfl, by decide +kernel, rfl, by decide +kernel, by decide +kernel⟩
theorem ok_l_all_rows {f : Addr} {fd : FuncData} (T : Txt K mg cl fns) (F : Fun K "_law_all_rows" "_law_all_rows" s_l_all_rows f fd) (hm : mg "_law_all_rows" = some (.ref f)) (hb : Binds K fd ["_law_u", "_law_m"] [])  : Cal (gT K cl fns) P w K mg base 1 "_law_all_rows" 2 (m_l_all_rows) :=
  cal_mk F hm hb (fn_ok F sc_l_all_rows fun cdv A outer s H E hr tk hp =>
    have nd := sc_l_all_rows.nd
    (sp_cons (sp_set (i := 2) (se_lst (si_cons (se_tup (si_nil rfl)) (si_nil rfl))) nd rfl (.inl rfl))
    (sp_cons (sp_for hp rfl (si_rng1 (sa_cons (se_var (i := 0) rfl rfl (.inl rfl)) (sa_nil rfl)) (by rfl) T.b_range) (sg_of (pg_name (i := 3) nd rfl (.inl rfl)) og_name) (sp_cons (sp_setS (i := 4) (se_lst (si_nil rfl)) nd rfl (.inl rfl))
    (sp_cons (sp_frz 2 (sp_for hp rfl (si_seq (sq_var (i := 2) rfl rfl (.inl rfl))) (sg_of (pg_name (i := 5) nd rfl (.inr rfl)) og_name) (sp_cons (sp_set (i := 6) (se_min rfl (by rfl) T.b_min (sa_cons (se_var (i := 1) rfl rfl (.inl rfl)) (sa_cons (se_add (se_add (se_int rfl) (se_maxT hr rfl (by rfl) T.b_max (sa_cons (se_add (se_tup (si_cons (se_neg (se_int rfl)) (si_nil rfl))) (se_var (i := 5) rfl rfl (.inr (.inl rfl)))) (sa_nil rfl)))) (se_int rfl)) (sa_nil rfl)))) nd rfl (.inl rfl))
    (sp_one (sp_ext (k := 4) rfl rfl (.inl rfl) (se_lc (own := [("_law_box", 7)]) (ix := [7]) (g := (gName 7)) rfl nd (sc_rng1 (sa_cons (se_var (i := 6) rfl rfl (.inl rfl)) (sa_nil rfl)) (by rfl) T.b_range) (blkOk_by (own := [("_law_box", 7)]) (by kernel_rfl)) (by decide) (fun _ _ _ _ _ => (pg_name (i := 7) nd rfl (.inl rfl))) og_name (fun _ _ _ _ _ => (sts_nil rfl)) (fun _ _ _ _ _ => (se_add (se_var (i := 5) rfl rfl (.inr (.inl rfl))) (se_tup (si_cons (se_var (i := 7) rfl rfl (.inl rfl)) (si_nil rfl)))))))))))
    (sp_one (sp_set (i := 2) (se_var (i := 4) rfl rfl (.inl rfl)) nd rfl (.inl rfl))))))
    (sp_one (sp_retV (i := 2) rfl rfl (.inl rfl))))))
abbrev s_l_all_pairs : Stmt := topS 44
theorem sc_l_all_pairs : FnScope ["_law_u", "_law_found", "_law_x", "_law_y"] ["_law_u"] (defScope s_l_all_pairs) := ⟨rfl, rfl, rfl, by decide +kernel, rfl, by decide +kernel, by decide +kernel⟩
theorem ok_l_all_pairs {f : Addr} {fd : FuncData} (T : Txt K mg cl fns) (F : Fun K "_law_all_pairs" "_law_all_pairs" s_l_all_pairs f fd) (hm : mg "_law_all_pairs" = some (.ref f)) (hb : Binds K fd ["_law_u"] [])  : Cal (gT K cl fns) P w K mg base 1 "_law_all_pairs" 1 (m_l_all_pairs) :=
  cal_mk F hm hb (fn_ok F sc_l_all_pairs fun cdv A outer s H E hr tk hp =>
    have nd := sc_l_all_pairs.nd
    (sp_cons (sp_set (i := 1) (se_lst (si_nil rfl)) nd rfl (.inl rfl))
    (sp_cons (sp_for hp rfl (si_rng1 (sa_cons (se_var (i := 0) rfl rfl (.inl rfl)) (sa_nil rfl)) (by rfl) T.b_range) (sg_of (pg_name (i := 2) nd rfl (.inr rfl)) og_name) (sp_one (sp_ext (k := 1) rfl rfl (.inl rfl) (se_lc (own := [("_law_y", 3)]) (ix := [3]) (g := (gName 3)) rfl nd (sc_rng2 (sa_cons (se_add (se_var (i := 2) rfl rfl (.inr (.inl rfl))) (se_int rfl)) (sa_cons (se_var (i := 0) rfl rfl (.inl rfl)) (sa_nil rfl))) (by rfl) T.b_range) (blkOk_by (own := [("_law_y", 3)]) (by kernel_rfl)) (by decide) (fun _ _ _ _ _ => (pg_name (i := 3) nd rfl (.inl rfl))) og_name (fun _ _ _ _ _ => (sts_nil rfl)) (fun _ _ _ _ _ => (se_tup (si_cons (se_var (i := 2) rfl rfl (.inr (.inl rfl))) (si_cons (se_var (i := 3) rfl rfl (.inl rfl)) (si_nil rfl)))))))))
    (sp_one (sp_retV (i := 1) rfl rfl (.inl rfl))))))
abbrev s_l_call : Stmt := topS 45
theorem sc_l_call : FnScope ["_law_act", "_law_some"] ["_law_act", "_law_some"] (defScope s_l_call) := ⟨rfl, rfl, rfl, by decide +kernel, rfl, by decide +kernel, by decide +kernel⟩
theorem ok_l_call {f : Addr} {fd : FuncData} (T : Txt K mg cl fns) (F : Fun K "_law_call" "_law_call" s_l_call f fd) (hm : mg "_law_call" = some (.ref f)) (hb : Binds K fd ["_law_act", "_law_some"] []) {tbl : Nat → MF} (TB : TblF (gT K cl fns) P w K mg base 4 tbl)  : Cal (gT K cl fns) P w K mg base 5 "_law_call" 2 (m_l_call tbl) :=
  cal_mk F hm hb (fn_ok F sc_l_call fun cdv A outer s H E hr tk hp =>
    have nd := sc_l_call.nd
    (sp_cons (sp_if (sb_eq hr.units (se_len (by rfl) T.b_len (sa_cons (se_var (i := 1) rfl rfl (.inl rfl)) (sa_nil rfl))) (se_int rfl)) (sp_one (sp_ret (se_callL (i := 0) tk TB (hr.mono (by omega)) rfl (.inl rfl) (sa_cons (se_sub_ (se_var (i := 1) rfl rfl (.inl rfl)) (se_int rfl)) (sa_nil rfl))))) (sp_nil rfl))
    (sp_cons (sp_if (sb_eq hr.units (se_len (by rfl) T.b_len (sa_cons (se_var (i := 1) rfl rfl (.inl rfl)) (sa_nil rfl))) (se_int rfl)) (sp_one (sp_ret (se_callL (i := 0) tk TB (hr.mono (by omega)) rfl (.inl rfl) (sa_cons (se_sub_ (se_var (i := 1) rfl rfl (.inl rfl)) (se_int rfl)) (sa_cons (se_sub_ (se_var (i := 1) rfl rfl (.inl rfl)) (se_int rfl)) (sa_nil rfl)))))) (sp_nil rfl))
    (sp_cons (sp_if (sb_eq hr.units (se_len (by rfl) T.b_len (sa_cons (se_var (i := 1) rfl rfl (.inl rfl)) (sa_nil rfl))) (se_int rfl)) (sp_one (sp_ret (se_callL (i := 0) tk TB (hr.mono (by omega)) rfl (.inl rfl) (sa_cons (se_sub_ (se_var (i := 1) rfl rfl (.inl rfl)) (se_int rfl)) (sa_cons (se_sub_ (se_var (i := 1) rfl rfl (.inl rfl)) (se_int rfl)) (sa_cons (se_sub_ (se_var (i := 1) rfl rfl (.inl rfl)) (se_int rfl)) (sa_nil rfl))))))) (sp_nil rfl))
    (sp_one (sp_ret (se_callL (i := 0) tk TB (hr.mono (by omega)) rfl (.inl rfl) (sa_cons (se_sub_ (se_var (i := 1) rfl rfl (.inl rfl)) (se_int rfl)) (sa_cons (se_sub_ (se_var (i := 1) rfl rfl (.inl rfl)) (se_int rfl)) (sa_cons (se_sub_ (se_var (i := 1) rfl rfl (.inl rfl)) (se_int rfl)) (sa_cons (se_sub_ (se_var (i := 1) rfl rfl (.inl rfl)) (se_int rfl)) (sa_nil rfl))))))))))))
abbrev s_l_refused : Stmt := topS 46
theorem sc_l_refused : FnScope ["_law_act", "_law_some", "_law_caught", "e", "_law_kinds"] ["_law_act", "_law_some"] (defScope s_l_refused) := ⟨rfl, rfl, rfl, by decide +kernel, rfl, by decide +kernel, by decide +kernel⟩
theorem ok_l_refused {f : Addr} {fd : FuncData} (T : Txt K mg cl fns) (F : Fun K "_law_refused" "_law_refused" s_l_refused f fd) (hm : mg "_law_refused" = some (.ref f)) (hb : Binds K fd ["_law_act", "_law_some"] []) {tbl : Nat → MF} (TB : TblF (gT K cl fns) P w K mg base 4 tbl) (c_l_call : Cal (gT K cl fns) P w K mg base 5 "_law_call" 2 (m_l_call tbl)) : Cal (gT K cl fns) P w K mg base 6 "_law_refused" 2 (m_l_refused tbl) :=
  cal_mk F hm hb (fn_ok F sc_l_refused fun cdv A outer s H E hr tk hp =>
    have nd := sc_l_refused.nd
    (sp_cons (sp_set (i := 2) (se_non rfl) nd rfl (.inl rfl))
    (sp_cons (sp_try (i := 3) (j := 2) rfl rfl rfl rfl nd rfl rfl rfl rfl tk T.x_PartError (by rfl) (by decide) fun W' pn xe tk hp => (sp_one (sp_drop (se_callC tk c_l_call (hr.mono (by omega)) (by rfl) (sa_cons (se_var (i := 0) rfl rfl (.inl rfl)) (sa_cons (se_var (i := 1) rfl rfl (.inl rfl)) (sa_nil rfl)))))))
    (sp_cons (sp_if (sb_is (se_var (i := 2) rfl rfl (.inl rfl)) (se_non rfl)) (sp_one (sp_ret (se_str rfl))) (sp_nil rfl))
    (sp_cons (sp_set (i := 4) (se_lst (si_cons (se_isx T.kin (by rfl) T.b_isinstance (sa_cons (se_var (i := 2) rfl rfl (.inl rfl)) (sa_cons (se_clsE (n := 1) rfl (by rfl) T.m_TooFew) (sa_nil rfl)))) (si_cons (se_isx T.kin (by rfl) T.b_isinstance (sa_cons (se_var (i := 2) rfl rfl (.inl rfl)) (sa_cons (se_clsE (n := 2) rfl (by rfl) T.m_TooMany) (sa_nil rfl)))) (si_cons (se_isx T.kin (by rfl) T.b_isinstance (sa_cons (se_var (i := 2) rfl rfl (.inl rfl)) (sa_cons (se_clsE (n := 3) rfl (by rfl) T.m_NoPrime) (sa_nil rfl)))) (si_nil rfl))))) nd rfl (.inl rfl))
    (sp_cons (sp_set (i := 4) (se_add (se_var (i := 4) rfl rfl (.inl rfl)) (se_lst (si_cons (se_isx T.kin (by rfl) T.b_isinstance (sa_cons (se_var (i := 2) rfl rfl (.inl rfl)) (sa_cons (se_clsE (n := 4) rfl (by rfl) T.m_NoThing) (sa_nil rfl)))) (si_cons (se_isx T.kin (by rfl) T.b_isinstance (sa_cons (se_var (i := 2) rfl rfl (.inl rfl)) (sa_cons (se_clsE (n := 5) rfl (by rfl) T.m_NoRow) (sa_nil rfl)))) (si_cons (se_isx T.kin (by rfl) T.b_isinstance (sa_cons (se_var (i := 2) rfl rfl (.inl rfl)) (sa_cons (se_clsE (n := 6) rfl (by rfl) T.m_NoText) (sa_nil rfl)))) (si_nil rfl)))))) nd rfl (.inl rfl))
    (sp_cons (sp_if (sb_w (sbw_or (sb_ne hr.units (se_count hr (se_var (i := 4) rfl rfl (.inl rfl)) (sa_cons (se_bl rfl) (sa_nil rfl))) (se_int rfl)) (sbw_or1 (sb_not (sb_val (se_isx T.kin (by rfl) T.b_isinstance (sa_cons (se_var (i := 2) rfl rfl (.inl rfl)) (sa_cons (se_ty (n := "ValueError") rfl (by rfl) T.b_ValueError bt_ValueError) (sa_nil rfl))))))))) (sp_one (sp_ret (se_str rfl))) (sp_nil rfl))
    (sp_one (sp_ret (se_sub_ (se_lst (si_cons (se_str rfl) (si_cons (se_str rfl) (si_cons (se_str rfl) (si_cons (se_str rfl) (si_cons (se_str rfl) (si_cons (se_str rfl) (si_nil rfl)))))))) (se_index hr (se_var (i := 4) rfl rfl (.inl rfl)) (sa_cons (se_bl rfl) (sa_nil rfl)))))))))))))
abbrev s_l_counts : Stmt := topS 47
theorem sc_l_counts : FnScope ["_law_row_here", "_law_m", "_law_box"] ["_law_row_here", "_law_m"] (defScope s_l_counts) := ⟨rfl, rfl, rfl, by decide +kernel, rfl, by decide +kernel, by decide +kernel⟩
theorem ok_l_counts {f : Addr} {fd : FuncData} (T : Txt K mg cl fns) (F : Fun K "_law_counts" "_law_counts" s_l_counts f fd) (hm : mg "_law_counts" = some (.ref f)) (hb : Binds K fd ["_law_row_here", "_law_m"] [])  : Cal (gT K cl fns) P w K mg base 1 "_law_counts" 2 (m_l_counts) :=
  cal_mk F hm hb (fn_ok F sc_l_counts fun cdv A outer s H E hr tk hp =>
    have nd := sc_l_counts.nd
    (sp_one (sp_ret (se_lc (own := [("_law_box", 2)]) (ix := [2]) (g := (gName 2)) rfl nd (sc_rng1 (sa_cons (se_var (i := 1) rfl rfl (.inl rfl)) (sa_nil rfl)) (by rfl) T.b_range) (blkOk_by (own := [("_law_box", 2)]) (by kernel_rfl)) (by decide) (fun _ _ _ _ _ => (pg_name (i := 2) nd rfl (.inl rfl))) og_name (fun _ _ _ _ _ => (sts_nil rfl)) (fun _ _ _ _ _ => (se_cntT hr (se_var (i := 0) rfl rfl (.inr (.inl rfl))) (se_var (i := 2) rfl rfl (.inl rfl))))))))
abbrev s_l_made : Stmt := topS 48
theorem sc_l_made : FnScope ["_law_bag_here", "_law_way", "_law_spoil", "_law_m", "_law_rows", "_law_u", "_law_most", "_law_some", "_law_at", "_law_x", "_law_row_here", "_law_box"] ["_law_bag_here"] (defScope s_l_made) := ⟨rfl, rfl, rfl, by decide +kernel, rfl, by decide +kernel, by decide +kernel⟩
theorem ok_l_made {f : Addr} {fd : FuncData} (T : Txt K mg cl fns) (F : Fun K "_law_made" "_law_made" s_l_made f fd) (hm : mg "_law_made" = some (.ref f)) (hb : Binds K fd ["_law_bag_here"] []) (c_l_pull : Cal (gT K cl fns) P w K mg base 1 "_law_pull" 2 m_l_pull) (c_by_planes : Cal (gT K cl fns) P w K mg base 3 "by_planes" 1 m_by_planes) (c_l_all_rows : Cal (gT K cl fns) P w K mg base 1 "_law_all_rows" 2 m_l_all_rows) (c_l_counts : Cal (gT K cl fns) P w K mg base 1 "_law_counts" 2 m_l_counts) (c_by_sums : Cal (gT K cl fns) P w K mg base 3 "by_sums" 3 m_by_sums) (c_by_digits : Cal (gT K cl fns) P w K mg base 2 "by_digits" 2 m_by_digits) (c_by_points : Cal (gT K cl fns) P w K mg base 3 "by_points" 4 m_by_points) (c_l_book : Cal (gT K cl fns) P w K mg base 3 "_law_book" 4 m_l_book) : Cal (gT K cl fns) P w K mg base 4 "_law_made" 1 (m_l_made) :=
  cal_mk F hm hb (fn_ok F sc_l_made fun cdv A outer s H E hr tk hp =>
    have nd := sc_l_made.nd
    (sp_cons (sp_set (i := 1) (se_callC tk c_l_pull (hr.mono (by omega)) (by rfl) (sa_cons (se_var (i := 0) rfl rfl (.inl rfl)) (sa_cons (se_int rfl) (sa_nil rfl)))) nd rfl (.inl rfl))
    (sp_cons (sp_set (i := 2) (se_callC tk c_l_pull (hr.mono (by omega)) (by rfl) (sa_cons (se_var (i := 0) rfl rfl (.inl rfl)) (sa_cons (se_int rfl) (sa_nil rfl)))) nd rfl (.inl rfl))
    (sp_cons (sp_if (sb_eq hr.units (se_var (i := 1) rfl rfl (.inl rfl)) (se_int rfl)) (sp_one (sp_asg (se_callC tk c_by_planes (hr.mono (by omega)) (by rfl) (sa_cons (se_sub_ (se_lst (si_cons (se_int rfl) (si_cons (se_int rfl) (si_cons (se_int rfl) (si_cons (se_int rfl) (si_nil rfl)))))) (se_callC tk c_l_pull (hr.mono (by omega)) (by rfl) (sa_cons (se_var (i := 0) rfl rfl (.inl rfl)) (sa_cons (se_int rfl) (sa_nil rfl))))) (sa_nil rfl))) (pg_tup rfl (pgs_cons (pg_name (i := 3) nd rfl (.inr rfl)) (pgs_cons (pg_name (i := 4) nd rfl (.inl rfl)) pgs_nil))) (og_tup rfl (ogs_cons og_name (ogs_cons og_name ogs_nil))))) (sp_one (sp_if (sb_eq hr.units (se_var (i := 1) rfl rfl (.inl rfl)) (se_int rfl)) (sp_cons (sp_asg (se_sub_ (se_lst (si_cons (se_tup (si_cons (se_int rfl) (si_cons (se_int rfl) (si_nil rfl)))) (si_cons (se_tup (si_cons (se_int rfl) (si_cons (se_int rfl) (si_nil rfl)))) (si_cons (se_tup (si_cons (se_int rfl) (si_cons (se_int rfl) (si_nil rfl)))) (si_cons (se_tup (si_cons (se_int rfl) (si_cons (se_int rfl) (si_nil rfl)))) (si_cons (se_tup (si_cons (se_int rfl) (si_cons (se_int rfl) (si_nil rfl)))) (si_cons (se_tup (si_cons (se_int rfl) (si_cons (se_int rfl) (si_nil rfl)))) (si_cons (se_tup (si_cons (se_int rfl) (si_cons (se_int rfl) (si_nil rfl)))) (si_nil rfl))))))))) (se_callC tk c_l_pull (hr.mono (by omega)) (by rfl) (sa_cons (se_var (i := 0) rfl rfl (.inl rfl)) (sa_cons (se_int rfl) (sa_nil rfl))))) (pg_tup rfl (pgs_cons (pg_name (i := 5) nd rfl (.inr rfl)) (pgs_cons (pg_name (i := 3) nd rfl (.inr rfl)) pgs_nil))) (og_tup rfl (ogs_cons og_name (ogs_cons og_name ogs_nil))))
    (sp_cons (sp_set (i := 6) (se_fdiv (se_sub (se_add (se_var (i := 5) rfl rfl (.inr (.inl rfl))) (se_var (i := 3) rfl rfl (.inr (.inl rfl)))) (se_int rfl)) (se_var (i := 3) rfl rfl (.inr (.inl rfl)))) nd rfl (.inr rfl))
    (sp_cons (sp_setLcS (i := 4) (own := [("_law_row_here", 10)]) (ix := [10]) (g := (gName 10)) rfl nd rfl rfl (sw_true rfl rfl rfl (by decide +kernel)) (si_seq (sq_c (se_callC tk c_l_all_rows (hr.mono (by omega)) (by rfl) (sa_cons (se_var (i := 5) rfl rfl (.inr (.inl rfl))) (sa_cons (se_var (i := 3) rfl rfl (.inr (.inl rfl))) (sa_nil rfl)))))) (blkOk_by (own := [("_law_row_here", 10)]) (by kernel_rfl)) (by decide) (fun _ _ _ _ _ => (pg_name (i := 10) nd rfl (.inl rfl))) og_name (fun _ _ _ _ _ => (sts_one (sb_le (se_max rfl (by rfl) T.b_max (sa_cons (se_callC takes0 c_l_counts (hr.mono (by omega)) (by rfl) (sa_cons (se_var (i := 10) rfl rfl (.inl rfl)) (sa_cons (se_var (i := 3) rfl rfl (.inr (.inl rfl))) (sa_nil rfl)))) (sa_nil rfl))) (se_var (i := 6) rfl rfl (.inr (.inl rfl)))))) (fun _ _ _ _ _ => (se_var (i := 10) rfl rfl (.inl rfl))))
    (sp_one (sp_setS (i := 4) (se_tuple (by rfl) T.b_tuple (sa_cons (se_lc (own := [("_law_row_here", 10)]) (ix := [10]) (g := (gName 10)) rfl nd (si_seq (sq_c (se_var (i := 4) rfl rfl (.inl rfl)))) (blkOk_by (own := [("_law_row_here", 10)]) (by kernel_rfl)) (by decide) (fun _ _ _ _ _ => (pg_name (i := 10) nd rfl (.inl rfl))) og_name (fun _ _ _ _ _ => (sts_one (sb_ge (se_min rfl (by rfl) T.b_min (sa_cons (se_callC takes0 c_l_counts (hr.mono (by omega)) (by rfl) (sa_cons (se_var (i := 10) rfl rfl (.inl rfl)) (sa_cons (se_var (i := 3) rfl rfl (.inr (.inl rfl))) (sa_nil rfl)))) (sa_nil rfl))) (se_fdiv (se_var (i := 5) rfl rfl (.inr (.inl rfl))) (se_var (i := 3) rfl rfl (.inr (.inl rfl))))))) (fun _ _ _ _ _ => (se_var (i := 10) rfl rfl (.inl rfl)))) (sa_nil rfl))) nd rfl (.inl rfl)))))) (sp_one (sp_if (sb_eq hr.units (se_var (i := 1) rfl rfl (.inl rfl)) (se_int rfl)) (sp_cons (sp_setS (i := 5) (se_add (se_int rfl) (se_callC tk c_l_pull (hr.mono (by omega)) (by rfl) (sa_cons (se_var (i := 0) rfl rfl (.inl rfl)) (sa_cons (se_int rfl) (sa_nil rfl))))) nd rfl (.inr rfl))
    (sp_one (sp_asg (se_tup (si_cons (se_var (i := 5) rfl rfl (.inr (.inl rfl))) (si_cons (se_tup (si_cons (se_tupRg1 rfl (by rfl) T.b_tuple (by rfl) T.b_range (sa_cons (se_var (i := 5) rfl rfl (.inr (.inl rfl))) (sa_nil rfl))) (si_nil rfl))) (si_nil rfl)))) (pg_tup rfl (pgs_cons (pg_name (i := 3) nd rfl (.inr rfl)) (pgs_cons (pg_name (i := 4) nd rfl (.inl rfl)) pgs_nil))) (og_tup rfl (ogs_cons og_name (ogs_cons og_name ogs_nil)))))) (sp_one (sp_if (sb_eq hr.units (se_var (i := 1) rfl rfl (.inl rfl)) (se_int rfl)) (sp_cons (sp_set (i := 7) (se_lst (si_cons (se_callC tk c_by_sums (hr.mono (by omega)) (by rfl) (sa_cons (se_int rfl) (sa_cons (se_int rfl) (sa_cons (se_int rfl) (sa_nil rfl))))) (si_cons (se_callC tk c_by_sums (hr.mono (by omega)) (by rfl) (sa_cons (se_int rfl) (sa_cons (se_int rfl) (sa_cons (se_int rfl) (sa_nil rfl))))) (si_cons (se_callC tk c_by_digits (hr.mono (by omega)) (by rfl) (sa_cons (se_int rfl) (sa_cons (se_int rfl) (sa_nil rfl)))) (si_cons (se_callC tk c_by_digits (hr.mono (by omega)) (by rfl) (sa_cons (se_int rfl) (sa_cons (se_int rfl) (sa_nil rfl)))) (si_cons (se_callC tk c_by_points (hr.mono (by omega)) (by rfl) (sa_cons (se_int rfl) (sa_cons (se_int rfl) (sa_cons (se_int rfl) (sa_cons (se_int rfl) (sa_nil rfl)))))) (si_nil rfl))))))) nd rfl (.inl rfl))
    (sp_one (sp_asg (se_sub_ (se_var (i := 7) rfl rfl (.inl rfl)) (se_callC tk c_l_pull (hr.mono (by omega)) (by rfl) (sa_cons (se_var (i := 0) rfl rfl (.inl rfl)) (sa_cons (se_int rfl) (sa_nil rfl))))) (pg_tup rfl (pgs_cons (pg_name (i := 3) nd rfl (.inr rfl)) (pgs_cons (pg_name (i := 4) nd rfl (.inl rfl)) pgs_nil))) (og_tup rfl (ogs_cons og_name (ogs_cons og_name ogs_nil)))))) (sp_one (sp_asg (se_callC tk c_l_book (hr.mono (by omega)) (by rfl) (sa_cons (se_var (i := 0) rfl rfl (.inl rfl)) (sa_cons (se_int rfl) (sa_cons (se_int rfl) (sa_cons (se_int rfl) (sa_nil rfl)))))) (pg_tup rfl (pgs_cons (pg_name (i := 3) nd rfl (.inr rfl)) (pgs_cons (pg_name (i := 4) nd rfl (.inl rfl)) pgs_nil))) (og_tup rfl (ogs_cons og_name (ogs_cons og_name ogs_nil))))))))))))
    (sp_cons (sp_set (i := 8) (se_callC tk c_l_pull (hr.mono (by omega)) (by rfl) (sa_cons (se_var (i := 0) rfl rfl (.inl rfl)) (sa_cons (se_len (by rfl) T.b_len (sa_cons (se_var (i := 4) rfl rfl (.inl rfl)) (sa_nil rfl))) (sa_nil rfl)))) nd rfl (.inl rfl))
    (sp_cons (sp_set (i := 9) (se_callC tk c_l_pull (hr.mono (by omega)) (by rfl) (sa_cons (se_var (i := 0) rfl rfl (.inl rfl)) (sa_cons (se_len (by rfl) T.b_len (sa_cons (se_sub_ (se_var (i := 4) rfl rfl (.inl rfl)) (se_int rfl)) (sa_nil rfl))) (sa_nil rfl)))) nd rfl (.inl rfl))
    (sp_cons (sp_if (sb_eq hr.units (se_var (i := 2) rfl rfl (.inl rfl)) (se_int rfl)) (sp_one (sp_setS (i := 4) (se_add (se_var (i := 4) rfl rfl (.inl rfl)) (se_tup (si_cons (se_sub_ (se_var (i := 4) rfl rfl (.inl rfl)) (se_var (i := 8) rfl rfl (.inl rfl))) (si_nil rfl)))) nd rfl (.inl rfl))) (sp_nil rfl))
    (sp_cons (sp_if (sb_eq hr.units (se_var (i := 2) rfl rfl (.inl rfl)) (se_int rfl)) (sp_one (sp_setS (i := 4) (se_add (se_var (i := 4) rfl rfl (.inl rfl)) (se_var (i := 4) rfl rfl (.inl rfl))) nd rfl (.inl rfl))) (sp_nil rfl))
    (sp_cons (sp_if (sb_eq hr.units (se_var (i := 2) rfl rfl (.inl rfl)) (se_int rfl)) (sp_cons (sp_setS (i := 10) (se_sub_ (se_var (i := 4) rfl rfl (.inl rfl)) (se_var (i := 8) rfl rfl (.inl rfl))) nd rfl (.inl rfl))
    (sp_cons (sp_setS (i := 11) (se_mod (se_add (se_sub_ (se_var (i := 10) rfl rfl (.inl rfl)) (se_var (i := 9) rfl rfl (.inl rfl))) (se_int rfl)) (se_var (i := 3) rfl rfl (.inr (.inl rfl)))) nd rfl (.inl rfl))
    (sp_cons (sp_setS (i := 10) (se_add (se_add (se_sl (se_var (i := 10) rfl rfl (.inl rfl)) so_no (so_some (se_var (i := 9) rfl rfl (.inl rfl)))) (se_tup (si_cons (se_var (i := 11) rfl rfl (.inl rfl)) (si_nil rfl)))) (se_sl (se_var (i := 10) rfl rfl (.inl rfl)) (so_some (se_add (se_var (i := 9) rfl rfl (.inl rfl)) (se_int rfl))) so_no)) nd rfl (.inl rfl))
    (sp_one (sp_setS (i := 4) (se_add (se_add (se_sl (se_var (i := 4) rfl rfl (.inl rfl)) so_no (so_some (se_var (i := 8) rfl rfl (.inl rfl)))) (se_tup (si_cons (se_var (i := 10) rfl rfl (.inl rfl)) (si_nil rfl)))) (se_sl (se_var (i := 4) rfl rfl (.inl rfl)) (so_some (se_add (se_var (i := 8) rfl rfl (.inl rfl)) (se_int rfl))) so_no)) nd rfl (.inl rfl)))))) (sp_nil rfl))
    (sp_one (sp_ret (se_tup (si_cons (se_var (i := 3) rfl rfl (.inr (.inl rfl))) (si_cons (se_var (i := 4) rfl rfl (.inl rfl)) (si_nil rfl)))))))))))))))
abbrev s_law : Stmt := topS 49
theorem sc_law : FnScope ["_law_script", "_law_bag_here", "_law_turn", "_law_book_here", "_law_m", "_law_rows", "_law_u", "_law_top", "_law_bottom", "_law_due", "_law_x", "_law_y", "_law_met", "_law_told", "_law_worst", "_law_row_here"] ["_law_script"] (defScope s_law) := ⟨rfl, rfl, rfl, by decide +kernel, rfl, by decide +kernel, by decide +kernel⟩
theorem ok_law {f : Addr} {fd : FuncData} (T : Txt K mg cl fns) (F : Fun K "law" "law" s_law f fd) (hm : mg "law" = some (.ref f)) {tbl : Nat → MF} (TB : TblF (gT K cl fns) P w K mg base 4 tbl) (c_l_bag : Cal (gT K cl fns) P w K mg base 1 "_law_bag" 1 m_l_bag) (c_l_made : Cal (gT K cl fns) P w K mg base 4 "_law_made" 1 m_l_made) (c_l_refused : Cal (gT K cl fns) P w K mg base 6 "_law_refused" 2 (m_l_refused tbl)) (c_least_share : Cal (gT K cl fns) P w K mg base 3 "least_share" 2 m_least_share) (c_l_all_pairs : Cal (gT K cl fns) P w K mg base 1 "_law_all_pairs" 1 m_l_all_pairs) (c_is_best : Cal (gT K cl fns) P w K mg base 4 "is_best" 1 m_is_best) (c_worst_pairs : Cal (gT K cl fns) P w K mg base 4 "worst_pairs" 1 m_worst_pairs) : FnOk P w K mg base (L2.CX P w) 7 f fd ["_law_script"] (spM (gT K cl fns) 1 (m_law tbl)) :=
  fn_ok F sc_law fun cdv A outer s H E hr tk hp =>
    have nd := sc_law.nd
    (sp_cons (sp_setS (i := 1) (se_callC tk c_l_bag (hr.mono (by omega)) (by rfl) (sa_cons (se_var (i := 0) rfl rfl (.inl rfl)) (sa_nil rfl))) nd rfl (.inl rfl))
    (sp_cons (sp_for hp rfl (si_rng1 (sa_cons (se_int rfl) (sa_nil rfl)) (by rfl) T.b_range) (sg_of (pg_name (i := 2) nd rfl (.inl rfl)) og_name) (sp_cons (sp_setS (i := 3) (se_callC tk c_l_made (hr.mono (by omega)) (by rfl) (sa_cons (se_var (i := 1) rfl rfl (.inl rfl)) (sa_nil rfl))) nd rfl (.inl rfl))
    (sp_cons (sp_asg (se_var (i := 3) rfl rfl (.inl rfl)) (pg_tup rfl (pgs_cons (pg_name (i := 4) nd rfl (.inl rfl)) (pgs_cons (pg_name (i := 5) nd rfl (.inl rfl)) pgs_nil))) (og_tup rfl (ogs_cons og_name (ogs_cons og_name ogs_nil))))
    (sp_cons (sp_set (i := 6) (se_len (by rfl) T.b_len (sa_cons (se_sub_ (se_var (i := 5) rfl rfl (.inl rfl)) (se_int rfl)) (sa_nil rfl))) nd rfl (.inl rfl))
    (sp_cons (sp_if (sb_eq hr.units (se_var (i := 6) rfl rfl (.inl rfl)) (se_int rfl)) (sp_cons (sp_if (sb_ne hr.units (se_callC tk c_l_refused (hr.mono (by omega)) (by rfl) (sa_cons (se_fnE (n := 0) rfl (by rfl) T.f_is_best) (sa_cons (se_tup (si_cons (se_var (i := 3) rfl rfl (.inl rfl)) (si_nil rfl))) (sa_nil rfl)))) (se_str rfl)) (sp_one (sp_ret (se_bl rfl))) (sp_nil rfl))
    (sp_one (sp_cnt rfl))) (sp_nil rfl))
    (sp_cons (sp_asg (se_callC tk c_least_share (hr.mono (by omega)) (by rfl) (sa_cons (se_var (i := 6) rfl rfl (.inl rfl)) (sa_cons (se_var (i := 4) rfl rfl (.inl rfl)) (sa_nil rfl)))) (pg_tup rfl (pgs_cons (pg_name (i := 7) nd rfl (.inl rfl)) (pgs_cons (pg_name (i := 8) nd rfl (.inl rfl)) pgs_nil))) (og_tup rfl (ogs_cons og_name (ogs_cons og_name ogs_nil))))
    (sp_cons (sp_set (i := 9) (se_bl rfl) nd rfl (.inl rfl))
    (sp_cons (sp_for hp rfl (si_seq (sq_e (se_callC tk c_l_all_pairs (hr.mono (by omega)) (by rfl) (sa_cons (se_var (i := 6) rfl rfl (.inl rfl)) (sa_nil rfl))))) (sg_of (pg_tup rfl (pgs_cons (pg_name (i := 10) nd rfl (.inr rfl)) (pgs_cons (pg_name (i := 11) nd rfl (.inr rfl)) pgs_nil))) (og_tup rfl (ogs_cons og_name (ogs_cons og_name ogs_nil)))) (sp_cons (sp_set (i := 12) (se_len (by rfl) T.b_len (sa_cons (se_lc (own := [("_law_row_here", 15)]) (ix := [15]) (g := (gName 15)) rfl nd (si_seq (sq_c (se_var (i := 5) rfl rfl (.inl rfl)))) (blkOk_by (own := [("_law_row_here", 15)]) (by kernel_rfl)) (by decide) (fun _ _ _ _ _ => (pg_name (i := 15) nd rfl (.inl rfl))) og_name (fun _ _ _ _ _ => (sts_one (sb_eq hr.units (se_sub_ (se_var (i := 15) rfl rfl (.inl rfl)) (se_var (i := 10) rfl rfl (.inr (.inl rfl)))) (se_sub_ (se_var (i := 15) rfl rfl (.inl rfl)) (se_var (i := 11) rfl rfl (.inr (.inl rfl))))))) (fun _ _ _ _ _ => (se_int rfl))) (sa_nil rfl))) nd rfl (.inl rfl))
    (sp_one (sp_if (sb_ne hr.units (se_mul (se_var (i := 12) rfl rfl (.inl rfl)) (se_var (i := 8) rfl rfl (.inl rfl))) (se_mul (se_var (i := 7) rfl rfl (.inl rfl)) (se_len (by rfl) T.b_len (sa_cons (se_var (i := 5) rfl rfl (.inl rfl)) (sa_nil rfl))))) (sp_one (sp_set (i := 9) (se_bl rfl) nd rfl (.inl rfl))) (sp_nil rfl)))))
    (sp_cons (sp_set (i := 13) (se_callC tk c_is_best (hr.mono (by omega)) (by rfl) (sa_cons (se_var (i := 3) rfl rfl (.inl rfl)) (sa_nil rfl))) nd rfl (.inl rfl))
    (sp_cons (sp_if (sb_w (sbw_or (sb_not (sb_val (se_isi (by rfl) T.b_isinstance (sa_cons (se_var (i := 13) rfl rfl (.inl rfl)) (sa_cons (se_ty (n := "bool") rfl (by rfl) T.b_bool bt_bool) (sa_nil rfl)))))) (sbw_or (sb_ne hr.units (se_var (i := 13) rfl rfl (.inl rfl)) (se_var (i := 9) rfl rfl (.inl rfl))) (sbw_or1 (sb_w (sbw_and (sb_val (se_var (i := 9) rfl rfl (.inl rfl))) (sbw_and1 (sb_gt (se_mod (se_len (by rfl) T.b_len (sa_cons (se_var (i := 5) rfl rfl (.inl rfl)) (sa_nil rfl))) (se_var (i := 8) rfl rfl (.inl rfl))) (se_int rfl))))))))) (sp_one (sp_ret (se_bl rfl))) (sp_nil rfl))
    (sp_cons (sp_set (i := 14) (se_sub_ (se_callC tk c_worst_pairs (hr.mono (by omega)) (by rfl) (sa_cons (se_var (i := 3) rfl rfl (.inl rfl)) (sa_nil rfl))) (se_int rfl)) nd rfl (.inl rfl))
    (sp_one (sp_if (sb_w (sbw_or (sb_lt (se_mul (se_sub_ (se_var (i := 14) rfl rfl (.inl rfl)) (se_int rfl)) (se_var (i := 8) rfl rfl (.inl rfl))) (se_mul (se_var (i := 7) rfl rfl (.inl rfl)) (se_sub_ (se_var (i := 14) rfl rfl (.inl rfl)) (se_int rfl)))) (sbw_or1 (sb_ne hr.units (se_eq hr.units (se_var (i := 14) rfl rfl (.inl rfl)) (se_tup (si_cons (se_var (i := 7) rfl rfl (.inl rfl)) (si_cons (se_var (i := 8) rfl rfl (.inl rfl)) (si_nil rfl))))) (se_var (i := 9) rfl rfl (.inl rfl)))))) (sp_one (sp_ret (se_bl rfl))) (sp_nil rfl))))))))))))))
    (sp_one (sp_ret (se_eq hr.units (se_callC tk c_l_refused (hr.mono (by omega)) (by rfl) (sa_cons (se_fnE (n := 0) rfl (by rfl) T.f_is_best) (sa_cons (se_tup (si_cons (se_tup (si_cons (se_int rfl) (si_cons (se_tup (si_cons (se_tup (si_cons (se_int rfl) (si_nil rfl))) (si_cons (se_tup (si_cons (se_int rfl) (si_nil rfl))) (si_nil rfl)))) (si_nil rfl)))) (si_nil rfl))) (sa_nil rfl)))) (se_str rfl))))))
end
theorem all_mk {l : PySem.W.OpenLaw} {w : World} {K : PySem.W.Frag} {h : Heap} {mg : Str → Option Value} {fa f0 f1 f2 f3 f4 f5 f6 f7 f8 f9 f10 f11 f12 f13 f14 f15 f16 f17 f18 f19 f20 f21 f22 f23 f24 f25 f26 f27 f28 f29 f30 f31 f32 f33 C0 C1 C2 C3 C4 C5 C6 : Addr} (X : K.In h) (G : h.Ns mainGlobals mg) (hfa : mg "law" = some (.ref fa))
    {od0 od1 od2 od3 od4 od5 od6 od7 od8 od9 od10 od11 od12 od13 od14 od15 od16 od17 od18 od19 od20 od21 od22 od23 od24 od25 od26 od27 od28 od29 od30 od31 od32 od33 an0 an1 an2 an3 an4 an5 an6 an7 an8 an9 an10 an11 an12 an13 an14 an15 an16 an17 an18 an19 an20 an21 an22 an23 an24 an25 an26 an27 an28 an29 an30 an31 an32 an33 : Option Addr} {sl0 sl1 sl2 sl3 sl4 sl5 sl6 sl7 sl8 sl9 sl10 sl11 sl12 sl13 sl14 sl15 sl16 sl17 sl18 sl19 sl20 sl21 sl22 sl23 sl24 sl25 sl26 sl27 sl28 sl29 sl30 sl31 sl32 sl33 : Array (Option Value)} {oc0 oc1 oc2 oc3 oc4 oc5 oc6 oc7 oc8 oc9 oc10 oc11 oc12 oc13 oc14 oc15 oc16 oc17 oc18 oc19 oc20 oc21 oc22 oc23 oc24 oc25 oc26 oc27 oc28 oc29 oc30 oc31 oc32 oc33 kV0 kV1 kV2 kV3 kV4 kV5 kV6 kV7 kV8 kV9 kV10 kV11 kV12 kV13 kV14 kV15 kV16 kV17 kV18 kV19 kV20 kV21 kV22 kV23 kV24 kV25 kV26 kV27 kV28 kV29 kV30 kV31 kV32 kV33 dc0 dc1 dc2 dc3 dc4 dc5 dc6 dc7 dc8 dc9 dc10 dc11 dc12 dc13 dc14 dc15 dc16 dc17 dc18 dc19 dc20 dc21 dc22 dc23 dc24 dc25 dc26 dc27 dc28 dc29 dc30 dc31 dc32 dc33 pm0 pm1 pm2 pm3 pm4 pm5 pm6 pm7 pm8 pm9 pm10 pm11 pm12 pm13 pm14 pm15 pm16 pm17 pm18 pm19 pm20 pm21 pm22 pm23 pm24 pm25 pm26 pm27 pm28 pm29 pm30 pm31 pm32 pm33 cd0 cd1 cd2 cd3 cd4 cd5 cd6 cd7 cd8 cd9 cd10 cd11 cd12 cd13 cd14 cd15 cd16 cd17 cd18 cd19 cd20 cd21 cd22 cd23 cd24 cd25 cd26 cd27 cd28 cd29 cd30 cd31 cd32 cd33 ct0 ct1 ct2 ct3 ct4 ct5 ct6 ct7 ct8 ct9 ct10 ct11 ct12 ct13 ct14 ct15 ct16 ct17 ct18 ct19 ct20 ct21 ct22 ct23 ct24 ct25 ct26 ct27 ct28 ct29 ct30 ct31 ct32 ct33 : Value} {t0 t1 : Nat}
    (a0 : PySem.W.nsIn K mainGlobals "common" = some (some (.ref f0))) (l0 : K.lookup f0 = some ⟨oc0, od0, .func (PySem.W.fnOf "common" "common" (defArgs s_common) (defBody s_common) (defScope s_common) .none kV0 dc0 pm0 an0 cd0 ct0), sl0⟩) (c0 : PySem.W.codeIn K cd0 "common" = true) (k0 : PySem.W.keepIn K (.ref f0) = true)
    (a1 : PySem.W.nsIn K mainGlobals "part_of" = some (some (.ref f1))) (l1 : K.lookup f1 = some ⟨oc1, od1, .func (PySem.W.fnOf "part_of" "part_of" (defArgs s_part_of) (defBody s_part_of) (defScope s_part_of) .none kV1 dc1 pm1 an1 cd1 ct1), sl1⟩) (c1 : PySem.W.codeIn K cd1 "part_of" = true) (k1 : PySem.W.keepIn K (.ref f1) = true)
    (a2 : PySem.W.nsIn K mainGlobals "is_whole" = some (some (.ref f2))) (l2 : K.lookup f2 = some ⟨oc2, od2, .func (PySem.W.fnOf "is_whole" "is_whole" (defArgs s_is_whole) (defBody s_is_whole) (defScope s_is_whole) .none kV2 dc2 pm2 an2 cd2 ct2), sl2⟩) (c2 : PySem.W.codeIn K cd2 "is_whole" = true) (k2 : PySem.W.keepIn K (.ref f2) = true)
    (a3 : PySem.W.nsIn K mainGlobals "is_prime" = some (some (.ref f3))) (l3 : K.lookup f3 = some ⟨oc3, od3, .func (PySem.W.fnOf "is_prime" "is_prime" (defArgs s_is_prime) (defBody s_is_prime) (defScope s_is_prime) .none kV3 dc3 pm3 an3 cd3 ct3), sl3⟩) (c3 : PySem.W.codeIn K cd3 "is_prime" = true) (k3 : PySem.W.keepIn K (.ref f3) = true)
    (a4 : PySem.W.nsIn K mainGlobals "choose" = some (some (.ref f4))) (l4 : K.lookup f4 = some ⟨oc4, od4, .func (PySem.W.fnOf "choose" "choose" (defArgs s_choose) (defBody s_choose) (defScope s_choose) .none kV4 dc4 pm4 an4 cd4 ct4), sl4⟩) (c4 : PySem.W.codeIn K cd4 "choose" = true) (k4 : PySem.W.keepIn K (.ref f4) = true)
    (a5 : PySem.W.nsIn K mainGlobals "things_of" = some (some (.ref f5))) (l5 : K.lookup f5 = some ⟨oc5, od5, .func (PySem.W.fnOf "things_of" "things_of" (defArgs s_things_of) (defBody s_things_of) (defScope s_things_of) .none kV5 dc5 pm5 an5 cd5 ct5), sl5⟩) (c5 : PySem.W.codeIn K cd5 "things_of" = true) (k5 : PySem.W.keepIn K (.ref f5) = true)
    (a6 : PySem.W.nsIn K mainGlobals "need_things" = some (some (.ref f6))) (l6 : K.lookup f6 = some ⟨oc6, od6, .func (PySem.W.fnOf "need_things" "need_things" (defArgs s_need_things) (defBody s_need_things) (defScope s_need_things) .none kV6 dc6 pm6 an6 cd6 ct6), sl6⟩) (c6 : PySem.W.codeIn K cd6 "need_things" = true) (k6 : PySem.W.keepIn K (.ref f6) = true)
    (a7 : PySem.W.nsIn K mainGlobals "need_pairs" = some (some (.ref f7))) (l7 : K.lookup f7 = some ⟨oc7, od7, .func (PySem.W.fnOf "need_pairs" "need_pairs" (defArgs s_need_pairs) (defBody s_need_pairs) (defScope s_need_pairs) .none kV7 dc7 pm7 an7 cd7 ct7), sl7⟩) (c7 : PySem.W.codeIn K cd7 "need_pairs" = true) (k7 : PySem.W.keepIn K (.ref f7) = true)
    (a8 : PySem.W.nsIn K mainGlobals "meets" = some (some (.ref f8))) (l8 : K.lookup f8 = some ⟨oc8, od8, .func (PySem.W.fnOf "meets" "meets" (defArgs s_meets) (defBody s_meets) (defScope s_meets) .none kV8 dc8 pm8 an8 cd8 ct8), sl8⟩) (c8 : PySem.W.codeIn K cd8 "meets" = true) (k8 : PySem.W.keepIn K (.ref f8) = true)
    (a9 : PySem.W.nsIn K mainGlobals "pairs_of" = some (some (.ref f9))) (l9 : K.lookup f9 = some ⟨oc9, od9, .func (PySem.W.fnOf "pairs_of" "pairs_of" (defArgs s_pairs_of) (defBody s_pairs_of) (defScope s_pairs_of) .none kV9 dc9 pm9 an9 cd9 ct9), sl9⟩) (c9 : PySem.W.codeIn K cd9 "pairs_of" = true) (k9 : PySem.W.keepIn K (.ref f9) = true)
    (a10 : PySem.W.nsIn K mainGlobals "worst_pairs" = some (some (.ref f10))) (l10 : K.lookup f10 = some ⟨oc10, od10, .func (PySem.W.fnOf "worst_pairs" "worst_pairs" (defArgs s_worst_pairs) (defBody s_worst_pairs) (defScope s_worst_pairs) .none kV10 dc10 pm10 an10 cd10 ct10), sl10⟩) (c10 : PySem.W.codeIn K cd10 "worst_pairs" = true) (k10 : PySem.W.keepIn K (.ref f10) = true)
    (a11 : PySem.W.nsIn K mainGlobals "need_prime" = some (some (.ref f11))) (l11 : K.lookup f11 = some ⟨oc11, od11, .func (PySem.W.fnOf "need_prime" "need_prime" (defArgs s_need_prime) (defBody s_need_prime) (defScope s_need_prime) .none kV11 dc11 pm11 an11 cd11 ct11), sl11⟩) (c11 : PySem.W.codeIn K cd11 "need_prime" = true) (k11 : PySem.W.keepIn K (.ref f11) = true)
    (a12 : PySem.W.nsIn K mainGlobals "need_room" = some (some (.ref f12))) (l12 : K.lookup f12 = some ⟨oc12, od12, .func (PySem.W.fnOf "need_room" "need_room" (defArgs s_need_room) (defBody s_need_room) (defScope s_need_room) .none kV12 dc12 pm12 an12 cd12 ct12), sl12⟩) (c12 : PySem.W.codeIn K cd12 "need_room" = true) (k12 : PySem.W.keepIn K (.ref f12) = true)
    (a13 : PySem.W.nsIn K mainGlobals "worth_at" = some (some (.ref f13))) (l13 : K.lookup f13 = some ⟨oc13, od13, .func (PySem.W.fnOf "worth_at" "worth_at" (defArgs s_worth_at) (defBody s_worth_at) (defScope s_worth_at) .none kV13 dc13 pm13 an13 cd13 ct13), sl13⟩) (c13 : PySem.W.codeIn K cd13 "worth_at" = true) (k13 : PySem.W.keepIn K (.ref f13) = true)
    (a14 : PySem.W.nsIn K mainGlobals "rows_of_numbers" = some (some (.ref f14))) (l14 : K.lookup f14 = some ⟨oc14, od14, .func (PySem.W.fnOf "rows_of_numbers" "rows_of_numbers" (defArgs s_rows_of_numbers) (defBody s_rows_of_numbers) (defScope s_rows_of_numbers) .none kV14 dc14 pm14 an14 cd14 ct14), sl14⟩) (c14 : PySem.W.codeIn K cd14 "rows_of_numbers" = true) (k14 : PySem.W.keepIn K (.ref f14) = true)
    (a15 : PySem.W.nsIn K mainGlobals "by_sums" = some (some (.ref f15))) (l15 : K.lookup f15 = some ⟨oc15, od15, .func (PySem.W.fnOf "by_sums" "by_sums" (defArgs s_by_sums) (defBody s_by_sums) (defScope s_by_sums) .none kV15 dc15 pm15 an15 cd15 ct15), sl15⟩) (c15 : PySem.W.codeIn K cd15 "by_sums" = true) (k15 : PySem.W.keepIn K (.ref f15) = true)
    (a16 : PySem.W.nsIn K mainGlobals "least_together" = some (some (.ref f16))) (l16 : K.lookup f16 = some ⟨oc16, od16, .func (PySem.W.fnOf "least_together" "least_together" (defArgs s_least_together) (defBody s_least_together) (defScope s_least_together) .none kV16 dc16 pm16 an16 cd16 ct16), sl16⟩) (c16 : PySem.W.codeIn K cd16 "least_together" = true) (k16 : PySem.W.keepIn K (.ref f16) = true)
    (a17 : PySem.W.nsIn K mainGlobals "least_share" = some (some (.ref f17))) (l17 : K.lookup f17 = some ⟨oc17, od17, .func (PySem.W.fnOf "least_share" "least_share" (defArgs s_least_share) (defBody s_least_share) (defScope s_least_share) .none kV17 dc17 pm17 an17 cd17 ct17), sl17⟩) (c17 : PySem.W.codeIn K cd17 "least_share" = true) (k17 : PySem.W.keepIn K (.ref f17) = true)
    (a18 : PySem.W.nsIn K mainGlobals "is_best" = some (some (.ref f18))) (l18 : K.lookup f18 = some ⟨oc18, od18, .func (PySem.W.fnOf "is_best" "is_best" (defArgs s_is_best) (defBody s_is_best) (defScope s_is_best) .none kV18 dc18 pm18 an18 cd18 ct18), sl18⟩) (c18 : PySem.W.codeIn K cd18 "is_best" = true) (k18 : PySem.W.keepIn K (.ref f18) = true)
    (a19 : PySem.W.nsIn K mainGlobals "by_planes" = some (some (.ref f19))) (l19 : K.lookup f19 = some ⟨oc19, od19, .func (PySem.W.fnOf "by_planes" "by_planes" (defArgs s_by_planes) (defBody s_by_planes) (defScope s_by_planes) .none kV19 dc19 pm19 an19 cd19 ct19), sl19⟩) (c19 : PySem.W.codeIn K cd19 "by_planes" = true) (k19 : PySem.W.keepIn K (.ref f19) = true)
    (a20 : PySem.W.nsIn K mainGlobals "digits_of" = some (some (.ref f20))) (l20 : K.lookup f20 = some ⟨oc20, od20, .func (PySem.W.fnOf "digits_of" "digits_of" (defArgs s_digits_of) (defBody s_digits_of) (defScope s_digits_of) .none kV20 dc20 pm20 an20 cd20 ct20), sl20⟩) (c20 : PySem.W.codeIn K cd20 "digits_of" = true) (k20 : PySem.W.keepIn K (.ref f20) = true)
    (a21 : PySem.W.nsIn K mainGlobals "by_digits" = some (some (.ref f21))) (l21 : K.lookup f21 = some ⟨oc21, od21, .func (PySem.W.fnOf "by_digits" "by_digits" (defArgs s_by_digits) (defBody s_by_digits) (defScope s_by_digits) .none kV21 dc21 pm21 an21 cd21 ct21), sl21⟩) (c21 : PySem.W.codeIn K cd21 "by_digits" = true) (k21 : PySem.W.keepIn K (.ref f21) = true)
    (a22 : PySem.W.nsIn K mainGlobals "by_points" = some (some (.ref f22))) (l22 : K.lookup f22 = some ⟨oc22, od22, .func (PySem.W.fnOf "by_points" "by_points" (defArgs s_by_points) (defBody s_by_points) (defScope s_by_points) .none kV22 dc22 pm22 an22 cd22 ct22), sl22⟩) (c22 : PySem.W.codeIn K cd22 "by_points" = true) (k22 : PySem.W.keepIn K (.ref f22) = true)
    (a23 : PySem.W.nsIn K mainGlobals "_law_bag" = some (some (.ref f23))) (l23 : K.lookup f23 = some ⟨oc23, od23, .func (PySem.W.fnOf "_law_bag" "_law_bag" (defArgs s_l_bag) (defBody s_l_bag) (defScope s_l_bag) .none kV23 dc23 pm23 an23 cd23 ct23), sl23⟩) (c23 : PySem.W.codeIn K cd23 "_law_bag" = true) (k23 : PySem.W.keepIn K (.ref f23) = true)
    (a24 : PySem.W.nsIn K mainGlobals "_law_pull" = some (some (.ref f24))) (l24 : K.lookup f24 = some ⟨oc24, od24, .func (PySem.W.fnOf "_law_pull" "_law_pull" (defArgs s_l_pull) (defBody s_l_pull) (defScope s_l_pull) .none kV24 dc24 pm24 an24 cd24 ct24), sl24⟩) (c24 : PySem.W.codeIn K cd24 "_law_pull" = true) (k24 : PySem.W.keepIn K (.ref f24) = true)
    (a25 : PySem.W.nsIn K mainGlobals "_law_row" = some (some (.ref f25))) (l25 : K.lookup f25 = some ⟨oc25, od25, .func (PySem.W.fnOf "_law_row" "_law_row" (defArgs s_l_row) (defBody s_l_row) (defScope s_l_row) .none kV25 dc25 pm25 an25 cd25 ct25), sl25⟩) (c25 : PySem.W.codeIn K cd25 "_law_row" = true) (k25 : PySem.W.keepIn K (.ref f25) = true)
    (a26 : PySem.W.nsIn K mainGlobals "_law_book" = some (some (.ref f26))) (l26 : K.lookup f26 = some ⟨oc26, od26, .func (PySem.W.fnOf "_law_book" "_law_book" (defArgs s_l_book) (defBody s_l_book) (defScope s_l_book) .none kV26 dc26 pm26 an26 cd26 ct26), sl26⟩) (c26 : PySem.W.codeIn K cd26 "_law_book" = true) (k26 : PySem.W.keepIn K (.ref f26) = true)
    (a27 : PySem.W.nsIn K mainGlobals "_law_all_rows" = some (some (.ref f27))) (l27 : K.lookup f27 = some ⟨oc27, od27, .func (PySem.W.fnOf "_law_all_rows" "_law_all_rows" (defArgs s_l_all_rows) (defBody s_l_all_rows) (defScope s_l_all_rows) .none kV27 dc27 pm27 an27 cd27 ct27), sl27⟩) (c27 : PySem.W.codeIn K cd27 "_law_all_rows" = true) (k27 : PySem.W.keepIn K (.ref f27) = true)
    (a28 : PySem.W.nsIn K mainGlobals "_law_all_pairs" = some (some (.ref f28))) (l28 : K.lookup f28 = some ⟨oc28, od28, .func (PySem.W.fnOf "_law_all_pairs" "_law_all_pairs" (defArgs s_l_all_pairs) (defBody s_l_all_pairs) (defScope s_l_all_pairs) .none kV28 dc28 pm28 an28 cd28 ct28), sl28⟩) (c28 : PySem.W.codeIn K cd28 "_law_all_pairs" = true) (k28 : PySem.W.keepIn K (.ref f28) = true)
    (a29 : PySem.W.nsIn K mainGlobals "_law_call" = some (some (.ref f29))) (l29 : K.lookup f29 = some ⟨oc29, od29, .func (PySem.W.fnOf "_law_call" "_law_call" (defArgs s_l_call) (defBody s_l_call) (defScope s_l_call) .none kV29 dc29 pm29 an29 cd29 ct29), sl29⟩) (c29 : PySem.W.codeIn K cd29 "_law_call" = true) (k29 : PySem.W.keepIn K (.ref f29) = true)
    (a30 : PySem.W.nsIn K mainGlobals "_law_refused" = some (some (.ref f30))) (l30 : K.lookup f30 = some ⟨oc30, od30, .func (PySem.W.fnOf "_law_refused" "_law_refused" (defArgs s_l_refused) (defBody s_l_refused) (defScope s_l_refused) .none kV30 dc30 pm30 an30 cd30 ct30), sl30⟩) (c30 : PySem.W.codeIn K cd30 "_law_refused" = true) (k30 : PySem.W.keepIn K (.ref f30) = true)
    (a31 : PySem.W.nsIn K mainGlobals "_law_counts" = some (some (.ref f31))) (l31 : K.lookup f31 = some ⟨oc31, od31, .func (PySem.W.fnOf "_law_counts" "_law_counts" (defArgs s_l_counts) (defBody s_l_counts) (defScope s_l_counts) .none kV31 dc31 pm31 an31 cd31 ct31), sl31⟩) (c31 : PySem.W.codeIn K cd31 "_law_counts" = true) (k31 : PySem.W.keepIn K (.ref f31) = true)
    (a32 : PySem.W.nsIn K mainGlobals "_law_made" = some (some (.ref f32))) (l32 : K.lookup f32 = some ⟨oc32, od32, .func (PySem.W.fnOf "_law_made" "_law_made" (defArgs s_l_made) (defBody s_l_made) (defScope s_l_made) .none kV32 dc32 pm32 an32 cd32 ct32), sl32⟩) (c32 : PySem.W.codeIn K cd32 "_law_made" = true) (k32 : PySem.W.keepIn K (.ref f32) = true)
    (a33 : PySem.W.nsIn K mainGlobals "law" = some (some (.ref f33))) (l33 : K.lookup f33 = some ⟨oc33, od33, .func (PySem.W.fnOf "law" "law" (defArgs s_law) (defBody s_law) (defScope s_law) .none kV33 dc33 pm33 an33 cd33 ct33), sl33⟩) (c33 : PySem.W.codeIn K cd33 "law" = true) (k33 : PySem.W.keepIn K (.ref f33) = true)
    (z0 : PySem.W.nsIn K mainGlobals "ValueError" = some none) (z1 : PySem.W.nsIn K mainGlobals "all" = some none) (z2 : PySem.W.nsIn K mainGlobals "bool" = some none) (z3 : PySem.W.nsIn K mainGlobals "int" = some none) (z4 : PySem.W.nsIn K mainGlobals "isinstance" = some none) (z5 : PySem.W.nsIn K mainGlobals "len" = some none) (z6 : PySem.W.nsIn K mainGlobals "list" = some none) (z7 : PySem.W.nsIn K mainGlobals "max" = some none) (z8 : PySem.W.nsIn K mainGlobals "min" = some none) (z9 : PySem.W.nsIn K mainGlobals "range" = some none) (z10 : PySem.W.nsIn K mainGlobals "reversed" = some none) (z11 : PySem.W.nsIn K mainGlobals "tuple" = some none) (y0 : PySem.W.nsIn K mainGlobals "MOST_BOXES" = some (some (.int 64 t0))) (y1 : PySem.W.nsIn K mainGlobals "MOST_ROWS" = some (some (.int 600 t1)))
    (gc0 : PySem.W.nsIn K mainGlobals "PartError" = some (some (.ref C0)))
    (bc0 : PySem.W.subIn K (.ref C0) (.type "BaseException") = some true)
    (tc0 : PySem.W.typeIn K (.ref C0) = some (.type "type"))
    (hd0 : PySem.W.hasDictIn K C0 = true)
    (sb0_0 : PySem.W.subIn K (.ref C0) (.ref C0) = some true)
    (gc1 : PySem.W.nsIn K mainGlobals "TooFew" = some (some (.ref C1)))
    (kc1 : PySem.W.keepIn K (.ref C1) = true)
    (xc1 : PySem.W.excIn K C1 [.type "ValueError", .type "Exception", .type "BaseException", .type "object"] "ValueError.__new__" = true)
    (bc1 : PySem.W.subIn K (.ref C1) (.type "BaseException") = some true)
    (tc1 : PySem.W.typeIn K (.ref C1) = some (.type "type"))
    (hd1 : PySem.W.hasDictIn K C1 = true)
    (sb1_0 : PySem.W.subIn K (.ref C1) (.ref C0) = some true)
    (hg1 : PySem.W.findIn K (.ref C1) "__getattribute__" = some (some (.builtin "BaseException.__getattribute__")))
    (hk1 : PySem.W.findIn K (.ref C1) "__getattr__" = some none)
    (ha1 : PySem.W.findIn K (.ref C1) "__class__" = some (some (.builtin "object.__class__")))
    (hm1 : PySem.W.mroIn K C1 (.type "object") = some true)
    (sb1_1 : PySem.W.subIn K (.ref C1) (.ref C1) = some true)
    (sb1_2 : PySem.W.subIn K (.ref C1) (.ref C2) = some false)
    (ne1_2 : (Value.ref C1 == Value.ref C2) = false)
    (sb1_3 : PySem.W.subIn K (.ref C1) (.ref C3) = some false)
    (ne1_3 : (Value.ref C1 == Value.ref C3) = false)
    (sb1_4 : PySem.W.subIn K (.ref C1) (.ref C4) = some false)
    (ne1_4 : (Value.ref C1 == Value.ref C4) = false)
    (sb1_5 : PySem.W.subIn K (.ref C1) (.ref C5) = some false)
    (ne1_5 : (Value.ref C1 == Value.ref C5) = false)
    (sb1_6 : PySem.W.subIn K (.ref C1) (.ref C6) = some false)
    (ne1_6 : (Value.ref C1 == Value.ref C6) = false)
    (v1 : PySem.W.subIn K (.ref C1) (.type "ValueError") = some true)
    (gc2 : PySem.W.nsIn K mainGlobals "TooMany" = some (some (.ref C2)))
    (kc2 : PySem.W.keepIn K (.ref C2) = true)
    (xc2 : PySem.W.excIn K C2 [.type "ValueError", .type "Exception", .type "BaseException", .type "object"] "ValueError.__new__" = true)
    (bc2 : PySem.W.subIn K (.ref C2) (.type "BaseException") = some true)
    (tc2 : PySem.W.typeIn K (.ref C2) = some (.type "type"))
    (hd2 : PySem.W.hasDictIn K C2 = true)
    (sb2_0 : PySem.W.subIn K (.ref C2) (.ref C0) = some true)
    (hg2 : PySem.W.findIn K (.ref C2) "__getattribute__" = some (some (.builtin "BaseException.__getattribute__")))
    (hk2 : PySem.W.findIn K (.ref C2) "__getattr__" = some none)
    (ha2 : PySem.W.findIn K (.ref C2) "__class__" = some (some (.builtin "object.__class__")))
    (hm2 : PySem.W.mroIn K C2 (.type "object") = some true)
    (sb2_1 : PySem.W.subIn K (.ref C2) (.ref C1) = some false)
    (ne2_1 : (Value.ref C2 == Value.ref C1) = false)
    (sb2_2 : PySem.W.subIn K (.ref C2) (.ref C2) = some true)
    (sb2_3 : PySem.W.subIn K (.ref C2) (.ref C3) = some false)
    (ne2_3 : (Value.ref C2 == Value.ref C3) = false)
    (sb2_4 : PySem.W.subIn K (.ref C2) (.ref C4) = some false)
    (ne2_4 : (Value.ref C2 == Value.ref C4) = false)
    (sb2_5 : PySem.W.subIn K (.ref C2) (.ref C5) = some false)
    (ne2_5 : (Value.ref C2 == Value.ref C5) = false)
    (sb2_6 : PySem.W.subIn K (.ref C2) (.ref C6) = some false)
    (ne2_6 : (Value.ref C2 == Value.ref C6) = false)
    (v2 : PySem.W.subIn K (.ref C2) (.type "ValueError") = some true)
    (gc3 : PySem.W.nsIn K mainGlobals "NoPrime" = some (some (.ref C3)))
    (kc3 : PySem.W.keepIn K (.ref C3) = true)
    (xc3 : PySem.W.excIn K C3 [.type "ValueError", .type "Exception", .type "BaseException", .type "object"] "ValueError.__new__" = true)
    (bc3 : PySem.W.subIn K (.ref C3) (.type "BaseException") = some true)
    (tc3 : PySem.W.typeIn K (.ref C3) = some (.type "type"))
    (hd3 : PySem.W.hasDictIn K C3 = true)
    (sb3_0 : PySem.W.subIn K (.ref C3) (.ref C0) = some true)
    (hg3 : PySem.W.findIn K (.ref C3) "__getattribute__" = some (some (.builtin "BaseException.__getattribute__")))
    (hk3 : PySem.W.findIn K (.ref C3) "__getattr__" = some none)
    (ha3 : PySem.W.findIn K (.ref C3) "__class__" = some (some (.builtin "object.__class__")))
    (hm3 : PySem.W.mroIn K C3 (.type "object") = some true)
    (sb3_1 : PySem.W.subIn K (.ref C3) (.ref C1) = some false)
    (ne3_1 : (Value.ref C3 == Value.ref C1) = false)
    (sb3_2 : PySem.W.subIn K (.ref C3) (.ref C2) = some false)
    (ne3_2 : (Value.ref C3 == Value.ref C2) = false)
    (sb3_3 : PySem.W.subIn K (.ref C3) (.ref C3) = some true)
    (sb3_4 : PySem.W.subIn K (.ref C3) (.ref C4) = some false)
    (ne3_4 : (Value.ref C3 == Value.ref C4) = false)
    (sb3_5 : PySem.W.subIn K (.ref C3) (.ref C5) = some false)
    (ne3_5 : (Value.ref C3 == Value.ref C5) = false)
    (sb3_6 : PySem.W.subIn K (.ref C3) (.ref C6) = some false)
    (ne3_6 : (Value.ref C3 == Value.ref C6) = false)
    (v3 : PySem.W.subIn K (.ref C3) (.type "ValueError") = some true)
    (gc4 : PySem.W.nsIn K mainGlobals "NoThing" = some (some (.ref C4)))
    (kc4 : PySem.W.keepIn K (.ref C4) = true)
    (xc4 : PySem.W.excIn K C4 [.type "ValueError", .type "Exception", .type "BaseException", .type "object"] "ValueError.__new__" = true)
    (bc4 : PySem.W.subIn K (.ref C4) (.type "BaseException") = some true)
    (tc4 : PySem.W.typeIn K (.ref C4) = some (.type "type"))
    (hd4 : PySem.W.hasDictIn K C4 = true)
    (sb4_0 : PySem.W.subIn K (.ref C4) (.ref C0) = some true)
    (hg4 : PySem.W.findIn K (.ref C4) "__getattribute__" = some (some (.builtin "BaseException.__getattribute__")))
    (hk4 : PySem.W.findIn K (.ref C4) "__getattr__" = some none)
    (ha4 : PySem.W.findIn K (.ref C4) "__class__" = some (some (.builtin "object.__class__")))
    (hm4 : PySem.W.mroIn K C4 (.type "object") = some true)
    (sb4_1 : PySem.W.subIn K (.ref C4) (.ref C1) = some false)
    (ne4_1 : (Value.ref C4 == Value.ref C1) = false)
    (sb4_2 : PySem.W.subIn K (.ref C4) (.ref C2) = some false)
    (ne4_2 : (Value.ref C4 == Value.ref C2) = false)
    (sb4_3 : PySem.W.subIn K (.ref C4) (.ref C3) = some false)
    (ne4_3 : (Value.ref C4 == Value.ref C3) = false)
    (sb4_4 : PySem.W.subIn K (.ref C4) (.ref C4) = some true)
    (sb4_5 : PySem.W.subIn K (.ref C4) (.ref C5) = some false)
    (ne4_5 : (Value.ref C4 == Value.ref C5) = false)
    (sb4_6 : PySem.W.subIn K (.ref C4) (.ref C6) = some false)
    (ne4_6 : (Value.ref C4 == Value.ref C6) = false)
    (v4 : PySem.W.subIn K (.ref C4) (.type "ValueError") = some true)
    (gc5 : PySem.W.nsIn K mainGlobals "NoRow" = some (some (.ref C5)))
    (kc5 : PySem.W.keepIn K (.ref C5) = true)
    (bc5 : PySem.W.subIn K (.ref C5) (.type "BaseException") = some true)
    (tc5 : PySem.W.typeIn K (.ref C5) = some (.type "type"))
    (hd5 : PySem.W.hasDictIn K C5 = true)
    (sb5_0 : PySem.W.subIn K (.ref C5) (.ref C0) = some true)
    (hg5 : PySem.W.findIn K (.ref C5) "__getattribute__" = some (some (.builtin "BaseException.__getattribute__")))
    (hk5 : PySem.W.findIn K (.ref C5) "__getattr__" = some none)
    (ha5 : PySem.W.findIn K (.ref C5) "__class__" = some (some (.builtin "object.__class__")))
    (hm5 : PySem.W.mroIn K C5 (.type "object") = some true)
    (sb5_1 : PySem.W.subIn K (.ref C5) (.ref C1) = some false)
    (ne5_1 : (Value.ref C5 == Value.ref C1) = false)
    (sb5_2 : PySem.W.subIn K (.ref C5) (.ref C2) = some false)
    (ne5_2 : (Value.ref C5 == Value.ref C2) = false)
    (sb5_3 : PySem.W.subIn K (.ref C5) (.ref C3) = some false)
    (ne5_3 : (Value.ref C5 == Value.ref C3) = false)
    (sb5_4 : PySem.W.subIn K (.ref C5) (.ref C4) = some false)
    (ne5_4 : (Value.ref C5 == Value.ref C4) = false)
    (sb5_5 : PySem.W.subIn K (.ref C5) (.ref C5) = some true)
    (sb5_6 : PySem.W.subIn K (.ref C5) (.ref C6) = some false)
    (ne5_6 : (Value.ref C5 == Value.ref C6) = false)
    (v5 : PySem.W.subIn K (.ref C5) (.type "ValueError") = some true)
    (gc6 : PySem.W.nsIn K mainGlobals "NoText" = some (some (.ref C6)))
    (kc6 : PySem.W.keepIn K (.ref C6) = true)
    (bc6 : PySem.W.subIn K (.ref C6) (.type "BaseException") = some true)
    (tc6 : PySem.W.typeIn K (.ref C6) = some (.type "type"))
    (hd6 : PySem.W.hasDictIn K C6 = true)
    (sb6_0 : PySem.W.subIn K (.ref C6) (.ref C0) = some true)
    (hg6 : PySem.W.findIn K (.ref C6) "__getattribute__" = some (some (.builtin "BaseException.__getattribute__")))
    (hk6 : PySem.W.findIn K (.ref C6) "__getattr__" = some none)
    (ha6 : PySem.W.findIn K (.ref C6) "__class__" = some (some (.builtin "object.__class__")))
    (hm6 : PySem.W.mroIn K C6 (.type "object") = some true)
    (sb6_1 : PySem.W.subIn K (.ref C6) (.ref C1) = some false)
    (ne6_1 : (Value.ref C6 == Value.ref C1) = false)
    (sb6_2 : PySem.W.subIn K (.ref C6) (.ref C2) = some false)
    (ne6_2 : (Value.ref C6 == Value.ref C2) = false)
    (sb6_3 : PySem.W.subIn K (.ref C6) (.ref C3) = some false)
    (ne6_3 : (Value.ref C6 == Value.ref C3) = false)
    (sb6_4 : PySem.W.subIn K (.ref C6) (.ref C4) = some false)
    (ne6_4 : (Value.ref C6 == Value.ref C4) = false)
    (sb6_5 : PySem.W.subIn K (.ref C6) (.ref C5) = some false)
    (ne6_5 : (Value.ref C6 == Value.ref C5) = false)
    (sb6_6 : PySem.W.subIn K (.ref C6) (.ref C6) = some true)
    (v6 : PySem.W.subIn K (.ref C6) (.type "ValueError") = some true)
    (hn : PySem.W.specialIn K (.builtin "object.__class__") "__get__" = some (some (.builtin "getset_descriptor.__get__"))) (ht : PySem.W.takesIn K (.builtin "object.__class__") = some true) :
    ∃ (cl fns : List Addr) (fd : FuncData), (∀ (s : Shared) (v : Value), BindsTo s fd ⟨[v], []⟩ [("_law_script", v)]) ∧ ∀ base : Heap, K.In base → base.Ns mainGlobals mg → FnOk l.prog w K mg base (L2.CX l.prog w) 7 fa fd ["_law_script"] (spM (gT K cl fns) 1 (m_law tblL)) := by
  have e := hfa.symm.trans (PySem.W.mg_of X G a33)
  cases e
  have T : Txt K mg [C0, C1, C2, C3, C4, C5, C6] [f18] := ⟨PySem.W.mg_none_of X G z0,
    PySem.W.mg_none_of X G z1,
    PySem.W.mg_none_of X G z2,
    PySem.W.mg_none_of X G z3,
    PySem.W.mg_none_of X G z4,
    PySem.W.mg_none_of X G z5,
    PySem.W.mg_none_of X G z6,
    PySem.W.mg_none_of X G z7,
    PySem.W.mg_none_of X G z8,
    PySem.W.mg_none_of X G z9,
    PySem.W.mg_none_of X G z10,
    PySem.W.mg_none_of X G z11,
    ⟨_, PySem.W.mg_of X G y0⟩,
    ⟨_, PySem.W.mg_of X G y1⟩,
    ⟨_, PySem.W.mg_of X G a18, rfl⟩,
    ⟨_, PySem.W.mg_of X G gc3, rfl⟩,
    ⟨_, PySem.W.mg_of X G gc5, rfl⟩,
    ⟨_, PySem.W.mg_of X G gc6, rfl⟩,
    ⟨_, PySem.W.mg_of X G gc4, rfl⟩,
    ⟨_, PySem.W.mg_of X G gc1, rfl⟩,
    ⟨_, PySem.W.mg_of X G gc2, rfl⟩,
    ⟨_, rfl, PySem.W.mg_of X G gc3, kc3, xc3, bc3, tc3⟩,
    ⟨_, rfl, PySem.W.mg_of X G gc4, kc4, xc4, bc4, tc4⟩,
    ⟨_, rfl, PySem.W.mg_of X G gc1, kc1, xc1, bc1, tc1⟩,
    ⟨_, rfl, PySem.W.mg_of X G gc2, kc2, xc2, bc2, tc2⟩,
    ⟨_, PySem.W.mg_of X G gc0, fun c D h6 h => by
      have hc : c = 0 ∨ c = 1 ∨ c = 2 ∨ c = 3 ∨ c = 4 ∨ c = 5 ∨ c = 6 := by omega
      rcases hc with rfl | rfl | rfl | rfl | rfl | rfl | rfl <;> cases h
      · exact PySem.W.exm_ref bc0 hd0 tc0 sb0_0
      · exact PySem.W.exm_ref bc0 hd0 tc0 sb1_0
      · exact PySem.W.exm_ref bc0 hd0 tc0 sb2_0
      · exact PySem.W.exm_ref bc0 hd0 tc0 sb3_0
      · exact PySem.W.exm_ref bc0 hd0 tc0 sb4_0
      · exact PySem.W.exm_ref bc0 hd0 tc0 sb5_0
      · exact PySem.W.exm_ref bc0 hd0 tc0 sb6_0⟩,
    ⟨fun c C h1 h2 h => by
      have hc : c = 1 ∨ c = 2 ∨ c = 3 ∨ c = 4 ∨ c = 5 ∨ c = 6 := by omega
      rcases hc with rfl | rfl | rfl | rfl | rfl | rfl <;> cases h
      · exact ⟨hg1, hk1, bc1, hd1, ha1, hn, ht, hm1⟩
      · exact ⟨hg2, hk2, bc2, hd2, ha2, hn, ht, hm2⟩
      · exact ⟨hg3, hk3, bc3, hd3, ha3, hn, ht, hm3⟩
      · exact ⟨hg4, hk4, bc4, hd4, ha4, hn, ht, hm4⟩
      · exact ⟨hg5, hk5, bc5, hd5, ha5, hn, ht, hm5⟩
      · exact ⟨hg6, hk6, bc6, hd6, ha6, hn, ht, hm6⟩, fun c k C D h1 h2 h3 h h' => by
      have hc : c = 1 ∨ c = 2 ∨ c = 3 ∨ c = 4 ∨ c = 5 ∨ c = 6 := by omega
      have hk : k = 0 ∨ k = 1 ∨ k = 2 ∨ k = 3 ∨ k = 4 ∨ k = 5 ∨ k = 6 := by omega
      rcases hc with rfl | rfl | rfl | rfl | rfl | rfl <;> cases h <;> rcases hk with rfl | rfl | rfl | rfl | rfl | rfl | rfl <;> cases h'
      · exact kit_ref hd0 tc0 sb1_0 (.inl rfl)
      · exact kit_ref hd1 tc1 sb1_1 (.inl rfl)
      · exact kit_ref hd2 tc2 sb1_2 (.inr ne1_2)
      · exact kit_ref hd3 tc3 sb1_3 (.inr ne1_3)
      · exact kit_ref hd4 tc4 sb1_4 (.inr ne1_4)
      · exact kit_ref hd5 tc5 sb1_5 (.inr ne1_5)
      · exact kit_ref hd6 tc6 sb1_6 (.inr ne1_6)
      · exact kit_ref hd0 tc0 sb2_0 (.inl rfl)
      · exact kit_ref hd1 tc1 sb2_1 (.inr ne2_1)
      · exact kit_ref hd2 tc2 sb2_2 (.inl rfl)
      · exact kit_ref hd3 tc3 sb2_3 (.inr ne2_3)
      · exact kit_ref hd4 tc4 sb2_4 (.inr ne2_4)
      · exact kit_ref hd5 tc5 sb2_5 (.inr ne2_5)
      · exact kit_ref hd6 tc6 sb2_6 (.inr ne2_6)
      · exact kit_ref hd0 tc0 sb3_0 (.inl rfl)
      · exact kit_ref hd1 tc1 sb3_1 (.inr ne3_1)
      · exact kit_ref hd2 tc2 sb3_2 (.inr ne3_2)
      · exact kit_ref hd3 tc3 sb3_3 (.inl rfl)
      · exact kit_ref hd4 tc4 sb3_4 (.inr ne3_4)
      · exact kit_ref hd5 tc5 sb3_5 (.inr ne3_5)
      · exact kit_ref hd6 tc6 sb3_6 (.inr ne3_6)
      · exact kit_ref hd0 tc0 sb4_0 (.inl rfl)
      · exact kit_ref hd1 tc1 sb4_1 (.inr ne4_1)
      · exact kit_ref hd2 tc2 sb4_2 (.inr ne4_2)
      · exact kit_ref hd3 tc3 sb4_3 (.inr ne4_3)
      · exact kit_ref hd4 tc4 sb4_4 (.inl rfl)
      · exact kit_ref hd5 tc5 sb4_5 (.inr ne4_5)
      · exact kit_ref hd6 tc6 sb4_6 (.inr ne4_6)
      · exact kit_ref hd0 tc0 sb5_0 (.inl rfl)
      · exact kit_ref hd1 tc1 sb5_1 (.inr ne5_1)
      · exact kit_ref hd2 tc2 sb5_2 (.inr ne5_2)
      · exact kit_ref hd3 tc3 sb5_3 (.inr ne5_3)
      · exact kit_ref hd4 tc4 sb5_4 (.inr ne5_4)
      · exact kit_ref hd5 tc5 sb5_5 (.inl rfl)
      · exact kit_ref hd6 tc6 sb5_6 (.inr ne5_6)
      · exact kit_ref hd0 tc0 sb6_0 (.inl rfl)
      · exact kit_ref hd1 tc1 sb6_1 (.inr ne6_1)
      · exact kit_ref hd2 tc2 sb6_2 (.inr ne6_2)
      · exact kit_ref hd3 tc3 sb6_3 (.inr ne6_3)
      · exact kit_ref hd4 tc4 sb6_4 (.inr ne6_4)
      · exact kit_ref hd5 tc5 sb6_5 (.inr ne6_5)
      · exact kit_ref hd6 tc6 sb6_6 (.inl rfl), fun c C h1 h2 h => by
      have hc : c = 1 ∨ c = 2 ∨ c = 3 ∨ c = 4 ∨ c = 5 ∨ c = 6 := by omega
      rcases hc with rfl | rfl | rfl | rfl | rfl | rfl <;> cases h
      · exact kit_val v1
      · exact kit_val v2
      · exact kit_val v3
      · exact kit_val v4
      · exact kit_val v5
      · exact kit_val v6⟩⟩
  have F0 := fun_mk (st := s_common) l0 c0 k0
  have B0 := F0.binds (ps := ["one", "other"]) fun _ _ _ _ _ _ us hl => match us, hl with | [_, _], _ => rfl
  have F1 := fun_mk (st := s_part_of) l1 c1 k1
  have B1 := F1.binds (ps := ["top", "bottom"]) fun _ _ _ _ _ _ us hl => match us, hl with | [_, _], _ => rfl
  have F2 := fun_mk (st := s_is_whole) l2 c2 k2
  have B2 := F2.binds (ps := ["thing"]) fun _ _ _ _ _ _ us hl => match us, hl with | [_], _ => rfl
  have F3 := fun_mk (st := s_is_prime) l3 c3 k3
  have B3 := F3.binds (ps := ["number"]) fun _ _ _ _ _ _ us hl => match us, hl with | [_], _ => rfl
  have F4 := fun_mk (st := s_choose) l4 c4 k4
  have B4 := F4.binds (ps := ["many", "some"]) fun _ _ _ _ _ _ us hl => match us, hl with | [_, _], _ => rfl
  have F5 := fun_mk (st := s_things_of) l5 c5 k5
  have B5 := F5.binds (ps := ["book"]) fun _ _ _ _ _ _ us hl => match us, hl with | [_], _ => rfl
  have F6 := fun_mk (st := s_need_things) l6 c6 k6
  have B6 := F6.binds (ps := ["book", "some"]) fun _ _ _ _ _ _ us hl => match us, hl with | [_, _], _ => rfl
  have F7 := fun_mk (st := s_need_pairs) l7 c7 k7
  have B7 := F7.binds (ps := ["book"]) fun _ _ _ _ _ _ us hl => match us, hl with | [_], _ => rfl
  have F8 := fun_mk (st := s_meets) l8 c8 k8
  have B8 := F8.binds (ps := ["book", "x", "y"]) fun _ _ _ _ _ _ us hl => match us, hl with | [_, _, _], _ => rfl
  have F9 := fun_mk (st := s_pairs_of) l9 c9 k9
  have B9 := F9.binds (ps := ["many"]) fun _ _ _ _ _ _ us hl => match us, hl with | [_], _ => rfl
  have F10 := fun_mk (st := s_worst_pairs) l10 c10 k10
  have B10 := F10.binds (ps := ["book"]) fun _ _ _ _ _ _ us hl => match us, hl with | [_], _ => rfl
  have F11 := fun_mk (st := s_need_prime) l11 c11 k11
  have B11 := F11.binds (ps := ["p"]) fun _ _ _ _ _ _ us hl => match us, hl with | [_], _ => rfl
  have F12 := fun_mk (st := s_need_room) l12 c12 k12
  have B12 := F12.binds (ps := ["many"]) fun _ _ _ _ _ _ us hl => match us, hl with | [_], _ => rfl
  have F13 := fun_mk (st := s_worth_at) l13 c13 k13
  have B13 := F13.binds (ps := ["sums", "x", "p"]) fun _ _ _ _ _ _ us hl => match us, hl with | [_, _, _], _ => rfl
  have F14 := fun_mk (st := s_rows_of_numbers) l14 c14 k14
  have B14 := F14.binds (ps := ["many", "p"]) fun _ _ _ _ _ _ us hl => match us, hl with | [_, _], _ => rfl
  have F15 := fun_mk (st := s_by_sums) l15 c15 k15
  have B15 := F15.binds (ps := ["p", "t", "u"]) fun _ _ _ _ _ _ us hl => match us, hl with | [_, _, _], _ => rfl
  have F16 := fun_mk (st := s_least_together) l16 c16 k16
  have B16 := F16.binds (ps := ["u", "m"]) fun _ _ _ _ _ _ us hl => match us, hl with | [_, _], _ => rfl
  have F17 := fun_mk (st := s_least_share) l17 c17 k17
  have B17 := F17.binds (ps := ["u", "m"]) fun _ _ _ _ _ _ us hl => match us, hl with | [_, _], _ => rfl
  have F18 := fun_mk (st := s_is_best) l18 c18 k18
  have B18 := F18.binds (ps := ["book"]) fun _ _ _ _ _ _ us hl => match us, hl with | [_], _ => rfl
  have F19 := fun_mk (st := s_by_planes) l19 c19 k19
  have B19 := F19.binds (ps := ["q"]) fun _ _ _ _ _ _ us hl => match us, hl with | [_], _ => rfl
  have F20 := fun_mk (st := s_digits_of) l20 c20 k20
  have B20 := F20.binds (ps := ["number", "m", "many"]) fun _ _ _ _ _ _ us hl => match us, hl with | [_, _, _], _ => rfl
  have F21 := fun_mk (st := s_by_digits) l21 c21 k21
  have B21 := F21.binds (ps := ["u", "m"]) fun _ _ _ _ _ _ us hl => match us, hl with | [_, _], _ => rfl
  have F22 := fun_mk (st := s_by_points) l22 c22 k22
  have B22 := F22.binds (ps := ["p", "t", "n", "u"]) fun _ _ _ _ _ _ us hl => match us, hl with | [_, _, _, _], _ => rfl
  have F23 := fun_mk (st := s_l_bag) l23 c23 k23
  have B23 := F23.binds (ps := ["_law_script"]) fun _ _ _ _ _ _ us hl => match us, hl with | [_], _ => rfl
  have F24 := fun_mk (st := s_l_pull) l24 c24 k24
  have B24 := F24.binds (ps := ["_law_bag_here", "_law_many"]) fun _ _ _ _ _ _ us hl => match us, hl with | [_, _], _ => rfl
  have F25 := fun_mk (st := s_l_row) l25 c25 k25
  have B25 := F25.binds (ps := ["_law_bag_here", "_law_m", "_law_u", "_law_way"]) fun _ _ _ _ _ _ us hl => match us, hl with | [_, _, _, _], _ => rfl
  have F26 := fun_mk (st := s_l_book) l26 c26 k26
  have B26 := F26.binds (ps := ["_law_bag_here", "_law_boxes", "_law_things", "_law_rows"]) fun _ _ _ _ _ _ us hl => match us, hl with | [_, _, _, _], _ => rfl
  have F27 := fun_mk (st := s_l_all_rows) l27 c27 k27
  have B27 := F27.binds (ps := ["_law_u", "_law_m"]) fun _ _ _ _ _ _ us hl => match us, hl with | [_, _], _ => rfl
  have F28 := fun_mk (st := s_l_all_pairs) l28 c28 k28
  have B28 := F28.binds (ps := ["_law_u"]) fun _ _ _ _ _ _ us hl => match us, hl with | [_], _ => rfl
  have F29 := fun_mk (st := s_l_call) l29 c29 k29
  have B29 := F29.binds (ps := ["_law_act", "_law_some"]) fun _ _ _ _ _ _ us hl => match us, hl with | [_, _], _ => rfl
  have F30 := fun_mk (st := s_l_refused) l30 c30 k30
  have B30 := F30.binds (ps := ["_law_act", "_law_some"]) fun _ _ _ _ _ _ us hl => match us, hl with | [_, _], _ => rfl
  have F31 := fun_mk (st := s_l_counts) l31 c31 k31
  have B31 := F31.binds (ps := ["_law_row_here", "_law_m"]) fun _ _ _ _ _ _ us hl => match us, hl with | [_, _], _ => rfl
  have F32 := fun_mk (st := s_l_made) l32 c32 k32
  have B32 := F32.binds (ps := ["_law_bag_here"]) fun _ _ _ _ _ _ us hl => match us, hl with | [_], _ => rfl
  have F33 := fun_mk (st := s_law) l33 c33 k33
  refine ⟨[C0, C1, C2, C3, C4, C5, C6], [f18], PySem.W.fnOf "law" "law" (defArgs s_law) (defBody s_law) (defScope s_law) .none kV33 dc33 pm33 an33 cd33 ct33, fun s v => .of_eq rfl, fun base _ _ => ?_⟩
  have E0 := ok_common (P := l.prog) (w := w) (base := base) T F0 (PySem.W.mg_of X G a0) B0 
  have E1 := ok_part_of (P := l.prog) (w := w) (base := base) T F1 (PySem.W.mg_of X G a1) B1 E0
  have E2 := ok_is_whole (P := l.prog) (w := w) (base := base) T F2 (PySem.W.mg_of X G a2) B2 
  have E3 := ok_is_prime (P := l.prog) (w := w) (base := base) T F3 (PySem.W.mg_of X G a3) B3 
  have E4 := ok_choose (P := l.prog) (w := w) (base := base) T F4 (PySem.W.mg_of X G a4) B4 
  have E5 := ok_things_of (P := l.prog) (w := w) (base := base) T F5 (PySem.W.mg_of X G a5) B5 
  have E6 := ok_need_things (P := l.prog) (w := w) (base := base) T F6 (PySem.W.mg_of X G a6) B6 E2 E5
  have E7 := ok_need_pairs (P := l.prog) (w := w) (base := base) T F7 (PySem.W.mg_of X G a7) B7 E5
  have E8 := ok_meets (P := l.prog) (w := w) (base := base) T F8 (PySem.W.mg_of X G a8) B8 E6
  have E9 := ok_pairs_of (P := l.prog) (w := w) (base := base) T F9 (PySem.W.mg_of X G a9) B9 
  have E10 := ok_worst_pairs (P := l.prog) (w := w) (base := base) T F10 (PySem.W.mg_of X G a10) B10 E7 E5 E9 E8 E1
  have E11 := ok_need_prime (P := l.prog) (w := w) (base := base) T F11 (PySem.W.mg_of X G a11) B11 E3
  have E12 := ok_need_room (P := l.prog) (w := w) (base := base) T F12 (PySem.W.mg_of X G a12) B12 
  have E13 := ok_worth_at (P := l.prog) (w := w) (base := base) T F13 (PySem.W.mg_of X G a13) B13 
  have E14 := ok_rows_of_numbers (P := l.prog) (w := w) (base := base) T F14 (PySem.W.mg_of X G a14) B14 
  have E15 := ok_by_sums (P := l.prog) (w := w) (base := base) T F15 (PySem.W.mg_of X G a15) B15 E11 E12 E14 E13
  have E16 := ok_least_together (P := l.prog) (w := w) (base := base) T F16 (PySem.W.mg_of X G a16) B16 E4
  have E17 := ok_least_share (P := l.prog) (w := w) (base := base) T F17 (PySem.W.mg_of X G a17) B17 E16 E4 E1
  have E18 := ok_is_best (P := l.prog) (w := w) (base := base) T F18 (PySem.W.mg_of X G a18) B18 E7 E5 E17 E9 E8
  have E19 := ok_by_planes (P := l.prog) (w := w) (base := base) T F19 (PySem.W.mg_of X G a19) B19 E11
  have E20 := ok_digits_of (P := l.prog) (w := w) (base := base) T F20 (PySem.W.mg_of X G a20) B20 
  have E21 := ok_by_digits (P := l.prog) (w := w) (base := base) T F21 (PySem.W.mg_of X G a21) B21 E20
  have E22 := ok_by_points (P := l.prog) (w := w) (base := base) T F22 (PySem.W.mg_of X G a22) B22 E11 E20 E13
  have E23 := ok_l_bag (P := l.prog) (w := w) (base := base) T F23 (PySem.W.mg_of X G a23) B23 
  have E24 := ok_l_pull (P := l.prog) (w := w) (base := base) T F24 (PySem.W.mg_of X G a24) B24 
  have E25 := ok_l_row (P := l.prog) (w := w) (base := base) T F25 (PySem.W.mg_of X G a25) B25 E24
  have E26 := ok_l_book (P := l.prog) (w := w) (base := base) T F26 (PySem.W.mg_of X G a26) B26 E24 E25
  have E27 := ok_l_all_rows (P := l.prog) (w := w) (base := base) T F27 (PySem.W.mg_of X G a27) B27 
  have E28 := ok_l_all_pairs (P := l.prog) (w := w) (base := base) T F28 (PySem.W.mg_of X G a28) B28 
  have TB : TblF (gT K [C0, C1, C2, C3, C4, C5, C6] [f18]) l.prog w K mg base 4 tblL := fun n f h => by
    have hn : n < 1 := (List.getElem?_eq_some_iff.mp h).1
    have hn : n = 0 := by omega
    rcases hn with rfl <;> cases h
    · exact ⟨_, _, Cal.mono E18 (by decide), PySem.W.mg_of X G a18, fun rs S z => if_neg z⟩
  have E29 := ok_l_call (P := l.prog) (w := w) (base := base) T F29 (PySem.W.mg_of X G a29) B29 TB 
  have E30 := ok_l_refused (P := l.prog) (w := w) (base := base) T F30 (PySem.W.mg_of X G a30) B30 TB E29
  have E31 := ok_l_counts (P := l.prog) (w := w) (base := base) T F31 (PySem.W.mg_of X G a31) B31 
  have E32 := ok_l_made (P := l.prog) (w := w) (base := base) T F32 (PySem.W.mg_of X G a32) B32 E24 E19 E27 E31 E15 E21 E22 E26
  exact ok_law T F33 (PySem.W.mg_of X G a33) TB E23 E32 E30 E17 E28 E18 E10
end LK

namespace LK
open PySem PySem.Spec L2 DM LM
local macro_rules | `(tactic| walk_at "w") => `(tactic| simp only [QV_v, QV_own, QV_bor, QI_d, QI_l, QO_d, QO_l, QO_ite, QO_A, QA_s, w_C, w_var, kA2_e, kB2_dd, kB2_ld, kB2_dl, kB2_ll, w_op2, kA1_d, w_op1, kArg_e, kArg2_d, kArg2_l, w_args0, w_args, kOpN_e, w_opN, kIt_e, kIt2_e, kIt3_e, w_items0, w_items, kTup_e, kLst_e, w_tup, w_lst, kB_e, w_bOf, kAnd_t, kAnd_f, kOr_t, kOr_f, kNot_e, w_bAnd, w_bOr, w_bNot, w_bYes, kEAnd_t, kEAnd_f, kEOr_t, kEOr_f, kENot_e, w_eAnd, w_eOr, w_eNot, kEIf_t, kEIf_f, w_eIf, kCall_e, w_call, okR_d, okR_l, okR_ex, kPart2_e, w_part0, w_part, kSl3_d, kSl3_l, kSl2_e, kSl_e, w_sl, kCh_e, kCh1_e, kCh2_t, kCh2_f, w_chain, seq_nx, seq_rt, seq_bk, seq_ct, seq_ex, kX_e, w_seq, w_nop, w_brk, w_cnt, kIf_t, kIf_f, w_if, kRet_d, kRet_l, w_ret, w_retN, QRV_v, QRV_own, w_retV, kDrop_e, w_drop, kSet_d, kSet_l, w_set, kSetS_d, kSetS_l, w_setS, QMv_e, w_move, QG_e, tg_name, tg_tup, tg_tup1, tg_tup2, tg_tup3, tg_tup4, tg_nil, tg_cons, ob_some, kAsg_d, w_asg, kPar_e, w_par, kSixN_e, kSixL_e, QSt_e, kSixO_e, kSixT_e, QSix_o, QSix_l, kSix_d, kSix_l, w_setix, kAppO_d, kAppO_l, QAppT_e, kAppT_d, kAppT_l, QApp_o, QApp_l, w_app, kExtO_l, QExt_o, QS_t, QS_l, QSL_e, QQ_b, QQ_v, w_qVar, kQE_l, kQE_d, w_qE, kQC_l, kQC_d, w_qC, kSeq_e, w_miSeq, kRev_e, w_miRev, kEnum_e, w_miEnum, kZip_e, kZip2_e, w_miZip, kR1_e, w_miRng1, kR2_e, kR3_e, rngD_len, rngD2_len, chk_t, chk_p, chk_s, isT_t, isT_p, isT_s, w_for, lp_nx, lp_rt, lp_bk, lp_ct, lp_ex, frzS_e, frzQ_o, frzQ_v, frzQ_b, frzQ_n, unfS_e, unfQ_o, unfQ_v, unfQ_b, unfQ_n, unf_nx, unf_rt, unf_bk, unf_ct, unf_ex, w_frz, w_comp, EnF_nx, EnF_d, EnF_l, EnF_ex, slot_d, slot_f, add_ii, add_ss, add_tt, add_ll, sub_ii, mul_ii, mul_li, div_ii, mod_ii, pow_ii, shl_ii, shr_ii, lt_ii, le_ii, gt_ii, ge_ii, neg_i, and_ii, or_ii, xor_ii, is_n, isnt_n, isNon_n, isNon_b, isNon_i, isNon_s, isNon_t, isNon_o, isNon_l, isNon_e, lstO_e, lstOf_l, lstOf_o, om_some, ix_t, ix_s, ix_l, ix_o, len_s, len_t, len_l, len_o, sum_l, all_l, any_l, max_ii, min_ii, max_l, min_l, tup_t, tup_l, tup_o, list_t, list_l, list_o, int_i, int_b, str_i, sl_t, sl_l, sl_s, eq_ii, ne_ii, eq_bb, ne_bb, isi_non_int, isi_non_bool, isi_non_str, isi_non_tuple, isi_non_list, isi_non_tl, isi_bl_int, isi_bl_bool, isi_bl_str, isi_bl_tuple, isi_bl_list, isi_bl_tl, isi_int_int, isi_int_bool, isi_int_str, isi_int_tuple, isi_int_list, isi_int_tl, isi_str_int, isi_str_bool, isi_str_str, isi_str_tuple, isi_str_list, isi_str_tl, isi_tup_int, isi_tup_bool, isi_tup_str, isi_tup_tuple, isi_tup_list, isi_tup_tl, isi_l_int, isi_l_bool, isi_l_str, isi_l_tuple, isi_l_list, isi_l_tl, ixN_00, ixN_1, ixN_2, ixN_3, atI_0, atI_1, atI_2, atI_3, intsOf_map, blsOf_map, List.set_cons_zero, List.set_cons_succ, List.getElem?_cons_zero, List.getElem?_cons_succ, List.replicate_succ, List.replicate_zero, List.length_cons, List.length_nil, Nat.zero_add, Nat.add_zero, Nat.reduceAdd, Nat.reduceSub, Nat.reduceLT, Nat.reduceLeDiff, Option.some.injEq, true_and, and_true, List.map_cons, List.map_nil, decide_true, decide_false, Bool.not_true, Bool.not_false, wipeE, QO_gd, startE_1, startE_2, startE_3, startE_4, fb_nx, fl_nx, fl_ct, fl_bk, fl_rt, fl_ex, cut_nx, cut_rt, cut_bk, cut_ct, cut_ex, w_raise, tr_nx, tr_rt, tr_bk, tr_ct, tr_ex, w_try, QCL_e, w_callL, kMt2_e, kMt_l, kMt_s, kMt_o, w_mt, if_true, QXT_e, kExtT_l, kExtT_d, QExt2_o, QExt2_l, exo_e, w_ext2, w_rng2, w_rng3, isB_bb, isntB_bb, beq_self_eq_true, w_ins0, QIns_o, kInsO_d, w_revE, kRevE_l, w_miEnumA, kEnumA_e, w_popAt, kPop_e, kPop2_e, sorted_e, divmod_e, w_lenSet, kLenSet_l, kRevA_l, kRevA_t, kRevA_o, w_revA, kZipM_e, kZipM2_e, w_miZipM, kAppD_e, kAppD2_e, w_appD])
local macro_rules | `(tactic| simp! only [$ls,*]) => `(tactic| simp only [QV_v, QV_own, QV_bor, QI_d, QI_l, QO_d, QO_l, QO_ite, QO_A, QA_s, w_C, w_var, kA2_e, kB2_dd, kB2_ld, kB2_dl, kB2_ll, w_op2, kA1_d, w_op1, kArg_e, kArg2_d, kArg2_l, w_args0, w_args, kOpN_e, w_opN, kIt_e, kIt2_e, kIt3_e, w_items0, w_items, kTup_e, kLst_e, w_tup, w_lst, kB_e, w_bOf, kAnd_t, kAnd_f, kOr_t, kOr_f, kNot_e, w_bAnd, w_bOr, w_bNot, w_bYes, kEAnd_t, kEAnd_f, kEOr_t, kEOr_f, kENot_e, w_eAnd, w_eOr, w_eNot, kEIf_t, kEIf_f, w_eIf, kCall_e, w_call, okR_d, okR_l, okR_ex, kPart2_e, w_part0, w_part, kSl3_d, kSl3_l, kSl2_e, kSl_e, w_sl, kCh_e, kCh1_e, kCh2_t, kCh2_f, w_chain, seq_nx, seq_rt, seq_bk, seq_ct, seq_ex, kX_e, w_seq, w_nop, w_brk, w_cnt, kIf_t, kIf_f, w_if, kRet_d, kRet_l, w_ret, w_retN, QRV_v, QRV_own, w_retV, kDrop_e, w_drop, kSet_d, kSet_l, w_set, kSetS_d, kSetS_l, w_setS, QMv_e, w_move, QG_e, tg_name, tg_tup, tg_tup1, tg_tup2, tg_tup3, tg_tup4, tg_nil, tg_cons, ob_some, kAsg_d, w_asg, kPar_e, w_par, kSixN_e, kSixL_e, QSt_e, kSixO_e, kSixT_e, QSix_o, QSix_l, kSix_d, kSix_l, w_setix, kAppO_d, kAppO_l, QAppT_e, kAppT_d, kAppT_l, QApp_o, QApp_l, w_app, kExtO_l, QExt_o, QS_t, QS_l, QSL_e, QQ_b, QQ_v, w_qVar, kQE_l, kQE_d, w_qE, kQC_l, kQC_d, w_qC, kSeq_e, w_miSeq, kRev_e, w_miRev, kEnum_e, w_miEnum, kZip_e, kZip2_e, w_miZip, kR1_e, w_miRng1, kR2_e, kR3_e, rngD_len, rngD2_len, chk_t, chk_p, chk_s, isT_t, isT_p, isT_s, w_for, lp_nx, lp_rt, lp_bk, lp_ct, lp_ex, frzS_e, frzQ_o, frzQ_v, frzQ_b, frzQ_n, unfS_e, unfQ_o, unfQ_v, unfQ_b, unfQ_n, unf_nx, unf_rt, unf_bk, unf_ct, unf_ex, w_frz, w_comp, EnF_nx, EnF_d, EnF_l, EnF_ex, slot_d, slot_f, add_ii, add_ss, add_tt, add_ll, sub_ii, mul_ii, mul_li, div_ii, mod_ii, pow_ii, shl_ii, shr_ii, lt_ii, le_ii, gt_ii, ge_ii, neg_i, and_ii, or_ii, xor_ii, is_n, isnt_n, isNon_n, isNon_b, isNon_i, isNon_s, isNon_t, isNon_o, isNon_l, isNon_e, lstO_e, lstOf_l, lstOf_o, om_some, ix_t, ix_s, ix_l, ix_o, len_s, len_t, len_l, len_o, sum_l, all_l, any_l, max_ii, min_ii, max_l, min_l, tup_t, tup_l, tup_o, list_t, list_l, list_o, int_i, int_b, str_i, sl_t, sl_l, sl_s, eq_ii, ne_ii, eq_bb, ne_bb, isi_non_int, isi_non_bool, isi_non_str, isi_non_tuple, isi_non_list, isi_non_tl, isi_bl_int, isi_bl_bool, isi_bl_str, isi_bl_tuple, isi_bl_list, isi_bl_tl, isi_int_int, isi_int_bool, isi_int_str, isi_int_tuple, isi_int_list, isi_int_tl, isi_str_int, isi_str_bool, isi_str_str, isi_str_tuple, isi_str_list, isi_str_tl, isi_tup_int, isi_tup_bool, isi_tup_str, isi_tup_tuple, isi_tup_list, isi_tup_tl, isi_l_int, isi_l_bool, isi_l_str, isi_l_tuple, isi_l_list, isi_l_tl, ixN_00, ixN_1, ixN_2, ixN_3, atI_0, atI_1, atI_2, atI_3, intsOf_map, blsOf_map, List.set_cons_zero, List.set_cons_succ, List.getElem?_cons_zero, List.getElem?_cons_succ, List.replicate_succ, List.replicate_zero, List.length_cons, List.length_nil, Nat.zero_add, Nat.add_zero, Nat.reduceAdd, Nat.reduceSub, Nat.reduceLT, Nat.reduceLeDiff, Option.some.injEq, true_and, and_true, List.map_cons, List.map_nil, decide_true, decide_false, Bool.not_true, Bool.not_false, wipeE, QO_gd, startE_1, startE_2, startE_3, startE_4, fb_nx, fl_nx, fl_ct, fl_bk, fl_rt, fl_ex, cut_nx, cut_rt, cut_bk, cut_ct, cut_ex, w_raise, tr_nx, tr_rt, tr_bk, tr_ct, tr_ex, w_try, QCL_e, w_callL, kMt2_e, kMt_l, kMt_s, kMt_o, w_mt, if_true, QXT_e, kExtT_l, kExtT_d, QExt2_o, QExt2_l, exo_e, w_ext2, w_rng2, w_rng3, isB_bb, isntB_bb, beq_self_eq_true, w_ins0, QIns_o, kInsO_d, w_revE, kRevE_l, w_miEnumA, kEnumA_e, w_popAt, kPop_e, kPop2_e, sorted_e, divmod_e, w_lenSet, kLenSet_l, kRevA_l, kRevA_t, kRevA_o, w_revA, kZipM_e, kZipM2_e, w_miZipM, kAppD_e, kAppD2_e, w_appD, $ls,*])
theorem all_rows_m : m_l_all_rows = m_outU bodyA := rfl
def cntL (r : List Int) (m : Nat) : List Int := (List.range m).map fun (j : Nat) => ((r.count (j : Int) : Nat) : Int)
theorem kCntT_r {me : ME} {es : DM.Env} {Q : RV → Store → Prop} {X : QX} {S : Store} {r : List Int} : kCntT me es Q X (.d (rowL r)) S = WR (me es S) (kCntT2 (r.map D.int) Q) X := kCntT_t
theorem counts_w {r : List Int} {m : Int} {S : Store} (m1 : 1 ≤ m) (m2 : m ≤ 100) : m_l_counts [.d (rowL r), .d (.int m)] S = .ok (.l true ((cntL r m.toNat).map .int)) S := by
  refine eq_of (fun_w ?_)
  unfold mb_l_counts
  simp! only [w_fld, w_sfld, kPutO_d, kPutO_l, w_meth, kMeth3_e, w_make, mk_e, WR_ok, w_appF, w_raiseA, kRaiseA_d, trA_nx, trA_rt, trA_ex, w_tryA, w_at, kAt_e, w_exc, kExc_e, w_excA, kExcA_d, w_miStr, kStr_e, tr_ex1, intA_str, intA_bl, intA_int, inG_s, atG_s, getG_s, w_cntT, kCntT_r, kCntT2_e]
  refine ⟨⟨by omega, by omega⟩, ?_⟩
  refine comp_all (l := List.range m.toNat) (F := fun (i : Nat) => D.int (i : Int)) (fun (i : Nat) => D.int ((r.count (i : Int) : Nat) : Int)) (le_line (by rw [List.length_range]; omega)) trivial (fun i a ha => ⟨_, rfl, ?_⟩) ?_
  · simp! only [w_fld, w_sfld, kPutO_d, kPutO_l, w_meth, kMeth3_e, w_make, mk_e, WR_ok, w_appF, w_raiseA, kRaiseA_d, trA_nx, trA_rt, trA_ex, w_tryA, w_at, kAt_e, w_exc, kExc_e, w_excA, kExcA_d, w_miStr, kStr_e, tr_ex1, intA_str, intA_bl, intA_int, inG_s, atG_s, getG_s, w_cntT, kCntT_r, kCntT2_e]
  · simp! only [w_fld, w_sfld, kPutO_d, kPutO_l, w_meth, kMeth3_e, w_make, mk_e, WR_ok, w_appF, w_raiseA, kRaiseA_d, trA_nx, trA_rt, trA_ex, w_tryA, w_at, kAt_e, w_exc, kExc_e, w_excA, kExcA_d, w_miStr, kStr_e, tr_ex1, intA_str, intA_bl, intA_int, inG_s, atG_s, getG_s]
    unfold cntL
    rw [List.map_map]
    rfl
theorem cnt_ne {r : List Int} {m : Int} (m1 : 1 ≤ m) : cntL r m.toNat ≠ [] := fun z => by
  have := congrArg List.length z
  unfold cntL at this
  rw [List.length_map, List.length_range] at this
  have this : m.toNat = 0 := this
  omega
abbrev P31 : List (Int × Int) := [(2, 1), (3, 2), (4, 2), (4, 3), (5, 2), (5, 3), (6, 2)]
def okMax (u m : Int) (r : List Int) : Bool := decide (maxI (cntL r m.toNat) ≤ (u + m - 1) / m)
def okMin (u m : Int) (r : List Int) : Bool := decide (u / m ≤ minI (cntL r m.toNat))
def goodR (u m : Int) : List (List Int) := ((unl m u.toNat).filter (okMax u m)).filter (okMin u m)
theorem good_all : ∀ q ∈ P31, 2 ≤ q.1 ∧ q.1 ≤ 6 ∧ 1 ≤ q.2 ∧ q.2 ≤ 3 ∧ goodR q.1 q.2 ≠ [] ∧ (unl q.2 q.1.toNat).length ≤ 60 := by decide +kernel
structure Md (m : Int) (u : Nat) (rows : List (List Int)) : Prop where
  ok : BookOk m u rows
  m1 : 1 ≤ m
  m64 : m ≤ 64
  u1 : 1 ≤ u
  u64 : u ≤ 64
  r1 : 1 ≤ rows.length
  r60 : rows.length ≤ 120
theorem good_md {u m : Int} (h : (u, m) ∈ P31) : Md m u.toNat (goodR u m) ∧ (goodR u m).length ≤ 60 := by
  obtain ⟨u2, u6, m1, m3, ne, ln⟩ := good_all _ h
  have l1 : (goodR u m).length ≤ 60 := Nat.le_trans (List.length_filter_le ..) (Nat.le_trans (List.length_filter_le ..) ln)
  have l0 := List.length_pos_iff.mpr ne
  dsimp only at *
  refine ⟨⟨⟨ne, fun r hr => ?_⟩, m1, by omega, by omega, by omega, l0, by omega⟩, l1⟩
  exact unl_mem m1 ((List.mem_filter.mp (List.mem_filter.mp hr).1).1)
theorem pickP {l : List (Int × Int)} {v : Int} (h0 : 0 ≤ v) (h : v < l.length) : ∃ q, atI (l.map fun (q : Int × Int) => D.tup [.int q.1, .int q.2]) v = some (.tup [.int q.1, .int q.2]) ∧ q ∈ l := by
  obtain ⟨a, e, m, _⟩ := atI_get h0 h
  exact ⟨a, by rw [atI_map, e]; rfl, m⟩
theorem Md.more {m : Int} {u : Nat} {rows rs : List (List Int)} (h : Md m u rows) (hr : ∀ r ∈ rs, r ∈ rows) (hl : rows.length + rs.length ≤ 120) : Md m u (rows ++ rs) :=
  ⟨⟨fun z => h.ok.ne (List.append_eq_nil_iff.mp z).1, fun r hq => (List.mem_append.mp hq).elim (h.ok.ok r) fun q => h.ok.ok r (hr r q)⟩, h.m1, h.m64, h.u1, h.u64, by rw [List.length_append]; have := h.r1; omega, by rw [List.length_append]; exact hl⟩
theorem Md.put {m : Int} {u : Nat} {rows : List (List Int)} {i x : Nat} {r : List Int} (h : Md m u rows) (hi : rows[i]? = some r) (hx : x < u) {v : Int} (v0 : 0 ≤ v) (vm : v < m) : Md m u (rows.take i ++ [r.take x ++ [v] ++ r.drop (x + 1)] ++ rows.drop (i + 1)) := by
  have hr := h.ok.ok r (List.mem_of_getElem? hi)
  have hil := (List.getElem?_eq_some_iff.mp hi).1
  have hl : (rows.take i ++ [r.take x ++ [v] ++ r.drop (x + 1)] ++ rows.drop (i + 1)).length = rows.length := by
    rw [List.length_append, List.length_append, List.length_take, List.length_drop]
    simp
    omega
  refine ⟨⟨fun z => ?_, fun q hq => ?_⟩, h.m1, h.m64, h.u1, h.u64, by rw [hl]; exact h.r1, by rw [hl]; exact h.r60⟩
  · rw [z] at hl
    have := h.r1
    simp at hl
    omega
  · rcases List.mem_append.mp hq with hq | hq
    · rcases List.mem_append.mp hq with hq | hq
      · exact h.ok.ok q (List.mem_of_mem_take hq)
      · cases List.mem_singleton.mp hq
        refine ⟨?_, fun y hy => ?_⟩
        · have := hr.1
          rw [List.length_append, List.length_append, List.length_take, List.length_drop]
          simp
          omega
        · rcases List.mem_append.mp hy with hy | hy
          · rcases List.mem_append.mp hy with hy | hy
            · exact hr.2 y (List.mem_of_mem_take hy)
            · cases List.mem_singleton.mp hy
              exact ⟨v0, vm⟩
          · exact hr.2 y (List.mem_of_mem_drop hy)
    · exact h.ok.ok q (List.mem_of_mem_drop hq)
theorem at_lstR {A : Type} {f : A → D} {xs : List A} {i : Int} {v : A} (h0 : 0 ≤ i) (hv : xs[i.toNat]? = some v) : atI (xs.map f) i = some (f v) := by
  have hl := (List.getElem?_eq_some_iff.mp hv).1
  have e := DM.atI_nat (l := xs.map f) (j := i.toNat) (by rw [List.length_map]; exact hl)
  rw [List.getElem?_map, hv, Int.toNat_of_nonneg h0] at e
  exact e
theorem plane_pick : ∀ q ∈ ([2, 3, 5, 7] : List Int), ∃ n : Nat, q = (n : Int) ∧ 2 ≤ n ∧ n ≤ 7 ∧ PrimeI q := fun q hq => by
  have hp := (primes_in (l := [2, 3, 5, 7]) (by decide +kernel) q hq).1
  have h2 := hp.1
  have h7 : q ≤ 7 := (show ∀ q ∈ ([2, 3, 5, 7] : List Int), q ≤ 7 by decide) q hq
  exact ⟨q.toNat, by omega, by omega, by omega, hp⟩
theorem made_w {S : Store} {b n : Nat} {Q : RV → Store → Prop} {X : QX} (hb : Bag S b n) (hn : n + 1000 < 10 ^ 9)
    (k : ∀ m u rows S', Md m u rows → Bag S' b (n + 300) → Q (.d (bookD m rows)) S') : WR (okR (m_l_made [.d (.loc b)] S)) Q X := by
  have p3 : PrimeI 3 := prime_of (by decide)
  have p5 : PrimeI 5 := prime_of (by decide)
  refine fun_w ?_
  unfold mb_l_made
  simp! only [w_fld, w_sfld, kPutO_d, kPutO_l, w_meth, kMeth3_e, w_make, mk_e, WR_ok, w_appF, w_raiseA, kRaiseA_d, trA_nx, trA_rt, trA_ex, w_tryA, w_at, kAt_e, w_exc, kExc_e, w_excA, kExcA_d, w_miStr, kStr_e, tr_ex1, intA_str, intA_bl, intA_int, inG_s, atG_s, getG_s]
  refine pull_w hb (by omega) (by omega) (by omega) fun way S1 w0 w7 b1 _ => ?_
  simp! only [w_fld, w_sfld, kPutO_d, kPutO_l, w_meth, kMeth3_e, w_make, mk_e, WR_ok, w_appF, w_raiseA, kRaiseA_d, trA_nx, trA_rt, trA_ex, w_tryA, w_at, kAt_e, w_exc, kExc_e, w_excA, kExcA_d, w_miStr, kStr_e, tr_ex1, intA_str, intA_bl, intA_int, inG_s, atG_s, getG_s]
  refine pull_w b1 (by omega) (by omega) (by omega) fun sp S2 sp0 sp4 b2 _ => ?_
  simp! only [w_fld, w_sfld, kPutO_d, kPutO_l, w_meth, kMeth3_e, w_make, mk_e, WR_ok, w_appF, w_raiseA, kRaiseA_d, trA_nx, trA_rt, trA_ex, w_tryA, w_at, kAt_e, w_exc, kExc_e, w_excA, kExcA_d, w_miStr, kStr_e, tr_ex1, intA_str, intA_bl, intA_int, inG_s, atG_s, getG_s]
  refine cut_seq (fun es T => ∃ m u rows s5 s6 s7, es = [.v (.loc b), .v (.int way), .v (.int sp), .v (.int m), .v (.tup (rows.map rowL)), s5, s6, s7, .no, .no, .no, .no] ∧ Md m u rows ∧ rows.length ≤ 60 ∧ Bag T b (n + 200)) ?_ (fun es T hI => ?_)
  · simp! only [w_fld, w_sfld, kPutO_d, kPutO_l, w_meth, kMeth3_e, w_make, mk_e, WR_ok, w_appF, w_raiseA, kRaiseA_d, trA_nx, trA_rt, trA_ex, w_tryA, w_at, kAt_e, w_exc, kExc_e, w_excA, kExcA_d, w_miStr, kStr_e, tr_ex1, intA_str, intA_bl, intA_int, inG_s, atG_s, getG_s]
    refine kIf_br (fun hc => ?_) (fun hc0 => ?_)
    · simp! only [w_fld, w_sfld, kPutO_d, kPutO_l, w_meth, kMeth3_e, w_make, mk_e, WR_ok, w_appF, w_raiseA, kRaiseA_d, trA_nx, trA_rt, trA_ex, w_tryA, w_at, kAt_e, w_exc, kExc_e, w_excA, kExcA_d, w_miStr, kStr_e, tr_ex1, intA_str, intA_bl, intA_int, inG_s, atG_s, getG_s]
      refine ⟨by decide, ?_⟩
      refine pull_w b2 (by omega) (by omega) (by omega) fun v S3 v0 v4 b3 _ => ?_
      obtain ⟨q, eq, hq⟩ := pickL (l := [2, 3, 5, 7]) v0 v4
      have eq : atI [D.int 2, D.int 3, D.int 5, D.int 7] v = some (.int q) := eq
      obtain ⟨N, eN, N2, N7, hp⟩ := plane_pick q hq
      have hnn : N * N ≤ 7 * 7 := Nat.mul_le_mul N7 N7
      have hnp : 2 * 2 ≤ N * N := Nat.mul_le_mul N2 N2
      have e := fun S => by_planes_w (S := S) (q := q) (n := N) hp eN (by omega)
      simp! only [w_fld, w_sfld, kPutO_d, kPutO_l, w_meth, kMeth3_e, w_make, mk_e, WR_ok, w_appF, w_raiseA, kRaiseA_d, trA_nx, trA_rt, trA_ex, w_tryA, w_at, kAt_e, w_exc, kExc_e, w_excA, kExcA_d, w_miStr, kStr_e, tr_ex1, intA_str, intA_bl, intA_int, inG_s, atG_s, getG_s, eq, e]
      have hok := planeR_ok (q := N) (by omega)
      rw [← eN] at hok
      have hl := planeR_len (q := N)
      exact ⟨q, N * N, planeR N, _, _, _, rfl, ⟨hok, by omega, by omega, by omega, by omega, by omega, by omega⟩, by omega, b3.mono (by omega)⟩
    simp! only [w_fld, w_sfld, kPutO_d, kPutO_l, w_meth, kMeth3_e, w_make, mk_e, WR_ok, w_appF, w_raiseA, kRaiseA_d, trA_nx, trA_rt, trA_ex, w_tryA, w_at, kAt_e, w_exc, kExc_e, w_excA, kExcA_d, w_miStr, kStr_e, tr_ex1, intA_str, intA_bl, intA_int, inG_s, atG_s, getG_s]
    refine kIf_br (fun hc => ?_) (fun hc1 => ?_)
    · simp! only [w_fld, w_sfld, kPutO_d, kPutO_l, w_meth, kMeth3_e, w_make, mk_e, WR_ok, w_appF, w_raiseA, kRaiseA_d, trA_nx, trA_rt, trA_ex, w_tryA, w_at, kAt_e, w_exc, kExc_e, w_excA, kExcA_d, w_miStr, kStr_e, tr_ex1, intA_str, intA_bl, intA_int, inG_s, atG_s, getG_s]
      refine ⟨by decide, by decide, by decide, by decide, by decide, by decide, by decide, by decide, ?_⟩
      refine pull_w b2 (by omega) (by omega) (by omega) fun v S3 v0 v4 b3 _ => ?_
      obtain ⟨⟨u, m⟩, eq, hq⟩ := pickP (l := P31) v0 v4
      have eq : atI [D.tup [.int 2, .int 1], D.tup [.int 3, .int 2], D.tup [.int 4, .int 2], D.tup [.int 4, .int 3], D.tup [.int 5, .int 2], D.tup [.int 5, .int 3], D.tup [.int 6, .int 2]] v = some (D.tup [.int u, .int m]) := eq
      obtain ⟨u2, u6, m1, m3, _, ln⟩ := good_all _ hq
      obtain ⟨hM, h60⟩ := good_md hq
      dsimp only at u2 u6 m1 m3 ln
      simp! only [w_fld, w_sfld, kPutO_d, kPutO_l, w_meth, kMeth3_e, w_make, mk_e, WR_ok, w_appF, w_raiseA, kRaiseA_d, trA_nx, trA_rt, trA_ex, w_tryA, w_at, kAt_e, w_exc, kExc_e, w_excA, kExcA_d, w_miStr, kStr_e, tr_ex1, intA_str, intA_bl, intA_int, inG_s, atG_s, getG_s, eq]
      rw [all_rows_m]
      have hm3 : m.toNat ≤ 3 := by omega
      have hlen : ∀ k, k < u.toNat → ∀ i, (((unl m k).take i).flatMap (unlR m)).length ≤ 100000 := fun k hk i => by
        have h1 := flat_le (f := unlR m) (c := m.toNat) (fun r => unlR_len (by omega) r) (F := (unl m k).take i)
        have h2 := unl_len (m := m) (by omega) k
        have h3 : m.toNat ^ k ≤ 3 ^ 5 := Nat.le_trans (Nat.pow_le_pow_left hm3 k) (Nat.pow_le_pow_right (by decide) (by omega))
        have h4 : ((unl m k).take i).length ≤ (unl m k).length := by rw [List.length_take]; omega
        have h5 : ((unl m k).take i).length * m.toNat ≤ 3 ^ 5 * 3 := Nat.mul_le_mul (by omega) hm3
        omega
      refine ⟨cdiv (by omega) (by omega), outU_w (t := u.toNat) (innerA m1 (by omega)) (by omega) m1 (by omega) (by omega) (by omega) hlen fun nn S4 e4 hnn en => ?_⟩
      have b4 := b3.ext e4
      simp! only [w_fld, w_sfld, kPutO_d, kPutO_l, w_meth, kMeth3_e, w_make, mk_e, WR_ok, w_appF, w_raiseA, kRaiseA_d, trA_nx, trA_rt, trA_ex, w_tryA, w_at, kAt_e, w_exc, kExc_e, w_excA, kExcA_d, w_miStr, kStr_e, tr_ex1, intA_str, intA_bl, intA_int, inG_s, atG_s, getG_s, en]
      refine comp_fil (l := unl m u.toNat) (F := rowL) (okMax u m) rowL (le_line (by omega)) en (fun i r hr => ⟨_, rfl, ?_, fun _ => ?_⟩) ?_
      · simp! only [w_fld, w_sfld, kPutO_d, kPutO_l, w_meth, kMeth3_e, w_make, mk_e, WR_ok, w_appF, w_raiseA, kRaiseA_d, trA_nx, trA_rt, trA_ex, w_tryA, w_at, kAt_e, w_exc, kExc_e, w_excA, kExcA_d, w_miStr, kStr_e, tr_ex1, intA_str, intA_bl, intA_int, inG_s, atG_s, getG_s]
        rw [counts_w m1 (by omega)]
        simp! only [w_fld, w_sfld, kPutO_d, kPutO_l, w_meth, kMeth3_e, w_make, mk_e, WR_ok, w_appF, w_raiseA, kRaiseA_d, trA_nx, trA_rt, trA_ex, w_tryA, w_at, kAt_e, w_exc, kExc_e, w_excA, kExcA_d, w_miStr, kStr_e, tr_ex1, intA_str, intA_bl, intA_int, inG_s, atG_s, getG_s]
        exact ⟨cnt_ne m1, rfl⟩
      · simp! only [w_fld, w_sfld, kPutO_d, kPutO_l, w_meth, kMeth3_e, w_make, mk_e, WR_ok, w_appF, w_raiseA, kRaiseA_d, trA_nx, trA_rt, trA_ex, w_tryA, w_at, kAt_e, w_exc, kExc_e, w_excA, kExcA_d, w_miStr, kStr_e, tr_ex1, intA_str, intA_bl, intA_int, inG_s, atG_s, getG_s]
      · obtain ⟨R1, hR1⟩ : ∃ R1, R1 = (unl m u.toNat).filter (okMax u m) := ⟨_, rfl⟩
        rw [← hR1]
        have l1 : R1.length ≤ 60 := by rw [hR1]; exact Nat.le_trans (List.length_filter_le ..) ln
        have b5 : Bag (S4 ++ [O.lst (R1.map rowL)]) b (n + 1 + 1 + 1) := b4.push _
        have e5 : (S4 ++ [O.lst (R1.map rowL)])[S4.length]? = some (.lst (R1.map rowL)) := st_new
        simp! only [w_fld, w_sfld, kPutO_d, kPutO_l, w_meth, kMeth3_e, w_make, mk_e, WR_ok, w_appF, w_raiseA, kRaiseA_d, trA_nx, trA_rt, trA_ex, w_tryA, w_at, kAt_e, w_exc, kExc_e, w_excA, kExcA_d, w_miStr, kStr_e, tr_ex1, intA_str, intA_bl, intA_int, inG_s, atG_s, getG_s, e5]
        generalize S4.length = z at e5 ⊢
        generalize (S4 ++ [O.lst (R1.map rowL)]) = S5 at b5 e5 ⊢
        refine comp_fil (l := R1) (F := rowL) (okMin u m) rowL (le_line (by omega)) e5 (fun i r hr => ⟨_, rfl, ?_, fun _ => ?_⟩) ?_
        · simp! only [w_fld, w_sfld, kPutO_d, kPutO_l, w_meth, kMeth3_e, w_make, mk_e, WR_ok, w_appF, w_raiseA, kRaiseA_d, trA_nx, trA_rt, trA_ex, w_tryA, w_at, kAt_e, w_exc, kExc_e, w_excA, kExcA_d, w_miStr, kStr_e, tr_ex1, intA_str, intA_bl, intA_int, inG_s, atG_s, getG_s]
          rw [counts_w m1 (by omega)]
          simp! only [w_fld, w_sfld, kPutO_d, kPutO_l, w_meth, kMeth3_e, w_make, mk_e, WR_ok, w_appF, w_raiseA, kRaiseA_d, trA_nx, trA_rt, trA_ex, w_tryA, w_at, kAt_e, w_exc, kExc_e, w_excA, kExcA_d, w_miStr, kStr_e, tr_ex1, intA_str, intA_bl, intA_int, inG_s, atG_s, getG_s]
          exact ⟨cnt_ne m1, cdiv (by omega) (by omega), rfl⟩
        · simp! only [w_fld, w_sfld, kPutO_d, kPutO_l, w_meth, kMeth3_e, w_make, mk_e, WR_ok, w_appF, w_raiseA, kRaiseA_d, trA_nx, trA_rt, trA_ex, w_tryA, w_at, kAt_e, w_exc, kExc_e, w_excA, kExcA_d, w_miStr, kStr_e, tr_ex1, intA_str, intA_bl, intA_int, inG_s, atG_s, getG_s]
        · have eg : R1.filter (okMin u m) = goodR u m := by rw [hR1]; rfl
          rw [eg]
          simp! only [w_fld, w_sfld, kPutO_d, kPutO_l, w_meth, kMeth3_e, w_make, mk_e, WR_ok, w_appF, w_raiseA, kRaiseA_d, trA_nx, trA_rt, trA_ex, w_tryA, w_at, kAt_e, w_exc, kExc_e, w_excA, kExcA_d, w_miStr, kStr_e, tr_ex1, intA_str, intA_bl, intA_int, inG_s, atG_s, getG_s]
          exact ⟨m, u.toNat, goodR u m, _, _, _, rfl, hM, h60, b5.mono (by omega)⟩
    simp! only [w_fld, w_sfld, kPutO_d, kPutO_l, w_meth, kMeth3_e, w_make, mk_e, WR_ok, w_appF, w_raiseA, kRaiseA_d, trA_nx, trA_rt, trA_ex, w_tryA, w_at, kAt_e, w_exc, kExc_e, w_excA, kExcA_d, w_miStr, kStr_e, tr_ex1, intA_str, intA_bl, intA_int, inG_s, atG_s, getG_s]
    refine kIf_br (fun hc => ?_) (fun hc2 => ?_)
    · simp! only [w_fld, w_sfld, kPutO_d, kPutO_l, w_meth, kMeth3_e, w_make, mk_e, WR_ok, w_appF, w_raiseA, kRaiseA_d, trA_nx, trA_rt, trA_ex, w_tryA, w_at, kAt_e, w_exc, kExc_e, w_excA, kExcA_d, w_miStr, kStr_e, tr_ex1, intA_str, intA_bl, intA_int, inG_s, atG_s, getG_s]
      refine pull_w b2 (by omega) (by omega) (by omega) fun v S3 v0 v4 b3 _ => ?_
      obtain ⟨U, hU⟩ : ∃ U : Nat, 2 + v = (U : Int) := ⟨(2 + v).toNat, by omega⟩
      have eR : ∀ S, tupRgF S [.d (.int (2 + v))] = some (.d (rowL ((List.range U).map fun (i : Nat) => (i : Int)))) := fun S => by
        rw [hU, tupRg_e (by omega) (by omega), Int.toNat_natCast]
        unfold rowL rngD
        rw [List.map_map]
        rfl
      simp! only [w_fld, w_sfld, kPutO_d, kPutO_l, w_meth, kMeth3_e, w_make, mk_e, WR_ok, w_appF, w_raiseA, kRaiseA_d, trA_nx, trA_rt, trA_ex, w_tryA, w_at, kAt_e, w_exc, kExc_e, w_excA, kExcA_d, w_miStr, kStr_e, tr_ex1, intA_str, intA_bl, intA_int, inG_s, atG_s, getG_s, eR]
      obtain ⟨r, hr⟩ : ∃ r, r = (List.range U).map fun (i : Nat) => (i : Int) := ⟨_, rfl⟩
      rw [← hr]
      have hok : BookOk (U : Int) U [r] := by
        refine ⟨by simp, fun q hq => ?_⟩
        cases List.mem_singleton.mp hq
        refine ⟨by rw [hr, List.length_map, List.length_range], fun x hx => ?_⟩
        rw [hr] at hx
        obtain ⟨y, hy, rfl⟩ := List.mem_map.mp hx
        have := List.mem_range.mp hy
        exact ⟨by omega, by omega⟩
      refine ⟨by decide, by decide, ?_⟩
      rw [hU]
      exact ⟨(U : Int), U, [r], _, _, _, rfl, ⟨hok, by omega, by omega, by omega, by omega, by simp, by simp⟩, by simp, b3.mono (by omega)⟩
    simp! only [w_fld, w_sfld, kPutO_d, kPutO_l, w_meth, kMeth3_e, w_make, mk_e, WR_ok, w_appF, w_raiseA, kRaiseA_d, trA_nx, trA_rt, trA_ex, w_tryA, w_at, kAt_e, w_exc, kExc_e, w_excA, kExcA_d, w_miStr, kStr_e, tr_ex1, intA_str, intA_bl, intA_int, inG_s, atG_s, getG_s]
    refine kIf_br (fun hc => ?_) (fun hc3 => ?_)
    · simp! only [w_fld, w_sfld, kPutO_d, kPutO_l, w_meth, kMeth3_e, w_make, mk_e, WR_ok, w_appF, w_raiseA, kRaiseA_d, trA_nx, trA_rt, trA_ex, w_tryA, w_at, kAt_e, w_exc, kExc_e, w_excA, kExcA_d, w_miStr, kStr_e, tr_ex1, intA_str, intA_bl, intA_int, inG_s, atG_s, getG_s]
      refine by_sums_w p3 (by decide) (by decide) (by decide) (by decide) (by decide) (by decide) fun S3 hE3 => ?_
      simp! only [w_fld, w_sfld, kPutO_d, kPutO_l, w_meth, kMeth3_e, w_make, mk_e, WR_ok, w_appF, w_raiseA, kRaiseA_d, trA_nx, trA_rt, trA_ex, w_tryA, w_at, kAt_e, w_exc, kExc_e, w_excA, kExcA_d, w_miStr, kStr_e, tr_ex1, intA_str, intA_bl, intA_int, inG_s, atG_s, getG_s]
      refine by_sums_w p5 (by decide) (by decide) (by decide) (by decide) (by decide) (by decide) fun S4 hE4 => ?_
      simp! only [w_fld, w_sfld, kPutO_d, kPutO_l, w_meth, kMeth3_e, w_make, mk_e, WR_ok, w_appF, w_raiseA, kRaiseA_d, trA_nx, trA_rt, trA_ex, w_tryA, w_at, kAt_e, w_exc, kExc_e, w_excA, kExcA_d, w_miStr, kStr_e, tr_ex1, intA_str, intA_bl, intA_int, inG_s, atG_s, getG_s]
      refine by_digits_w (by decide) (by decide) (by decide) (by decide) fun d1 hd1 => ?_
      simp! only [w_fld, w_sfld, kPutO_d, kPutO_l, w_meth, kMeth3_e, w_make, mk_e, WR_ok, w_appF, w_raiseA, kRaiseA_d, trA_nx, trA_rt, trA_ex, w_tryA, w_at, kAt_e, w_exc, kExc_e, w_excA, kExcA_d, w_miStr, kStr_e, tr_ex1, intA_str, intA_bl, intA_int, inG_s, atG_s, getG_s]
      refine by_digits_w (by decide) (by decide) (by decide) (by decide) fun d2 hd2 => ?_
      have e := fun S => by_points_w (S := S) (p := 5) (t := 2) (n := 4) (u := 20) p5 (by decide) (by decide) (by decide) (by decide) (by decide) (by decide) (by decide)
      simp! only [w_fld, w_sfld, kPutO_d, kPutO_l, w_meth, kMeth3_e, w_make, mk_e, WR_ok, w_appF, w_raiseA, kRaiseA_d, trA_nx, trA_rt, trA_ex, w_tryA, w_at, kAt_e, w_exc, kExc_e, w_excA, kExcA_d, w_miStr, kStr_e, tr_ex1, intA_str, intA_bl, intA_int, inG_s, atG_s, getG_s, e]
      refine ⟨by decide, ?_⟩
      have b4 := (b2.ext hE3).ext hE4
      refine pull_w b4 (by omega) (by omega) (by omega) fun v S5 v0 v4 b5 _ => ?_
      have e1 : (numsA (Int.toNat 3) (Int.toNat 2)).map (fun s => rowL (sumRow 3 (Int.toNat 3) s)) = (sumRows 3 2 3).map rowL := by unfold sumRows; rw [List.map_map]; rfl
      have e2 : (numsA (Int.toNat 5) (Int.toNat 2)).map (fun s => rowL (sumRow 5 (Int.toNat 5) s)) = (sumRows 5 2 5).map rowL := by unfold sumRows; rw [List.map_map]; rfl
      have h2 : (2 : Int) ^ 6 = 64 := by decide
      have h3 : (3 : Int) ^ 6 = 729 := by decide
      have l1 : d1 ≤ 6 := by
        rcases hd1.low with h | h
        · omega
        · refine Nat.le_of_not_lt fun z => ?_
          have h1 := pow_mono (m := 2) (by decide) (show 6 ≤ d1 - 1 by omega)
          omega
      have l2 : d2 ≤ 6 := by
        rcases hd2.low with h | h
        · omega
        · refine Nat.le_of_not_lt fun z => ?_
          have h1 := pow_mono (m := 3) (by decide) (show 6 ≤ d2 - 1 by omega)
          omega
      have o1 := hd1.pos
      have o2 := hd2.pos
      have v5 : v = 0 ∨ v = 1 ∨ v = 2 ∨ v = 3 ∨ v = 4 := by omega
      have b6 : Bag S5 b (n + 200) := b5.mono (by omega)
      rcases v5 with rfl | rfl | rfl | rfl | rfl
      · have e0 : ∀ x y z u w : D, atI [x, y, z, u, w] 0 = some x := fun _ _ _ _ _ => rfl
        simp! only [w_fld, w_sfld, kPutO_d, kPutO_l, w_meth, kMeth3_e, w_make, mk_e, WR_ok, w_appF, w_raiseA, kRaiseA_d, trA_nx, trA_rt, trA_ex, w_tryA, w_at, kAt_e, w_exc, kExc_e, w_excA, kExcA_d, w_miStr, kStr_e, tr_ex1, intA_str, intA_bl, intA_int, inG_s, atG_s, getG_s, e0]
        rw [e1]
        have hl : (sumRows 3 2 3).length = 9 := by unfold sumRows; rw [List.length_map, numsA_len]; decide
        exact ⟨3, 3, sumRows 3 2 3, _, _, _, rfl, ⟨sumRows_ok (by decide), by decide, by decide, by decide, by decide, by omega, by omega⟩, by omega, b6⟩
      · have e0 : ∀ x y z u w : D, atI [x, y, z, u, w] 1 = some y := fun _ _ _ _ _ => rfl
        simp! only [w_fld, w_sfld, kPutO_d, kPutO_l, w_meth, kMeth3_e, w_make, mk_e, WR_ok, w_appF, w_raiseA, kRaiseA_d, trA_nx, trA_rt, trA_ex, w_tryA, w_at, kAt_e, w_exc, kExc_e, w_excA, kExcA_d, w_miStr, kStr_e, tr_ex1, intA_str, intA_bl, intA_int, inG_s, atG_s, getG_s, e0]
        rw [e2]
        have hl : (sumRows 5 2 5).length = 25 := by unfold sumRows; rw [List.length_map, numsA_len]; decide
        exact ⟨5, 5, sumRows 5 2 5, _, _, _, rfl, ⟨sumRows_ok (by decide), by decide, by decide, by decide, by decide, by omega, by omega⟩, by omega, b6⟩
      · have e0 : ∀ x y z u w : D, atI [x, y, z, u, w] 2 = some z := fun _ _ _ _ _ => rfl
        simp! only [w_fld, w_sfld, kPutO_d, kPutO_l, w_meth, kMeth3_e, w_make, mk_e, WR_ok, w_appF, w_raiseA, kRaiseA_d, trA_nx, trA_rt, trA_ex, w_tryA, w_at, kAt_e, w_exc, kExc_e, w_excA, kExcA_d, w_miStr, kStr_e, tr_ex1, intA_str, intA_bl, intA_int, inG_s, atG_s, getG_s, e0]
        have hl : (digRows 2 (Int.toNat 4) d1).length = d1 := by unfold digRows; rw [List.length_map, List.length_range]
        exact ⟨2, 4, digRows 2 (Int.toNat 4) d1, _, _, _, rfl, ⟨digRows_ok (by decide) o1, by decide, by decide, by decide, by decide, by omega, by omega⟩, by omega, b6⟩
      · have e0 : ∀ x y z u w : D, atI [x, y, z, u, w] 3 = some u := fun _ _ _ _ _ => rfl
        simp! only [w_fld, w_sfld, kPutO_d, kPutO_l, w_meth, kMeth3_e, w_make, mk_e, WR_ok, w_appF, w_raiseA, kRaiseA_d, trA_nx, trA_rt, trA_ex, w_tryA, w_at, kAt_e, w_exc, kExc_e, w_excA, kExcA_d, w_miStr, kStr_e, tr_ex1, intA_str, intA_bl, intA_int, inG_s, atG_s, getG_s, e0]
        have hl : (digRows 3 (Int.toNat 9) d2).length = d2 := by unfold digRows; rw [List.length_map, List.length_range]
        exact ⟨3, 9, digRows 3 (Int.toNat 9) d2, _, _, _, rfl, ⟨digRows_ok (by decide) o2, by decide, by decide, by decide, by decide, by omega, by omega⟩, by omega, b6⟩
      · have e0 : ∀ x y z u w : D, atI [x, y, z, u, w] 4 = some w := fun _ _ _ _ _ => rfl
        simp! only [w_fld, w_sfld, kPutO_d, kPutO_l, w_meth, kMeth3_e, w_make, mk_e, WR_ok, w_appF, w_raiseA, kRaiseA_d, trA_nx, trA_rt, trA_ex, w_tryA, w_at, kAt_e, w_exc, kExc_e, w_excA, kExcA_d, w_miStr, kStr_e, tr_ex1, intA_str, intA_bl, intA_int, inG_s, atG_s, getG_s, e0]
        have hl : (ptRows 5 (Int.toNat 2) (Int.toNat 4) (Int.toNat 20)).length = 4 := ptRows_len
        exact ⟨5, 20, ptRows 5 (Int.toNat 2) (Int.toNat 4) (Int.toNat 20), _, _, _, rfl, ⟨ptRows_ok (by decide) (by decide), by decide, by decide, by decide, by decide, by omega, by omega⟩, by omega, b6⟩
    · simp! only [w_fld, w_sfld, kPutO_d, kPutO_l, w_meth, kMeth3_e, w_make, mk_e, WR_ok, w_appF, w_raiseA, kRaiseA_d, trA_nx, trA_rt, trA_ex, w_tryA, w_at, kAt_e, w_exc, kExc_e, w_excA, kExcA_d, w_miStr, kStr_e, tr_ex1, intA_str, intA_bl, intA_int, inG_s, atG_s, getG_s]
      refine book_w 128 b2 (by omega) (by omega) (by omega) (by omega) (by omega) (by omega) (by decide) (by omega) fun m u rows S3 m1 mb u1 ub rl hok b3 _ => ?_
      simp! only [w_fld, w_sfld, kPutO_d, kPutO_l, w_meth, kMeth3_e, w_make, mk_e, WR_ok, w_appF, w_raiseA, kRaiseA_d, trA_nx, trA_rt, trA_ex, w_tryA, w_at, kAt_e, w_exc, kExc_e, w_excA, kExcA_d, w_miStr, kStr_e, tr_ex1, intA_str, intA_bl, intA_int, inG_s, atG_s, getG_s]
      have := List.length_pos_iff.mpr hok.ne
      exact ⟨m, u, rows, _, _, _, rfl, ⟨hok, m1, by omega, by omega, by omega, by omega, by omega⟩, by omega, b3.mono (by omega)⟩
  · obtain ⟨m, u, rows, s5, s6, s7, rfl, hM, h60, bT⟩ := hI
    have hr1 := hM.r1
    have hu1 := hM.u1
    have hu64 := hM.u64
    have hm1 := hM.m1
    have hm64 := hM.m64
    obtain ⟨r0, e0, l0⟩ := row0_of hM.ok
    simp! only [w_fld, w_sfld, kPutO_d, kPutO_l, w_meth, kMeth3_e, w_make, mk_e, WR_ok, w_appF, w_raiseA, kRaiseA_d, trA_nx, trA_rt, trA_ex, w_tryA, w_at, kAt_e, w_exc, kExc_e, w_excA, kExcA_d, w_miStr, kStr_e, tr_ex1, intA_str, intA_bl, intA_int, inG_s, atG_s, getG_s, List.length_map]
    refine pull_w bT (by omega) (by omega) (by omega) fun iI T1 i0 i1 b3 _ => ?_
    obtain ⟨i, rfl⟩ := Int.eq_ofNat_of_zero_le i0
    simp! only [w_fld, w_sfld, kPutO_d, kPutO_l, w_meth, kMeth3_e, w_make, mk_e, WR_ok, w_appF, w_raiseA, kRaiseA_d, trA_nx, trA_rt, trA_ex, w_tryA, w_at, kAt_e, w_exc, kExc_e, w_excA, kExcA_d, w_miStr, kStr_e, tr_ex1, intA_str, intA_bl, intA_int, inG_s, atG_s, getG_s, e0, List.length_map, l0]
    refine pull_w b3 (by omega) (by omega) (by omega) fun xI T2 x0 x1 b4 _ => ?_
    obtain ⟨x, rfl⟩ := Int.eq_ofNat_of_zero_le x0
    obtain ⟨r, er⟩ : ∃ r, rows[i]? = some r := ⟨_, List.getElem?_eq_getElem (by omega)⟩
    have hro := hM.ok.ok r (List.mem_of_getElem? er)
    have ai := at_lstR (f := rowL) (xs := rows) (i := (i : Int)) (v := r) (by omega) er
    simp! only [w_fld, w_sfld, kPutO_d, kPutO_l, w_meth, kMeth3_e, w_make, mk_e, WR_ok, w_appF, w_raiseA, kRaiseA_d, trA_nx, trA_rt, trA_ex, w_tryA, w_at, kAt_e, w_exc, kExc_e, w_excA, kExcA_d, w_miStr, kStr_e, tr_ex1, intA_str, intA_bl, intA_int, inG_s, atG_s, getG_s]
    have bE : Bag T2 b (n + 300) := b4.mono (by omega)
    refine cut_seq (fun es T => ∃ rows', es = [.v (.loc b), .v (.int way), .v (.int sp), .v (.int m), .v (.tup (rows'.map rowL)), s5, s6, s7, .v (.int (i : Int)), .v (.int (x : Int)), .no, .no] ∧ Md m u rows' ∧ (sp ≠ 1 → rows' = rows) ∧ T = T2) ?_ (fun es T hI => ?_)
    · simp! only [w_fld, w_sfld, kPutO_d, kPutO_l, w_meth, kMeth3_e, w_make, mk_e, WR_ok, w_appF, w_raiseA, kRaiseA_d, trA_nx, trA_rt, trA_ex, w_tryA, w_at, kAt_e, w_exc, kExc_e, w_excA, kExcA_d, w_miStr, kStr_e, tr_ex1, intA_str, intA_bl, intA_int, inG_s, atG_s, getG_s]
      refine kIf_br (fun hc => ?_) (fun hc => ?_)
      · simp! only [w_fld, w_sfld, kPutO_d, kPutO_l, w_meth, kMeth3_e, w_make, mk_e, WR_ok, w_appF, w_raiseA, kRaiseA_d, trA_nx, trA_rt, trA_ex, w_tryA, w_at, kAt_e, w_exc, kExc_e, w_excA, kExcA_d, w_miStr, kStr_e, tr_ex1, intA_str, intA_bl, intA_int, inG_s, atG_s, getG_s, ai]
        refine ⟨by decide, by rw [List.length_map]; exact le_line (by omega), rows ++ [r], by rw [List.map_append]; rfl, hM.more (fun q hq => by cases List.mem_singleton.mp hq; exact List.mem_of_getElem? er) (by simp only [List.length_cons, List.length_nil]; omega), fun h => absurd (of_decide_eq_true hc) h⟩
      · simp! only [w_fld, w_sfld, kPutO_d, kPutO_l, w_meth, kMeth3_e, w_make, mk_e, WR_ok, w_appF, w_raiseA, kRaiseA_d, trA_nx, trA_rt, trA_ex, w_tryA, w_at, kAt_e, w_exc, kExc_e, w_excA, kExcA_d, w_miStr, kStr_e, tr_ex1, intA_str, intA_bl, intA_int, inG_s, atG_s, getG_s]
        exact ⟨rows, rfl, hM, fun _ => rfl⟩
    obtain ⟨rows1, rfl, hM1, h1, rfl⟩ := hI
    simp! only [w_fld, w_sfld, kPutO_d, kPutO_l, w_meth, kMeth3_e, w_make, mk_e, WR_ok, w_appF, w_raiseA, kRaiseA_d, trA_nx, trA_rt, trA_ex, w_tryA, w_at, kAt_e, w_exc, kExc_e, w_excA, kExcA_d, w_miStr, kStr_e, tr_ex1, intA_str, intA_bl, intA_int, inG_s, atG_s, getG_s]
    refine cut_seq (fun es T' => ∃ rows', es = [.v (.loc b), .v (.int way), .v (.int sp), .v (.int m), .v (.tup (rows'.map rowL)), s5, s6, s7, .v (.int (i : Int)), .v (.int (x : Int)), .no, .no] ∧ Md m u rows' ∧ (sp ≠ 1 → sp ≠ 2 → rows' = rows) ∧ T' = T) ?_ (fun es T' hI => ?_)
    · simp! only [w_fld, w_sfld, kPutO_d, kPutO_l, w_meth, kMeth3_e, w_make, mk_e, WR_ok, w_appF, w_raiseA, kRaiseA_d, trA_nx, trA_rt, trA_ex, w_tryA, w_at, kAt_e, w_exc, kExc_e, w_excA, kExcA_d, w_miStr, kStr_e, tr_ex1, intA_str, intA_bl, intA_int, inG_s, atG_s, getG_s]
      refine kIf_br (fun hc => ?_) (fun hc => ?_)
      · have h2 : sp = 2 := of_decide_eq_true hc
        have e1 := h1 (by omega)
        subst e1
        simp! only [w_fld, w_sfld, kPutO_d, kPutO_l, w_meth, kMeth3_e, w_make, mk_e, WR_ok, w_appF, w_raiseA, kRaiseA_d, trA_nx, trA_rt, trA_ex, w_tryA, w_at, kAt_e, w_exc, kExc_e, w_excA, kExcA_d, w_miStr, kStr_e, tr_ex1, intA_str, intA_bl, intA_int, inG_s, atG_s, getG_s]
        refine ⟨by rw [List.length_map]; exact le_line (by omega), rows1 ++ rows1, by rw [List.map_append], hM1.more (fun q hq => hq) (by omega), fun _ h => absurd h2 h⟩
      · simp! only [w_fld, w_sfld, kPutO_d, kPutO_l, w_meth, kMeth3_e, w_make, mk_e, WR_ok, w_appF, w_raiseA, kRaiseA_d, trA_nx, trA_rt, trA_ex, w_tryA, w_at, kAt_e, w_exc, kExc_e, w_excA, kExcA_d, w_miStr, kStr_e, tr_ex1, intA_str, intA_bl, intA_int, inG_s, atG_s, getG_s]
        exact ⟨rows1, rfl, hM1, fun h _ => h1 h⟩
    obtain ⟨rows2, rfl, hM2, h2, rfl⟩ := hI
    simp! only [w_fld, w_sfld, kPutO_d, kPutO_l, w_meth, kMeth3_e, w_make, mk_e, WR_ok, w_appF, w_raiseA, kRaiseA_d, trA_nx, trA_rt, trA_ex, w_tryA, w_at, kAt_e, w_exc, kExc_e, w_excA, kExcA_d, w_miStr, kStr_e, tr_ex1, intA_str, intA_bl, intA_int, inG_s, atG_s, getG_s]
    refine cut_seq (fun es T => ∃ rows' s10 s11, es = [.v (.loc b), .v (.int way), .v (.int sp), .v (.int m), .v (.tup (rows'.map rowL)), s5, s6, s7, .v (.int (i : Int)), .v (.int (x : Int)), s10, s11] ∧ Md m u rows' ∧ T = T') ?_ (fun es T hI => ?_)
    · simp! only [w_fld, w_sfld, kPutO_d, kPutO_l, w_meth, kMeth3_e, w_make, mk_e, WR_ok, w_appF, w_raiseA, kRaiseA_d, trA_nx, trA_rt, trA_ex, w_tryA, w_at, kAt_e, w_exc, kExc_e, w_excA, kExcA_d, w_miStr, kStr_e, tr_ex1, intA_str, intA_bl, intA_int, inG_s, atG_s, getG_s]
      refine kIf_br (fun hc => ?_) (fun hc => ?_)
      · have h3 : sp = 3 := of_decide_eq_true hc
        have e1 := h2 (by omega) (by omega)
        subst e1
        have hxu : x < u := by omega
        have ax := row_atI (r := r) (x := (x : Int)) (by omega) (by have := hro.1; omega)
        have c1 : cutL (r.map D.int) none (some (x : Int)) = (r.take x).map D.int := by rw [cut_to (by omega), Int.toNat_natCast, ← List.map_take]
        have c2 : cutL (r.map D.int) (some ((x : Int) + 1)) none = (r.drop (x + 1)).map D.int := by
          rw [cut_from (by omega), show ((x : Int) + 1).toNat = x + 1 by omega, ← List.map_drop]
        have c3 : cutL (rows2.map rowL) none (some (i : Int)) = (rows2.take i).map rowL := by rw [cut_to (by omega), Int.toNat_natCast, ← List.map_take]
        have c4 : cutL (rows2.map rowL) (some ((i : Int) + 1)) none = (rows2.drop (i + 1)).map rowL := by
          rw [cut_from (by omega), show ((i : Int) + 1).toNat = i + 1 by omega, ← List.map_drop]
        obtain ⟨v, hv⟩ : ∃ v, v = (at_ r (x : Int) + 1) % m := ⟨_, rfl⟩
        have v0 : 0 ≤ v := by rw [hv]; exact Int.emod_nonneg _ (by omega)
        have vm : v < m := by rw [hv]; exact Int.emod_lt_of_pos _ (by omega)
        simp! only [w_fld, w_sfld, kPutO_d, kPutO_l, w_meth, kMeth3_e, w_make, mk_e, WR_ok, w_appF, w_raiseA, kRaiseA_d, trA_nx, trA_rt, trA_ex, w_tryA, w_at, kAt_e, w_exc, kExc_e, w_excA, kExcA_d, w_miStr, kStr_e, tr_ex1, intA_str, intA_bl, intA_int, inG_s, atG_s, getG_s, ai, ax, c1, c2, c3, c4, ← hv]
        have eT : (rows2.take i).map rowL ++ [D.tup ((r.take x).map D.int ++ [D.int v] ++ (r.drop (x + 1)).map D.int)] ++ (rows2.drop (i + 1)).map rowL = (rows2.take i ++ [r.take x ++ [v] ++ r.drop (x + 1)] ++ rows2.drop (i + 1)).map rowL := by
          have e1 : rowL (r.take x ++ [v] ++ r.drop (x + 1)) = D.tup ((r.take x).map D.int ++ [D.int v] ++ (r.drop (x + 1)).map D.int) := by
            unfold rowL
            simp only [List.map_append, List.map_cons, List.map_nil]
          rw [List.map_append, List.map_append, List.map_cons, List.map_nil, e1]
        rw [eT]
        have hl := hro.1
        have lx : (r.take x).length ≤ r.length := by rw [List.length_take]; omega
        have l2 : (r.drop (x + 1)).length ≤ r.length := by rw [List.length_drop]; omega
        have lr : (rows2.take i).length ≤ rows2.length := by rw [List.length_take]; omega
        have l4 : (rows2.drop (i + 1)).length ≤ rows2.length := by rw [List.length_drop]; omega
        have z1 : ((r.take x).map D.int).length + 1 ≤ sizeLine := le_line (by rw [List.length_map]; omega)
        have z2 : ((r.take x).map D.int ++ [D.int v]).length + ((r.drop (x + 1)).map D.int).length ≤ sizeLine := le_line (by simp only [List.length_append, List.length_map, List.length_cons, List.length_nil]; omega)
        have z3 : ((rows2.take i).map rowL).length + 1 ≤ sizeLine := le_line (by rw [List.length_map]; omega)
        have z4 : ∀ d : D, ((rows2.take i).map rowL ++ [d]).length + ((rows2.drop (i + 1)).map rowL).length ≤ sizeLine := fun d => le_line (by simp only [List.length_append, List.length_map, List.length_cons, List.length_nil]; omega)
        have hMd := hM2.put (x := x) er hxu v0 vm
        have m0 : 0 < m := by omega
        generalize (rows2.take i ++ [r.take x ++ [v] ++ r.drop (x + 1)] ++ rows2.drop (i + 1)) = RR at hMd ⊢
        exact ⟨m0, by decide, z1, z2, by decide, z3, z4 _, RR, _, _, rfl, hMd⟩
      · simp! only [w_fld, w_sfld, kPutO_d, kPutO_l, w_meth, kMeth3_e, w_make, mk_e, WR_ok, w_appF, w_raiseA, kRaiseA_d, trA_nx, trA_rt, trA_ex, w_tryA, w_at, kAt_e, w_exc, kExc_e, w_excA, kExcA_d, w_miStr, kStr_e, tr_ex1, intA_str, intA_bl, intA_int, inG_s, atG_s, getG_s]
        exact ⟨rows2, _, _, rfl, hM2⟩
    obtain ⟨rows3, s10, s11, rfl, hM3, rfl⟩ := hI
    simp! only [w_fld, w_sfld, kPutO_d, kPutO_l, w_meth, kMeth3_e, w_make, mk_e, WR_ok, w_appF, w_raiseA, kRaiseA_d, trA_nx, trA_rt, trA_ex, w_tryA, w_at, kAt_e, w_exc, kExc_e, w_excA, kExcA_d, w_miStr, kStr_e, tr_ex1, intA_str, intA_bl, intA_int, inG_s, atG_s, getG_s]
    exact ⟨by decide, k m u rows3 T hM3 bE⟩
theorem ne_few {S : Store} : neF S (.d (.str (kindS 1))) (.d (.str "few")) = some (.d (.bl false)) := ne_ss_self (kind_lay 1)
theorem eq_few {S : Store} : eqF S (.d (.str (kindS 1))) (.d (.str "few")) = some (.d (.bl true)) := eq_ss_self (kind_lay 1)
theorem law_true (ns : List Int) (hl : ns.length ≤ 63) : ∃ S', m_law tblL [.d (.scr ns)] [] = .ok (.d (.bl true)) S' := by
  refine law_of (fun_w ?_)
  unfold mb_law
  walk_at "w"
  refine bag0_w hl fun S0 hb _ => ?_
  walk_at "w"
  refine ⟨⟨by decide, by decide⟩, ?_⟩
  refine for_inv (fun t es S => (∃ s2 s3 s4 s5 s6 s7 s8 s9 s10 s11 s12 s13 s14, es = [.v (.scr ns), .v (.loc 1), s2, s3, s4, s5, s6, s7, s8, s9, s10, s11, s12, s13, s14, .no]) ∧ Bag S 1 (t * 300)) ⟨⟨_, _, _, _, _, _, _, _, _, _, _, _, _, rfl⟩, hb.mono (by omega)⟩ (fun _ _ _ _ => trivial) (fun t x es S hx hI => ?_) (fun es S hI => ?_)
  · obtain ⟨rfl, ht⟩ := rngD_get hx
    have ht : t < 3 := ht
    obtain ⟨⟨s2, s3, s4, s5, s6, s7, s8, s9, s10, s11, s12, s13, s14, rfl⟩, c0⟩ := hI
    refine ⟨_, rfl, ?_⟩
    simp! only [w_fld, w_sfld, kPutO_d, kPutO_l, w_meth, kMeth3_e, w_make, mk_e, WR_ok, w_appF, w_raiseA, kRaiseA_d, trA_nx, trA_rt, trA_ex, w_tryA, w_at, kAt_e, w_exc, kExc_e, w_excA, kExcA_d, w_miStr, kStr_e, tr_ex1, intA_str, intA_bl, intA_int, inG_s, atG_s, getG_s]
    refine made_w c0 (by omega) fun m u rows S1 hM c1 => ?_
    obtain ⟨r0, e0, l0⟩ := row0_of hM.ok
    have hu1 := hM.u1
    have hu64 := hM.u64
    have hm1 := hM.m1
    have hm64 := hM.m64
    have hr1 := hM.r1
    have hr60 := hM.r60
    simp! only [w_fld, w_sfld, kPutO_d, kPutO_l, w_meth, kMeth3_e, w_make, mk_e, WR_ok, w_appF, w_raiseA, kRaiseA_d, trA_nx, trA_rt, trA_ex, w_tryA, w_at, kAt_e, w_exc, kExc_e, w_excA, kExcA_d, w_miStr, kStr_e, tr_ex1, intA_str, intA_bl, intA_int, inG_s, atG_s, getG_s, bookD, e0, List.length_map, l0]
    have eb : D.tup [D.int m, D.tup (rows.map rowL)] = bookD m rows := rfl
    refine kIf_br (fun hc => ?_) (fun hc => ?_)
    · have hu : u = 1 := by have := of_decide_eq_true hc; omega
      have h0 := refused_w (tbl := tblL) (n := 0) (S := S1) (S' := S1) [bookD m rows] (by simp) (by simp) (by omega) (by omega) (is_best_ex hM.ok (by omega))
      simp! only [w_fld, w_sfld, kPutO_d, kPutO_l, w_meth, kMeth3_e, w_make, mk_e, WR_ok, w_appF, w_raiseA, kRaiseA_d, trA_nx, trA_rt, trA_ex, w_tryA, w_at, kAt_e, w_exc, kExc_e, w_excA, kExcA_d, w_miStr, kStr_e, tr_ex1, intA_str, intA_bl, intA_int, inG_s, atG_s, getG_s]
      rw [eb, h0]
      simp! only [w_fld, w_sfld, kPutO_d, kPutO_l, w_meth, kMeth3_e, w_make, mk_e, WR_ok, w_appF, w_raiseA, kRaiseA_d, trA_nx, trA_rt, trA_ex, w_tryA, w_at, kAt_e, w_exc, kExc_e, w_excA, kExcA_d, w_miStr, kStr_e, tr_ex1, intA_str, intA_bl, intA_int, inG_s, atG_s, getG_s, ne_few]
      exact ⟨by decide, ⟨_, _, _, _, _, _, _, _, _, _, _, _, _, rfl⟩, c1.mono (by omega)⟩
    · have hu : u ≠ 1 := by have := of_decide_eq_false hc; omega
      have u2 : 2 ≤ u := by omega
      simp! only [w_fld, w_sfld, kPutO_d, kPutO_l, w_meth, kMeth3_e, w_make, mk_e, WR_ok, w_appF, w_raiseA, kRaiseA_d, trA_nx, trA_rt, trA_ex, w_tryA, w_at, kAt_e, w_exc, kExc_e, w_excA, kExcA_d, w_miStr, kStr_e, tr_ex1, intA_str, intA_bl, intA_int, inG_s, atG_s, getG_s]
      have hlp := least_pos (m := m) (u := u) hm1
      obtain ⟨x, y, g, el, ea, eg, g0, x0, y0, xa, ya, cop⟩ := low_parts hlp (c2_pos (u := u) u2)
      rw [least_share_w (by omega) (by omega) (by omega) (by omega), el]
      simp! only [w_fld, w_sfld, kPutO_d, kPutO_l, w_meth, kMeth3_e, w_make, mk_e, WR_ok, w_appF, w_raiseA, kRaiseA_d, trA_nx, trA_rt, trA_ex, w_tryA, w_at, kAt_e, w_exc, kExc_e, w_excA, kExcA_d, w_miStr, kStr_e, tr_ex1, intA_str, intA_bl, intA_int, inG_s, atG_s, getG_s]
      rw [all_pairs_w (by omega) (by omega), Int.toNat_natCast]
      simp! only [w_fld, w_sfld, kPutO_d, kPutO_l, w_meth, kMeth3_e, w_make, mk_e, WR_ok, w_appF, w_raiseA, kRaiseA_d, trA_nx, trA_rt, trA_ex, w_tryA, w_at, kAt_e, w_exc, kExc_e, w_excA, kExcA_d, w_miStr, kStr_e, tr_ex1, intA_str, intA_bl, intA_int, inG_s, atG_s, getG_s]
      have hl1 : rows.length ≤ 120 := hr60
      have pl := pairL_len (u := u)
      have huu : u * u ≤ 64 * 64 := Nat.mul_le_mul hu64 hu64
      obtain ⟨P, hP⟩ : ∃ P : Int × Int → Bool, P = fun q => decide (((metI rows q.1 q.2 : Nat) : Int) * y = x * (rows.length : Nat)) := ⟨_, rfl⟩
      refine for_inv (fun i es S => (∃ s10 s11 s12, es = [.v (.scr ns), .v (.loc 1), .v (.int (t : Int)), .v (bookD m rows), .v (.int m), .v (.tup (rows.map rowL)), .v (.int (u : Int)), .v (.int x), .v (.int y), .v (.bl (((pairL u).take i).all P)), s10, s11, s12, s13, s14, .no]) ∧ S = S1) ⟨⟨_, _, _, rfl⟩, rfl⟩ (fun _ _ _ _ => trivial) (fun i d es S hx hI => ?_) (fun es S hI => ?_)
      · obtain ⟨⟨s10, s11, s12, rfl⟩, rfl⟩ := hI
        rw [List.getElem?_map] at hx
        cases hq : (pairL u)[i]? with
        | none => rw [hq] at hx; cases hx
        | some q =>
          rw [hq] at hx
          cases hx
          obtain ⟨q1, q2⟩ := q
          obtain ⟨a0, ab, bu⟩ := mem_pairL.mp (List.mem_of_getElem? hq)
          dsimp only at a0 ab bu
          have htk : ((pairL u).take (i + 1)).all P = (((pairL u).take i).all P && P (q1, q2)) := by
            rw [List.take_succ, hq, List.all_append]
            simp
          refine ⟨_, rfl, ?_⟩
          simp! only [w_fld, w_sfld, kPutO_d, kPutO_l, w_meth, kMeth3_e, w_make, mk_e, WR_ok, w_appF, w_raiseA, kRaiseA_d, trA_nx, trA_rt, trA_ex, w_tryA, w_at, kAt_e, w_exc, kExc_e, w_excA, kExcA_d, w_miStr, kStr_e, tr_ex1, intA_str, intA_bl, intA_int, inG_s, atG_s, getG_s]
          refine comp_fil (l := rows) (F := rowL) (fun r => decide (at_ r q1 = at_ r q2)) (fun _ => .int 1) (le_line (by omega)) trivial (fun j r hr => ⟨_, rfl, ?_, fun _ => ?_⟩) ?_
          · have hro := hM.ok.ok r (List.mem_of_getElem? hr)
            have x1 := row_atI (r := r) (x := q1) (by omega) (by have := hro.1; omega)
            have x2 := row_atI (r := r) (x := q2) (by omega) (by have := hro.1; omega)
            simp! only [w_fld, w_sfld, kPutO_d, kPutO_l, w_meth, kMeth3_e, w_make, mk_e, WR_ok, w_appF, w_raiseA, kRaiseA_d, trA_nx, trA_rt, trA_ex, w_tryA, w_at, kAt_e, w_exc, kExc_e, w_excA, kExcA_d, w_miStr, kStr_e, tr_ex1, intA_str, intA_bl, intA_int, inG_s, atG_s, getG_s, x1, x2]
          · simp! only [w_fld, w_sfld, kPutO_d, kPutO_l, w_meth, kMeth3_e, w_make, mk_e, WR_ok, w_appF, w_raiseA, kRaiseA_d, trA_nx, trA_rt, trA_ex, w_tryA, w_at, kAt_e, w_exc, kExc_e, w_excA, kExcA_d, w_miStr, kStr_e, tr_ex1, intA_str, intA_bl, intA_int, inG_s, atG_s, getG_s]
          · have hm := metI_le (rows := rows) (x := q1) (y := q2)
            have el : (List.map (fun _ => D.int 1) (rows.filter fun r => decide (at_ r q1 = at_ r q2))).length = metI rows q1 q2 := filter_len
            simp! only [w_fld, w_sfld, kPutO_d, kPutO_l, w_meth, kMeth3_e, w_make, mk_e, WR_ok, w_appF, w_raiseA, kRaiseA_d, trA_nx, trA_rt, trA_ex, w_tryA, w_at, kAt_e, w_exc, kExc_e, w_excA, kExcA_d, w_miStr, kStr_e, tr_ex1, intA_str, intA_bl, intA_int, inG_s, atG_s, getG_s, el, List.length_map]
            refine ⟨cmul_l (by omega) (by omega), cmul_r (by omega) (by omega), ?_⟩
            have hPq : P (q1, q2) = decide (((metI rows q1 q2 : Nat) : Int) * y = x * (rows.length : Nat)) := by rw [hP]
            rw [htk]
            refine kIf_br (fun hc => ?_) (fun hc => ?_)
            · have h1 : P (q1, q2) = false := by rw [hPq]; simpa using hc
              rw [h1, Bool.and_false]
              simp! only [w_fld, w_sfld, kPutO_d, kPutO_l, w_meth, kMeth3_e, w_make, mk_e, WR_ok, w_appF, w_raiseA, kRaiseA_d, trA_nx, trA_rt, trA_ex, w_tryA, w_at, kAt_e, w_exc, kExc_e, w_excA, kExcA_d, w_miStr, kStr_e, tr_ex1, intA_str, intA_bl, intA_int, inG_s, atG_s, getG_s]
              exact ⟨_, _, _, rfl⟩
            · have h1 : P (q1, q2) = true := by rw [hPq]; simpa using hc
              rw [h1, Bool.and_true]
              simp! only [w_fld, w_sfld, kPutO_d, kPutO_l, w_meth, kMeth3_e, w_make, mk_e, WR_ok, w_appF, w_raiseA, kRaiseA_d, trA_nx, trA_rt, trA_ex, w_tryA, w_at, kAt_e, w_exc, kExc_e, w_excA, kExcA_d, w_miStr, kStr_e, tr_ex1, intA_str, intA_bl, intA_int, inG_s, atG_s, getG_s]
              exact ⟨_, _, _, rfl⟩
      · obtain ⟨⟨s10, s11, s12, rfl⟩, rfl⟩ := hI
        rw [List.length_map, List.take_length]
        have ebs : (pairL u).all P = bestB rows u x y := by rw [hP]; rfl
        rw [ebs]
        simp! only [w_fld, w_sfld, kPutO_d, kPutO_l, w_meth, kMeth3_e, w_make, mk_e, WR_ok, w_appF, w_raiseA, kRaiseA_d, trA_nx, trA_rt, trA_ex, w_tryA, w_at, kAt_e, w_exc, kExc_e, w_excA, kExcA_d, w_miStr, kStr_e, tr_ex1, intA_str, intA_bl, intA_int, inG_s, atG_s, getG_s]
        have hlen : 0 < (rows.length : Int) := by omega
        have wb := worst_bound (rows := rows) u2
        have c2p := c2_pos (u := u) u2
        have c2b : c2 u ≤ 4096 := by
          have h := metsL_length (rows := rows) (u := u)
          unfold metsL at h
          rw [List.length_map] at h
          omega
        have lb : leastI u m ≤ c2 u := by
          have h1 := worst_least hm1 hM.ok.ok
          have h2 : worstI rows u * c2 u ≤ rows.length * c2 u := Int.mul_le_mul_of_nonneg_right wb.2 (by omega)
          exact Int.le_of_mul_le_mul_left (Int.le_trans h1 h2) hlen
        obtain ⟨wx, wy, wg, elw, w1, w2, wg0, wx0, wy0, wxa, wya, copw⟩ := low_parts (a := worstI rows u) (b := (rows.length : Nat)) wb.1 hlen
        obtain ⟨f1, f2, f3⟩ := best_facts hm1 hM.ok u2 ea eg g0 x0 y0 cop w1 w2 wg0 wx0 wy0 elw el
        rw [is_best_w hM.ok (by omega) hm1 (by omega) u2 (by omega) el x0 (by omega) y0 (by omega)]
        simp! only [w_fld, w_sfld, kPutO_d, kPutO_l, w_meth, kMeth3_e, w_make, mk_e, WR_ok, w_appF, w_raiseA, kRaiseA_d, trA_nx, trA_rt, trA_ex, w_tryA, w_at, kAt_e, w_exc, kExc_e, w_excA, kExcA_d, w_miStr, kStr_e, tr_ex1, intA_str, intA_bl, intA_int, inG_s, atG_s, getG_s, List.length_map]
        refine kAnd_br (fun hB => ?b1) (fun hB => ?b2)
        case' b1 =>
          have hz := f2 hB
          have d0 : decide ((0 : Int) < 0) = false := by decide
          simp! only [w_fld, w_sfld, kPutO_d, kPutO_l, w_meth, kMeth3_e, w_make, mk_e, WR_ok, w_appF, w_raiseA, kRaiseA_d, trA_nx, trA_rt, trA_ex, w_tryA, w_at, kAt_e, w_exc, kExc_e, w_excA, kExcA_d, w_miStr, kStr_e, tr_ex1, intA_str, intA_bl, intA_int, inG_s, atG_s, getG_s, List.length_map, hz]
          refine ⟨y0, ?_⟩
          rw [d0]
        all_goals
          simp! only [w_fld, w_sfld, kPutO_d, kPutO_l, w_meth, kMeth3_e, w_make, mk_e, WR_ok, w_appF, w_raiseA, kRaiseA_d, trA_nx, trA_rt, trA_ex, w_tryA, w_at, kAt_e, w_exc, kExc_e, w_excA, kExcA_d, w_miStr, kStr_e, tr_ex1, intA_str, intA_bl, intA_int, inG_s, atG_s, getG_s]
          refine worst_pairs_w hM.ok (by omega) u2 (by omega) ?_
          rw [elw]
          have c2 : Bag (S ++ [O.lst ((worstP rows u).map pairD)]) 1 (t * 300 + 300) := c1.push _
          generalize (S ++ [O.lst ((worstP rows u).map pairD)]) = S2 at c2 ⊢
          have dl : decide (wx * y < x * wy) = false := decide_eq_false (by omega)
          have et : ∀ S, eqF S (.d (.tup [.int wx, .int wy])) (.d (.tup [.int x, .int y])) = some (.d (.bl (decide ([wx, wy] = [x, y])))) := fun S => eq_rowsT (xs := [wx, wy]) (ys := [x, y])
          have eB : decide ([wx, wy] = [x, y]) = bestB rows u x y := by
            rw [Bool.eq_iff_iff, decide_eq_true_iff, f3]
            simp
          simp! only [w_fld, w_sfld, kPutO_d, kPutO_l, w_meth, kMeth3_e, w_make, mk_e, WR_ok, w_appF, w_raiseA, kRaiseA_d, trA_nx, trA_rt, trA_ex, w_tryA, w_at, kAt_e, w_exc, kExc_e, w_excA, kExcA_d, w_miStr, kStr_e, tr_ex1, intA_str, intA_bl, intA_int, inG_s, atG_s, getG_s, dl, et, eB]
          exact ⟨cmul_l (by omega) (by omega), cmul_l (by omega) (by omega), by decide, ⟨_, _, _, _, _, _, _, _, _, _, _, _, _, rfl⟩, c2.mono (by omega)⟩
  · obtain ⟨⟨s2, s3, s4, s5, s6, s7, s8, s9, s10, s11, s12, s13, s14, rfl⟩, c0⟩ := hI
    simp! only [w_fld, w_sfld, kPutO_d, kPutO_l, w_meth, kMeth3_e, w_make, mk_e, WR_ok, w_appF, w_raiseA, kRaiseA_d, trA_nx, trA_rt, trA_ex, w_tryA, w_at, kAt_e, w_exc, kExc_e, w_excA, kExcA_d, w_miStr, kStr_e, tr_ex1, intA_str, intA_bl, intA_int, inG_s, atG_s, getG_s]
    have h0 := refused_w (tbl := tblL) (n := 0) (S := S) (S' := S) [bookD 3 [[0], [1]]] (by simp) (by simp) (by omega) (by omega) (is_best_ex (u := 1) ⟨by simp, fun r hr => by
      simp only [List.mem_cons, List.not_mem_nil, or_false] at hr
      rcases hr with rfl | rfl <;> exact ⟨rfl, fun x hx => by cases List.mem_singleton.mp hx; omega⟩⟩ (by omega))
    refine ⟨by decide, by decide, by decide, by decide, by decide, ?_⟩
    have eb : D.tup [D.int 3, D.tup [D.tup [D.int 0], D.tup [D.int 1]]] = bookD 3 [[0], [1]] := rfl
    rw [eb, h0]
    simp! only [w_fld, w_sfld, kPutO_d, kPutO_l, w_meth, kMeth3_e, w_make, mk_e, WR_ok, w_appF, w_raiseA, kRaiseA_d, trA_nx, trA_rt, trA_ex, w_tryA, w_at, kAt_e, w_exc, kExc_e, w_excA, kExcA_d, w_miStr, kStr_e, tr_ex1, intA_str, intA_bl, intA_int, inG_s, atG_s, getG_s, eq_few]
end LK

open PySem PySem.W PyProof.Rows
set_option maxRecDepth 100000 in
set_option maxHeartbeats 0 in
theorem PySem.Challenge.cw_partbook_k31_best_books_holds : PySem.Challenge.rw_partbook_k31_best_books.Holds := by
  w_on; o_law; k_head; (case hw => w_witness2)
  k_fill
  refine DM.walk_M (l := PySem.Challenge.rw_partbook_k31_best_books) (n := 63) (k := 7) (x := "_law_script") (m := (LK.m_law LK.tblL)) rfl (by decide) rfl ⟨rfl, by decide, by decide⟩ (fun w h Y => PySem.W.kIn_of Y) ?F LK.law_true
  case F =>
    intro w mg fa h KX G hmg
    refine' LK.all_mk KX G hmg ?a0 ?l0 ?c0 ?k0 ?a1 ?l1 ?c1 ?k1 ?a2 ?l2 ?c2 ?k2 ?a3 ?l3 ?c3 ?k3 ?a4 ?l4 ?c4 ?k4 ?a5 ?l5 ?c5 ?k5 ?a6 ?l6 ?c6 ?k6 ?a7 ?l7 ?c7 ?k7 ?a8 ?l8 ?c8 ?k8 ?a9 ?l9 ?c9 ?k9 ?a10 ?l10 ?c10 ?k10 ?a11 ?l11 ?c11 ?k11 ?a12 ?l12 ?c12 ?k12 ?a13 ?l13 ?c13 ?k13 ?a14 ?l14 ?c14 ?k14 ?a15 ?l15 ?c15 ?k15 ?a16 ?l16 ?c16 ?k16 ?a17 ?l17 ?c17 ?k17 ?a18 ?l18 ?c18 ?k18 ?a19 ?l19 ?c19 ?k19 ?a20 ?l20 ?c20 ?k20 ?a21 ?l21 ?c21 ?k21 ?a22 ?l22 ?c22 ?k22 ?a23 ?l23 ?c23 ?k23 ?a24 ?l24 ?c24 ?k24 ?a25 ?l25 ?c25 ?k25 ?a26 ?l26 ?c26 ?k26 ?a27 ?l27 ?c27 ?k27 ?a28 ?l28 ?c28 ?k28 ?a29 ?l29 ?c29 ?k29 ?a30 ?l30 ?c30 ?k30 ?a31 ?l31 ?c31 ?k31 ?a32 ?l32 ?c32 ?k32 ?a33 ?l33 ?c33 ?k33 ?z0 ?z1 ?z2 ?z3 ?z4 ?z5 ?z6 ?z7 ?z8 ?z9 ?z10 ?z11 ?y0 ?y1 ?gc0 ?bc0 ?tc0 ?hd0 ?sb0_0 ?gc1 ?kc1 ?xc1 ?bc1 ?tc1 ?hd1 ?sb1_0 ?hg1 ?hk1 ?ha1 ?hm1 ?sb1_1 ?sb1_2 ?ne1_2 ?sb1_3 ?ne1_3 ?sb1_4 ?ne1_4 ?sb1_5 ?ne1_5 ?sb1_6 ?ne1_6 ?v1 ?gc2 ?kc2 ?xc2 ?bc2 ?tc2 ?hd2 ?sb2_0 ?hg2 ?hk2 ?ha2 ?hm2 ?sb2_1 ?ne2_1 ?sb2_2 ?sb2_3 ?ne2_3 ?sb2_4 ?ne2_4 ?sb2_5 ?ne2_5 ?sb2_6 ?ne2_6 ?v2 ?gc3 ?kc3 ?xc3 ?bc3 ?tc3 ?hd3 ?sb3_0 ?hg3 ?hk3 ?ha3 ?hm3 ?sb3_1 ?ne3_1 ?sb3_2 ?ne3_2 ?sb3_3 ?sb3_4 ?ne3_4 ?sb3_5 ?ne3_5 ?sb3_6 ?ne3_6 ?v3 ?gc4 ?kc4 ?xc4 ?bc4 ?tc4 ?hd4 ?sb4_0 ?hg4 ?hk4 ?ha4 ?hm4 ?sb4_1 ?ne4_1 ?sb4_2 ?ne4_2 ?sb4_3 ?ne4_3 ?sb4_4 ?sb4_5 ?ne4_5 ?sb4_6 ?ne4_6 ?v4 ?gc5 ?kc5 ?bc5 ?tc5 ?hd5 ?sb5_0 ?hg5 ?hk5 ?ha5 ?hm5 ?sb5_1 ?ne5_1 ?sb5_2 ?ne5_2 ?sb5_3 ?ne5_3 ?sb5_4 ?ne5_4 ?sb5_5 ?sb5_6 ?ne5_6 ?v5 ?gc6 ?kc6 ?bc6 ?tc6 ?hd6 ?sb6_0 ?hg6 ?hk6 ?ha6 ?hm6 ?sb6_1 ?ne6_1 ?sb6_2 ?ne6_2 ?sb6_3 ?ne6_3 ?sb6_4 ?ne6_4 ?sb6_5 ?ne6_5 ?sb6_6 ?v6 ?hn ?ht
    (case gc0 => k_is)
    (case gc1 => k_is)
    (case gc2 => k_is)
    (case gc3 => k_is)
    (case gc4 => k_is)
    (case gc5 => k_is)
    (case gc6 => k_is)
    (case a0 => k_is)
    (case a1 => k_is)
    (case a2 => k_is)
    (case a3 => k_is)
    (case a4 => k_is)
    (case a5 => k_is)
    (case a6 => k_is)
    (case a7 => k_is)
    (case a8 => k_is)
    (case a9 => k_is)
    (case a10 => k_is)
    (case a11 => k_is)
    (case a12 => k_is)
    (case a13 => k_is)
    (case a14 => k_is)
    (case a15 => k_is)
    (case a16 => k_is)
    (case a17 => k_is)
    (case a18 => k_is)
    (case a19 => k_is)
    (case a20 => k_is)
    (case a21 => k_is)
    (case a22 => k_is)
    (case a23 => k_is)
    (case a24 => k_is)
    (case a25 => k_is)
    (case a26 => k_is)
    (case a27 => k_is)
    (case a28 => k_is)
    (case a29 => k_is)
    (case a30 => k_is)
    (case a31 => k_is)
    (case a32 => k_is)
    (case a33 => k_is)
    (case l0 => k_is)
    (case c0 => k_is)
    (case k0 => k_is)
    (case l1 => k_is)
    (case c1 => k_is)
    (case k1 => k_is)
    (case l2 => k_is)
    (case c2 => k_is)
    (case k2 => k_is)
    (case l3 => k_is)
    (case c3 => k_is)
    (case k3 => k_is)
    (case l4 => k_is)
    (case c4 => k_is)
    (case k4 => k_is)
    (case l5 => k_is)
    (case c5 => k_is)
    (case k5 => k_is)
    (case l6 => k_is)
    (case c6 => k_is)
    (case k6 => k_is)
    (case l7 => k_is)
    (case c7 => k_is)
    (case k7 => k_is)
    (case l8 => k_is)
    (case c8 => k_is)
    (case k8 => k_is)
    (case l9 => k_is)
    (case c9 => k_is)
    (case k9 => k_is)
    (case l10 => k_is)
    (case c10 => k_is)
    (case k10 => k_is)
    (case l11 => k_is)
    (case c11 => k_is)
    (case k11 => k_is)
    (case l12 => k_is)
    (case c12 => k_is)
    (case k12 => k_is)
    (case l13 => k_is)
    (case c13 => k_is)
    (case k13 => k_is)
    (case l14 => k_is)
    (case c14 => k_is)
    (case k14 => k_is)
    (case l15 => k_is)
    (case c15 => k_is)
    (case k15 => k_is)
    (case l16 => k_is)
    (case c16 => k_is)
    (case k16 => k_is)
    (case l17 => k_is)
    (case c17 => k_is)
    (case k17 => k_is)
    (case l18 => k_is)
    (case c18 => k_is)
    (case k18 => k_is)
    (case l19 => k_is)
    (case c19 => k_is)
    (case k19 => k_is)
    (case l20 => k_is)
    (case c20 => k_is)
    (case k20 => k_is)
    (case l21 => k_is)
    (case c21 => k_is)
    (case k21 => k_is)
    (case l22 => k_is)
    (case c22 => k_is)
    (case k22 => k_is)
    (case l23 => k_is)
    (case c23 => k_is)
    (case k23 => k_is)
    (case l24 => k_is)
    (case c24 => k_is)
    (case k24 => k_is)
    (case l25 => k_is)
    (case c25 => k_is)
    (case k25 => k_is)
    (case l26 => k_is)
    (case c26 => k_is)
    (case k26 => k_is)
    (case l27 => k_is)
    (case c27 => k_is)
    (case k27 => k_is)
    (case l28 => k_is)
    (case c28 => k_is)
    (case k28 => k_is)
    (case l29 => k_is)
    (case c29 => k_is)
    (case k29 => k_is)
    (case l30 => k_is)
    (case c30 => k_is)
    (case k30 => k_is)
    (case l31 => k_is)
    (case c31 => k_is)
    (case k31 => k_is)
    (case l32 => k_is)
    (case c32 => k_is)
    (case k32 => k_is)
    (case l33 => k_is)
    (case c33 => k_is)
    (case k33 => k_is)
    (case z0 => k_is)
    (case z1 => k_is)
    (case z2 => k_is)
    (case z3 => k_is)
    (case z4 => k_is)
    (case z5 => k_is)
    (case z6 => k_is)
    (case z7 => k_is)
    (case z8 => k_is)
    (case z9 => k_is)
    (case z10 => k_is)
    (case z11 => k_is)
    (case y0 => k_is)
    (case y1 => k_is)
    (case bc0 => k_is)
    (case tc0 => k_is)
    (case hd0 => k_is)
    (case sb0_0 => first | rfl | k_is)
    (case kc1 => k_is)
    (case xc1 => k_exc)
    (case bc1 => k_is)
    (case tc1 => k_is)
    (case hd1 => k_is)
    (case sb1_0 => first | rfl | k_is)
    (case hg1 => k_is)
    (case hk1 => k_is)
    (case ha1 => k_is)
    (case hm1 => k_is)
    (case sb1_1 => first | rfl | k_is)
    (case sb1_2 => first | rfl | k_is)
    (case ne1_2 => first | rfl | decide | k_is)
    (case sb1_3 => first | rfl | k_is)
    (case ne1_3 => first | rfl | decide | k_is)
    (case sb1_4 => first | rfl | k_is)
    (case ne1_4 => first | rfl | decide | k_is)
    (case sb1_5 => first | rfl | k_is)
    (case ne1_5 => first | rfl | decide | k_is)
    (case sb1_6 => first | rfl | k_is)
    (case ne1_6 => first | rfl | decide | k_is)
    (case v1 => k_is)
    (case kc2 => k_is)
    (case xc2 => k_exc)
    (case bc2 => k_is)
    (case tc2 => k_is)
    (case hd2 => k_is)
    (case sb2_0 => first | rfl | k_is)
    (case hg2 => k_is)
    (case hk2 => k_is)
    (case ha2 => k_is)
    (case hm2 => k_is)
    (case sb2_1 => first | rfl | k_is)
    (case ne2_1 => first | rfl | decide | k_is)
    (case sb2_2 => first | rfl | k_is)
    (case sb2_3 => first | rfl | k_is)
    (case ne2_3 => first | rfl | decide | k_is)
    (case sb2_4 => first | rfl | k_is)
    (case ne2_4 => first | rfl | decide | k_is)
    (case sb2_5 => first | rfl | k_is)
    (case ne2_5 => first | rfl | decide | k_is)
    (case sb2_6 => first | rfl | k_is)
    (case ne2_6 => first | rfl | decide | k_is)
    (case v2 => k_is)
    (case kc3 => k_is)
    (case xc3 => k_exc)
    (case bc3 => k_is)
    (case tc3 => k_is)
    (case hd3 => k_is)
    (case sb3_0 => first | rfl | k_is)
    (case hg3 => k_is)
    (case hk3 => k_is)
    (case ha3 => k_is)
    (case hm3 => k_is)
    (case sb3_1 => first | rfl | k_is)
    (case ne3_1 => first | rfl | decide | k_is)
    (case sb3_2 => first | rfl | k_is)
    (case ne3_2 => first | rfl | decide | k_is)
    (case sb3_3 => first | rfl | k_is)
    (case sb3_4 => first | rfl | k_is)
    (case ne3_4 => first | rfl | decide | k_is)
    (case sb3_5 => first | rfl | k_is)
    (case ne3_5 => first | rfl | decide | k_is)
    (case sb3_6 => first | rfl | k_is)
    (case ne3_6 => first | rfl | decide | k_is)
    (case v3 => k_is)
    (case kc4 => k_is)
    (case xc4 => k_exc)
    (case bc4 => k_is)
    (case tc4 => k_is)
    (case hd4 => k_is)
    (case sb4_0 => first | rfl | k_is)
    (case hg4 => k_is)
    (case hk4 => k_is)
    (case ha4 => k_is)
    (case hm4 => k_is)
    (case sb4_1 => first | rfl | k_is)
    (case ne4_1 => first | rfl | decide | k_is)
    (case sb4_2 => first | rfl | k_is)
    (case ne4_2 => first | rfl | decide | k_is)
    (case sb4_3 => first | rfl | k_is)
    (case ne4_3 => first | rfl | decide | k_is)
    (case sb4_4 => first | rfl | k_is)
    (case sb4_5 => first | rfl | k_is)
    (case ne4_5 => first | rfl | decide | k_is)
    (case sb4_6 => first | rfl | k_is)
    (case ne4_6 => first | rfl | decide | k_is)
    (case v4 => k_is)
    (case kc5 => k_is)
    (case bc5 => k_is)
    (case tc5 => k_is)
    (case hd5 => k_is)
    (case sb5_0 => first | rfl | k_is)
    (case hg5 => k_is)
    (case hk5 => k_is)
    (case ha5 => k_is)
    (case hm5 => k_is)
    (case sb5_1 => first | rfl | k_is)
    (case ne5_1 => first | rfl | decide | k_is)
    (case sb5_2 => first | rfl | k_is)
    (case ne5_2 => first | rfl | decide | k_is)
    (case sb5_3 => first | rfl | k_is)
    (case ne5_3 => first | rfl | decide | k_is)
    (case sb5_4 => first | rfl | k_is)
    (case ne5_4 => first | rfl | decide | k_is)
    (case sb5_5 => first | rfl | k_is)
    (case sb5_6 => first | rfl | k_is)
    (case ne5_6 => first | rfl | decide | k_is)
    (case v5 => k_is)
    (case kc6 => k_is)
    (case bc6 => k_is)
    (case tc6 => k_is)
    (case hd6 => k_is)
    (case sb6_0 => first | rfl | k_is)
    (case hg6 => k_is)
    (case hk6 => k_is)
    (case ha6 => k_is)
    (case hm6 => k_is)
    (case sb6_1 => first | rfl | k_is)
    (case ne6_1 => first | rfl | decide | k_is)
    (case sb6_2 => first | rfl | k_is)
    (case ne6_2 => first | rfl | decide | k_is)
    (case sb6_3 => first | rfl | k_is)
    (case ne6_3 => first | rfl | decide | k_is)
    (case sb6_4 => first | rfl | k_is)
    (case ne6_4 => first | rfl | decide | k_is)
    (case sb6_5 => first | rfl | k_is)
    (case ne6_5 => first | rfl | decide | k_is)
    (case sb6_6 => first | rfl | k_is)
    (case v6 => k_is)
    (case hn => k_is)
    (case ht => k_is)
