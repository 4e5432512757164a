import PyProof.Rows.All
import Wide.All
import OpenK.AllK
import Wide.FinOn
import HandS.ForMost
import HandS.ForExc
import HandS.ExcOwn
import HandS.ExcValue
import HandS.ExcIs
import HandS.Lambda
import KE.KNestM
import HandS.IsInst
import HandS.TupMul
import HandS.TupLe
import HandS.Wide
import HandS.Steps
import HandS.Replace
import HandS.Conv
import HandS.Zip
import HandS.RaiseMore
import HandS.Style
import PyProof.ReprReads
import PyProof.SliceList
import KE.KRevSl
import HandS.Set
import HandS.EndOwn
import KE.GoesEnum
import HandS.Iter
import HandS.Codes
import PySem.Challenge.RW_oneuseheads_k66_machines_judged_and_led
/-! ## TrA -/
set_option Elab.async false
set_option linter.all false
set_option maxRecDepth 100000
set_option maxHeartbeats 2000000
/-! The tree layer: values as trees, changeable things as numbered cells; readings of the hand layer as functions on these. -/
namespace Tr
open PySem PySem.Spec PyProof.Rows L2
/-- a value: v a scalar or a reference that is only handed on; tup, lst by what stands in them; r the n-th cell; exn a caught error of the class of that name; lam the n-th lambda of the frame -/
inductive D where
  | v (x : V) | tup (xs : List D) | lst (xs : List D) | r (n : Nat) | exn (c : Str) | lam (n : Nat)
inductive Cell where
  | lst (xs : List D)
  | dic (kvs : List (Key × D))
  | tab (q : Str)
abbrev Mu := List Cell
abbrev En := List (Option D)
/-- a caught error, kept as a value -/
def ErrO (cls : Value) (a : Addr) : HO := .ext fun h => ∃ (oe : Obj) (vs : Array Value), h.get? a = some oe ∧ Zc cls none oe ∧ oe.data = .fields vs
/-- where the cells stand; which addresses no list or error of ours stands at -/
structure Cs where
  at_ : List Addr
  no : Addr → Prop
/-- a list of the written part -/
def KLs (K : PySem.W.Frag) (a : Addr) (xs : List V) : Prop := ∃ (o : Obj) (its : Array Value) (n : Nat), K.lookup a = some o ∧ o.cls = .type "list" ∧ o.dict = none ∧ o.data = .seq its n ∧ its.size ≤ sizeLine ∧ Vals xs its.toList
/-- a list that no cell stands for -/
def SqN (K : PySem.W.Frag) (θ : Cs) (H : Hp) (p : Addr) (vs : List V) : Prop := (¬ θ.no p ∧ Rd H p (.lst vs)) ∨ KLs K p vs
theorem SqN.sq {K : PySem.W.Frag} {θ : Cs} {H : Hp} {p : Addr} {vs : List V} (h : SqN K θ H p vs) : SqL K H p vs := h.imp And.right id
theorem SqN.hide {K : PySem.W.Frag} {θ : Cs} {H : Hp} {p q : Addr} {vs : List V} (h : SqN K θ H q vs) (hp : H p = none) : SqN K ⟨θ.at_, fun a => θ.no a ∨ a = p⟩ H q vs := by
  rcases h with ⟨n, h2⟩ | h
  · refine .inl ⟨fun z => z.elim n fun z => ?_, h2⟩
    rw [z] at h2
    rcases h2 with h2 | ⟨o, h2⟩
    · rw [hp] at h2
      cases h2
    · rw [hp] at h2
      cases h2
  · exact .inr h
theorem SqN.at_hidden {K : PySem.W.Frag} {θ : Cs} {H : Hp} {p q : Addr} {vs : List V} {o : HO} (h : SqN K θ H q vs) (hp : θ.no p) : SqN K θ (upd H p o) q vs := by
  rcases h with ⟨n, h2⟩ | h
  · have ne : q ≠ p := fun z => n (by rw [z]; exact hp)
    refine .inl ⟨n, ?_⟩
    rcases h2 with h2 | ⟨o', h2⟩
    · exact .inl (by rw [upd_ne ne]; exact h2)
    · exact .inr ⟨o', by rw [upd_ne ne]; exact h2⟩
  · exact .inr h
theorem SqN.less {K : PySem.W.Frag} {θ θ' : Cs} {H : Hp} {q : Addr} {vs : List V} (h : SqN K θ H q vs) (l : ∀ a, θ'.no a → θ.no a) : SqN K θ' H q vs := h.imp (fun ⟨n, h2⟩ => ⟨fun z => n (l _ z), h2⟩) id
def okV : V → Prop
  | .str z => z.length ≤ sizeLine
  | _ => True
/-- what the lambdas of the def x are called -/
def lamQual (x : Str) : Str := x ++ ".<locals>." ++ "<lambda>"
/-- the lambdas of the frame as objects: the n-th at that address, its code object there; a code object of theirs -/
structure LOs where
  fn : Nat → Addr → Addr → HO
  co : Addr → HO
/-- what a reading leans on: the written part, the module's names, what the lambdas of the frame are -/
structure G where
  K : PySem.W.Frag
  mg : Str → Option Value
  LO : LOs
section
variable (g : G) (θ : Cs)
mutual
def Rp (H : Hp) : D → V → Prop
  | .v x, u => u = x ∧ okV x
  | .tup xs, u => ∃ p vs, u = .ref p ∧ SqT g.K H p vs ∧ RpL H xs vs
  | .lst xs, u => ∃ p vs, u = .ref p ∧ SqN g.K θ H p vs ∧ RpL H xs vs
  | .r n, u => ∃ p, θ.at_[n]? = some p ∧ u = .ref p
  | .exn c, u => ∃ p C, u = .ref p ∧ ¬ θ.no p ∧ g.mg c = some (.ref C) ∧ H p = some (ErrO (.ref C) p)
  | .lam n, u => ∃ p c, u = .ref p ∧ ¬ θ.no p ∧ H p = some (g.LO.fn n p c) ∧ ¬ θ.no c ∧ H c = some (g.LO.co c)
def RpL (H : Hp) : List D → List V → Prop
  | [], vs => vs = []
  | x :: xs, vs => ∃ v r, vs = v :: r ∧ Rp H x v ∧ RpL H xs r
end
def RpK (H : Hp) : List (Key × D) → List (Key × V) → Prop
  | [], vs => vs = []
  | x :: xs, vs => ∃ v r, vs = (x.1, v) :: r ∧ Rp g θ H x.2 v ∧ RpK H xs r
/-- a table of code objects, each of the name q -/
def TabT (H : Hp) (P : Addr) (q : Str) : Prop := ∃ ps : Array Value, H P = some (.tbl ps) ∧ TriplesOk ps.toList ∧ ∀ (pos : Pos) (cv : Value), codeAmong pos ps.toList = some cv → ∃ c, cv = .ref c ∧ ¬ θ.no c ∧ H c = some (LamX.CodeO c q)
def CellOk (H : Hp) : Cell → Addr → Prop
  | .lst xs, p => ∃ vs, H p = some (.lst vs) ∧ RpL g θ H xs vs
  | .dic kvs, p => ∃ vs, H p = some (.dK vs) ∧ RpK g θ H kvs vs
  | .tab x, p => (∃ c, PySem.W.tabIn g.K x = some (c, p)) ∧ TabT θ H p (lamQual x)
/-- the cells stand as told -/
structure Rel (μ : Mu) (H : Hp) : Prop where
  len : θ.at_.length = μ.length
  nd : θ.at_.Nodup
  sub : ∀ a ∈ θ.at_, θ.no a
  so : ∀ a, θ.no a → H a ≠ none
  ok : ∀ (n : Nat) (c : Cell), μ[n]? = some c → ∃ p, θ.at_[n]? = some p ∧ CellOk g θ H c p
def REnv (H : Hp) (σ : L2.St) (ρ : En) : Prop := ρ.length ≤ σ.length ∧ ∀ (i : Nat) (d : D), ρ[i]? = some (some d) → ∃ u, σ[i]? = some (some u) ∧ Rp g θ H d u
end
/-- from one standing to a later one: what is no cell stays, the cells stay cells -/
structure Ext (θ : Cs) (H : Hp) (θ' : Cs) (H' : Hp) : Prop where
  pre : ∃ more, θ'.at_ = θ.at_ ++ more
  keep : ∀ a o, ¬ θ.no a → H a = some o → H' a = some o ∧ ¬ θ'.no a
  hid : ∀ a o, a ∉ θ.at_ → H a = some o → H' a = some o ∧ a ∉ θ'.at_
  tups : ∀ a xs, H a = some (.tup xs) → H' a = some (.tup xs)
  frzs : ∀ a o u, H a = some (.frz o u) → H' a = some (.frz o u)
  free : ∀ a, H' a = none → H a = none
  mono : ∀ a, θ.no a → θ'.no a
section
variable {g : G} {θ θ' θ2 : Cs} {H H' H2 : Hp}
theorem Ext.refl (θ : Cs) (H : Hp) : Ext θ H θ H := ⟨⟨[], by simp⟩, fun _ _ n h => ⟨h, n⟩, fun _ _ n h => ⟨h, n⟩, fun _ _ h => h, fun _ _ _ h => h, fun _ h => h, fun _ h => h⟩
theorem Ext.get (e : Ext θ H θ' H') {n : Nat} {p : Addr} (h : θ.at_[n]? = some p) : θ'.at_[n]? = some p := by
  obtain ⟨m, hm⟩ := e.pre
  rw [hm, List.getElem?_append_left (List.getElem?_eq_some_iff.mp h).1]
  exact h
theorem Ext.trans (a : Ext θ H θ' H') (b : Ext θ' H' θ2 H2) : Ext θ H θ2 H2 := by
  refine ⟨?_, fun x o n h => ?_, fun x o n h => ?_, fun x xs h => b.tups _ _ (a.tups _ _ h), fun x o u h => b.frzs _ _ _ (a.frzs _ _ _ h), fun x h => a.free x (b.free x h), fun x h => b.mono x (a.mono x h)⟩
  · obtain ⟨m1, h1⟩ := a.pre
    obtain ⟨m2, h2⟩ := b.pre
    exact ⟨m1 ++ m2, by rw [h2, h1]; simp⟩
  · obtain ⟨h1, n1⟩ := a.keep x o n h
    exact b.keep x o n1 h1
  · obtain ⟨h1, n1⟩ := a.hid x o n h
    exact b.hid x o n1 h1
theorem Ext.rd (e : Ext θ H θ' H') {p : Addr} {vs : List V} (h : Rd H p (.tup vs)) : Rd H' p (.tup vs) := by
  rcases h with h | ⟨o, h⟩
  · exact .inl (e.tups _ _ h)
  · exact .inr ⟨o, e.frzs _ _ _ h⟩
theorem Ext.sqT {K : PySem.W.Frag} (e : Ext θ H θ' H') {p : Addr} {vs : List V} (h : SqT K H p vs) : SqT K H' p vs := h.elim (fun h => .inl (e.rd h)) .inr
theorem Ext.rdL (e : Ext θ H θ' H') {p : Addr} {vs : List V} (n : ¬ θ.no p) (h : Rd H p (.lst vs)) : Rd H' p (.lst vs) ∧ ¬ θ'.no p := by
  rcases h with h | ⟨o, h⟩
  · exact ⟨.inl (e.keep _ _ n h).1, (e.keep _ _ n h).2⟩
  · exact ⟨.inr ⟨o, (e.keep _ _ n h).1⟩, (e.keep _ _ n h).2⟩
theorem Ext.sqN {K : PySem.W.Frag} (e : Ext θ H θ' H') {p : Addr} {vs : List V} (h : SqN K θ H p vs) : SqN K θ' H' p vs := h.imp (fun ⟨n, h2⟩ => ⟨(e.rdL n h2).2, (e.rdL n h2).1⟩) id
mutual
theorem Rp.ext (e : Ext θ H θ' H') : ∀ {d : D} {u : V}, Rp g θ H d u → Rp g θ' H' d u
  | .v _, _, h => by
    unfold Rp at h ⊢
    exact h
  | .tup xs, u, h => by
    unfold Rp at h ⊢
    obtain ⟨p, vs, h1, h2, h3⟩ := h
    exact ⟨p, vs, h1, e.sqT h2, RpL.ext e h3⟩
  | .lst xs, u, h => by
    unfold Rp at h ⊢
    obtain ⟨p, vs, h1, h2, h3⟩ := h
    exact ⟨p, vs, h1, e.sqN h2, RpL.ext e h3⟩
  | .r n, u, h => by
    unfold Rp at h ⊢
    obtain ⟨p, h1, h2⟩ := h
    exact ⟨p, e.get h1, h2⟩
  | .exn c, u, h => by
    unfold Rp at h ⊢
    obtain ⟨p, C, h1, n, h2, h3⟩ := h
    exact ⟨p, C, h1, (e.keep _ _ n h3).2, h2, (e.keep _ _ n h3).1⟩
  | .lam k, u, h => by
    unfold Rp at h ⊢
    obtain ⟨p, c, h1, n, h3, n2, h4⟩ := h
    exact ⟨p, c, h1, (e.keep _ _ n h3).2, (e.keep _ _ n h3).1, (e.keep _ _ n2 h4).2, (e.keep _ _ n2 h4).1⟩
theorem RpL.ext (e : Ext θ H θ' H') : ∀ {ds : List D} {us : List V}, RpL g θ H ds us → RpL g θ' H' ds us
  | [], _, h => by
    unfold RpL at h ⊢
    exact h
  | d :: ds, _, h => by
    unfold RpL at h ⊢
    obtain ⟨v, r, h1, h2, h3⟩ := h
    exact ⟨v, r, h1, Rp.ext e h2, RpL.ext e h3⟩
end
theorem RpK.ext (e : Ext θ H θ' H') : ∀ {ds : List (Key × D)} {us : List (Key × V)}, RpK g θ H ds us → RpK g θ' H' ds us
  | [], _, h => h
  | d :: ds, _, ⟨v, r, h1, h2, h3⟩ => ⟨v, r, h1, h2.ext e, RpK.ext e h3⟩
theorem REnv.ext {σ : L2.St} {ρ : En} (h : REnv g θ H σ ρ) (e : Ext θ H θ' H') : REnv g θ' H' σ ρ := ⟨h.1, fun i d q => by
  obtain ⟨u, h1, h2⟩ := h.2 i d q
  exact ⟨u, h1, h2.ext e⟩⟩
theorem REnv.set {σ : L2.St} {ρ : En} (h : REnv g θ H σ ρ) {d : D} {u : V} (r : Rp g θ H d u) (i : Nat) : REnv g θ H (σ.set i (some u)) (ρ.set i (some d)) := ⟨by simpa using h.1, fun j d' q => by
  by_cases e : i = j
  · subst e
    have hl : i < ρ.length := by
      have z := (List.getElem?_eq_some_iff.mp q).1
      simpa using z
    rw [List.getElem?_set_self hl] at q
    cases q
    exact ⟨u, List.getElem?_set_self (Nat.lt_of_lt_of_le hl h.1), r⟩
  · rw [List.getElem?_set_ne e] at q
    obtain ⟨u', h1, h2⟩ := h.2 j d' q
    exact ⟨u', by rw [List.getElem?_set_ne e]; exact h1, h2⟩⟩
/-- a slot forgotten -/
theorem REnv.unset {σ : L2.St} {ρ : En} (h : REnv g θ H σ ρ) (i : Nat) : REnv g θ H (σ.set i none) (ρ.set i none) := ⟨by simpa using h.1, fun j d' q => by
  by_cases e : i = j
  · subst e
    have hl : i < ρ.length := by
      have z := (List.getElem?_eq_some_iff.mp q).1
      simpa using z
    rw [List.getElem?_set_self hl] at q
    cases q
  · rw [List.getElem?_set_ne e] at q
    obtain ⟨u', h1, h2⟩ := h.2 j d' q
    exact ⟨u', by rw [List.getElem?_set_ne e]; exact h1, h2⟩⟩
theorem CellOk.isSome {c : Cell} {p : Addr} (h : CellOk g θ H c p) : H p ≠ none := by
  cases c with
  | lst xs => obtain ⟨vs, h, _⟩ := h; rw [h]; exact fun z => by cases z
  | dic xs => obtain ⟨vs, h, _⟩ := h; rw [h]; exact fun z => by cases z
  | tab q => obtain ⟨_, vs, h, _⟩ := h; rw [h]; exact fun z => by cases z
/-- a new thing beside the cells -/
theorem Ext.new {p : Addr} {o : HO} (hp : H p = none) : Ext θ H θ (upd H p o) := by
  refine ⟨⟨[], by simp⟩, fun a o' n h => ⟨?_, n⟩, fun a o' n h => ⟨?_, n⟩, fun a xs h => ?_, fun a o' u h => ?_, fun a h => ?_, fun _ h => h⟩
  · rw [upd_ne (ne_of_none h hp)]; exact h
  · rw [upd_ne (ne_of_none h hp)]; exact h
  · rw [upd_ne (ne_of_none h hp)]; exact h
  · rw [upd_ne (ne_of_none h hp)]; exact h
  · by_cases e : a = p
    · rw [e, upd_same] at h; cases h
    · rw [upd_ne e] at h; exact h
/-- a cell that stays as it was -/
theorem CellOk.ext (e : Ext θ H θ' H') {c : Cell} {p : Addr} (k : H' p = H p) (h : CellOk g θ H c p) : CellOk g θ' H' c p := by
  cases c with
  | lst xs =>
    obtain ⟨vs, h, h2⟩ := h
    exact ⟨vs, by rw [k]; exact h, h2.ext e⟩
  | dic xs =>
    obtain ⟨vs, h, h2⟩ := h
    exact ⟨vs, by rw [k]; exact h, h2.ext e⟩
  | tab q =>
    obtain ⟨ht, ps, h, h2, h3⟩ := h
    refine ⟨ht, ps, by rw [k]; exact h, h2, fun pos cv q => ?_⟩
    obtain ⟨c, e1, e2, e3⟩ := h3 pos cv q
    exact ⟨c, e1, (e.keep _ _ e2 e3).2, (e.keep _ _ e2 e3).1⟩
/-- the cells behind a step that leaves them -/
theorem Rel.ext {μ : Mu} (R : Rel g θ μ H) (e : Ext θ H θ H') (k : ∀ a, θ.no a → H' a = H a) : Rel g θ μ H' := ⟨R.len, R.nd, R.sub, fun a n => by rw [k a n]; exact R.so a n, fun n c q => by
  obtain ⟨p, h1, h2⟩ := R.ok n c q
  exact ⟨p, h1, h2.ext e (k p (R.sub p (List.mem_of_getElem? h1)))⟩⟩
theorem Rel.new {μ : Mu} (R : Rel g θ μ H) {p : Addr} {o : HO} (hp : H p = none) : Ext θ H θ (upd H p o) ∧ Rel g θ μ (upd H p o) ∧ ¬ θ.no p := by
  have e := Ext.new (θ := θ) (o := o) hp
  refine ⟨e, R.ext e fun a ha => upd_ne fun z => ?_, fun hm => R.so p hm hp⟩
  rw [z] at ha
  exact R.so p ha hp
/-! ### an address that nothing of ours stands at -/
/-- p is hidden from now on -/
abbrev Cs.hide (θ : Cs) (p : Addr) : Cs := ⟨θ.at_, fun a => θ.no a ∨ a = p⟩
/-- p is hidden no more -/
abbrev Cs.bare (θ : Cs) (p : Addr) : Cs := ⟨θ.at_, fun a => θ.no a ∧ a ≠ p⟩
mutual
theorem Rp.hide {p : Addr} (hp : H p = none) : ∀ {d : D} {u : V}, Rp g θ H d u → Rp g (θ.hide p) H d u
  | .v _, _, h => by
    unfold Rp at h ⊢
    exact h
  | .tup xs, u, h => by
    unfold Rp at h ⊢
    obtain ⟨q, vs, h1, h2, h3⟩ := h
    exact ⟨q, vs, h1, h2, RpL.hide hp h3⟩
  | .lst xs, u, h => by
    unfold Rp at h ⊢
    obtain ⟨q, vs, h1, h2, h3⟩ := h
    exact ⟨q, vs, h1, h2.hide hp, RpL.hide hp h3⟩
  | .r n, u, h => by
    unfold Rp at h ⊢
    exact h
  | .exn c, u, h => by
    unfold Rp at h ⊢
    obtain ⟨q, C, h1, n, h2, h3⟩ := h
    refine ⟨q, C, h1, fun z => z.elim n fun z => ?_, h2, h3⟩
    rw [z, hp] at h3
    cases h3
  | .lam k, u, h => by
    unfold Rp at h ⊢
    obtain ⟨q, c, h1, n, h3, n2, h4⟩ := h
    refine ⟨q, c, h1, fun z => z.elim n fun z => ?_, h3, fun z => z.elim n2 fun z => ?_, h4⟩
    · rw [z, hp] at h3
      cases h3
    · rw [z, hp] at h4
      cases h4
theorem RpL.hide {p : Addr} (hp : H p = none) : ∀ {ds : List D} {us : List V}, RpL g θ H ds us → RpL g (θ.hide p) H ds us
  | [], _, h => by
    unfold RpL at h ⊢
    exact h
  | d :: ds, _, h => by
    unfold RpL at h ⊢
    obtain ⟨v, r, h1, h2, h3⟩ := h
    exact ⟨v, r, h1, Rp.hide hp h2, RpL.hide hp h3⟩
end
mutual
/-- what stands at a hidden address does not matter -/
theorem Rp.at_hidden {p : Addr} {o : HO} (hp : θ.no p) (nt : ∀ xs, H p ≠ some (.tup xs)) (nf : ∀ o u, H p ≠ some (.frz o u)) : ∀ {d : D} {u : V}, Rp g θ H d u → Rp g θ (upd H p o) d u
  | .v _, _, h => by
    unfold Rp at h ⊢
    exact h
  | .tup xs, u, h => by
    unfold Rp at h ⊢
    obtain ⟨q, vs, h1, h2, h3⟩ := h
    refine ⟨q, vs, h1, h2.elim (fun h2 => .inl (h2.elim (fun h2 => .inl ?_) fun ⟨o', h2⟩ => .inr ⟨o', ?_⟩)) .inr, RpL.at_hidden hp nt nf h3⟩
    · rw [upd_ne fun z => nt vs (by rw [← z]; exact h2)]; exact h2
    · rw [upd_ne fun z => nf o' (.tup vs) (by rw [← z]; exact h2)]; exact h2
  | .lst xs, u, h => by
    unfold Rp at h ⊢
    obtain ⟨q, vs, h1, h2, h3⟩ := h
    exact ⟨q, vs, h1, h2.at_hidden hp, RpL.at_hidden hp nt nf h3⟩
  | .r n, u, h => by
    unfold Rp at h ⊢
    exact h
  | .exn c, u, h => by
    unfold Rp at h ⊢
    obtain ⟨q, C, h1, n, h2, h3⟩ := h
    exact ⟨q, C, h1, n, h2, by rw [upd_ne (fun z => n (by rw [z]; exact hp))]; exact h3⟩
  | .lam k, u, h => by
    unfold Rp at h ⊢
    obtain ⟨q, c, h1, n, h3, n2, h4⟩ := h
    exact ⟨q, c, h1, n, by rw [upd_ne (fun z => n (by rw [z]; exact hp))]; exact h3, n2, by rw [upd_ne (fun z => n2 (by rw [z]; exact hp))]; exact h4⟩
theorem RpL.at_hidden {p : Addr} {o : HO} (hp : θ.no p) (nt : ∀ xs, H p ≠ some (.tup xs)) (nf : ∀ o u, H p ≠ some (.frz o u)) : ∀ {ds : List D} {us : List V}, RpL g θ H ds us → RpL g θ (upd H p o) ds us
  | [], _, h => by
    unfold RpL at h ⊢
    exact h
  | d :: ds, _, h => by
    unfold RpL at h ⊢
    obtain ⟨v, r, h1, h2, h3⟩ := h
    exact ⟨v, r, h1, Rp.at_hidden hp nt nf h2, RpL.at_hidden hp nt nf h3⟩
end
mutual
theorem Rp.bare {p : Addr} : ∀ {d : D} {u : V}, Rp g θ H d u → Rp g (θ.bare p) H d u
  | .v _, _, h => by
    unfold Rp at h ⊢
    exact h
  | .tup xs, u, h => by
    unfold Rp at h ⊢
    obtain ⟨q, vs, h1, h2, h3⟩ := h
    exact ⟨q, vs, h1, h2, RpL.bare h3⟩
  | .lst xs, u, h => by
    unfold Rp at h ⊢
    obtain ⟨q, vs, h1, h2, h3⟩ := h
    exact ⟨q, vs, h1, h2.less fun a z => z.1, RpL.bare h3⟩
  | .r n, u, h => by
    unfold Rp at h ⊢
    exact h
  | .exn c, u, h => by
    unfold Rp at h ⊢
    obtain ⟨q, C, h1, n, h2, h3⟩ := h
    exact ⟨q, C, h1, fun z => n z.1, h2, h3⟩
  | .lam k, u, h => by
    unfold Rp at h ⊢
    obtain ⟨q, c, h1, n, h3, n2, h4⟩ := h
    exact ⟨q, c, h1, fun z => n z.1, h3, fun z => n2 z.1, h4⟩
theorem RpL.bare {p : Addr} : ∀ {ds : List D} {us : List V}, RpL g θ H ds us → RpL g (θ.bare p) H ds us
  | [], _, h => by
    unfold RpL at h ⊢
    exact h
  | d :: ds, _, h => by
    unfold RpL at h ⊢
    obtain ⟨v, r, h1, h2, h3⟩ := h
    exact ⟨v, r, h1, Rp.bare h2, RpL.bare h3⟩
end
theorem RpK.hide {p : Addr} (hp : H p = none) : ∀ {ds : List (Key × D)} {us : List (Key × V)}, RpK g θ H ds us → RpK g (θ.hide p) H ds us
  | [], _, h => h
  | d :: ds, _, ⟨v, r, h1, h2, h3⟩ => ⟨v, r, h1, h2.hide hp, RpK.hide hp h3⟩
theorem RpK.at_hidden {p : Addr} {o : HO} (hp : θ.no p) (nt : ∀ xs, H p ≠ some (.tup xs)) (nf : ∀ o u, H p ≠ some (.frz o u)) : ∀ {ds : List (Key × D)} {us : List (Key × V)}, RpK g θ H ds us → RpK g θ (upd H p o) ds us
  | [], _, h => h
  | d :: ds, _, ⟨v, r, h1, h2, h3⟩ => ⟨v, r, h1, h2.at_hidden hp nt nf, RpK.at_hidden hp nt nf h3⟩
theorem RpK.bare {p : Addr} : ∀ {ds : List (Key × D)} {us : List (Key × V)}, RpK g θ H ds us → RpK g (θ.bare p) H ds us
  | [], _, h => h
  | d :: ds, _, ⟨v, r, h1, h2, h3⟩ => ⟨v, r, h1, h2.bare, RpK.bare h3⟩
/-- a cell's content, at another heap, among other hidden ones -/
theorem CellOk.to {c : Cell} {p : Addr} (k : H' p = H p) (fL : ∀ ds us, RpL g θ H ds us → RpL g θ' H' ds us) (fK : ∀ ds us, RpK g θ H ds us → RpK g θ' H' ds us)
    (fC : ∀ a q, ¬ θ.no a → H a = some (LamX.CodeO a q) → ¬ θ'.no a ∧ H' a = some (LamX.CodeO a q)) (h : CellOk g θ H c p) : CellOk g θ' H' c p := by
  cases c with
  | lst xs =>
    obtain ⟨vs, h, h2⟩ := h
    exact ⟨vs, by rw [k]; exact h, fL _ _ h2⟩
  | dic xs =>
    obtain ⟨vs, h, h2⟩ := h
    exact ⟨vs, by rw [k]; exact h, fK _ _ h2⟩
  | tab q =>
    obtain ⟨ht, ps, h, h2, h3⟩ := h
    refine ⟨ht, ps, by rw [k]; exact h, h2, fun pos cv q => ?_⟩
    obtain ⟨c, e1, e2, e3⟩ := h3 pos cv q
    exact ⟨c, e1, fC c _ e2 e3⟩
/-- a new list at p, hidden -/
theorem Rel.hide {μ : Mu} (R : Rel g θ μ H) {p : Addr} {o : HO} (hp : H p = none) : Rel g (θ.hide p) μ (upd H p o) := by
  have nt : ∀ xs, H p ≠ some (.tup xs) := fun xs z => by rw [hp] at z; cases z
  have nf : ∀ o u, H p ≠ some (.frz o u) := fun o u z => by rw [hp] at z; cases z
  have ne : ∀ a, θ.no a → a ≠ p := fun a n z => R.so a n (by rw [z]; exact hp)
  refine ⟨R.len, R.nd, fun a h => .inl (R.sub a h), fun a h => ?_, fun n c q => ?_⟩
  · rcases h with h | h
    · rw [upd_ne (ne a h)]; exact R.so a h
    · rw [h, upd_same]; exact fun z => by cases z
  · obtain ⟨b, h1, h2⟩ := R.ok n c q
    refine ⟨b, h1, h2.to (upd_ne (ne b (R.sub b (List.mem_of_getElem? h1)))) (fun ds us h => (h.hide hp).at_hidden (show (θ.hide p).no p from Or.inr rfl) nt nf) (fun ds us h => (h.hide hp).at_hidden (show (θ.hide p).no p from Or.inr rfl) nt nf) fun a q n h => ?_⟩
    have na : a ≠ p := fun z => by rw [z, hp] at h; cases h
    exact ⟨fun z => z.elim n na, by rw [upd_ne na]; exact h⟩
/-- the hidden list grows -/
theorem Rel.at_hidden {μ : Mu} (R : Rel g θ μ H) {p : Addr} {o : HO} (hp : θ.no p) (hn : p ∉ θ.at_) (nt : ∀ xs, H p ≠ some (.tup xs)) (nf : ∀ o u, H p ≠ some (.frz o u)) : Rel g θ μ (upd H p o) := by
  refine ⟨R.len, R.nd, R.sub, fun a h => ?_, fun n c q => ?_⟩
  · by_cases e : a = p
    · rw [e, upd_same]; exact fun z => by cases z
    · rw [upd_ne e]; exact R.so a h
  · obtain ⟨b, h1, h2⟩ := R.ok n c q
    refine ⟨b, h1, h2.to (upd_ne fun z => hn (by rw [← z]; exact List.mem_of_getElem? h1)) (fun ds us h => h.at_hidden hp nt nf) (fun ds us h => h.at_hidden hp nt nf) fun a q n h => ⟨n, ?_⟩⟩
    rw [upd_ne fun z => n (by rw [z]; exact hp)]
    exact h
/-- the list is shown -/
theorem Rel.bare {μ : Mu} (R : Rel g θ μ H) {p : Addr} (hn : p ∉ θ.at_) : Rel g (θ.bare p) μ H := by
  refine ⟨R.len, R.nd, fun a h => ⟨R.sub a h, fun z => hn (by rw [← z]; exact h)⟩, fun a h => R.so a h.1, fun n c q => ?_⟩
  obtain ⟨b, h1, h2⟩ := R.ok n c q
  exact ⟨b, h1, h2.to rfl (fun ds us h => h.bare) (fun ds us h => h.bare) fun a q n h => ⟨fun z => n z.1, h⟩⟩
theorem REnv.hide {σ : L2.St} {ρ : En} (h : REnv g θ H σ ρ) {p : Addr} (hp : H p = none) : REnv g (θ.hide p) H σ ρ := ⟨h.1, fun i d q => by
  obtain ⟨u, h1, h2⟩ := h.2 i d q
  exact ⟨u, h1, h2.hide hp⟩⟩
theorem REnv.at_hidden {σ : L2.St} {ρ : En} (h : REnv g θ H σ ρ) {p : Addr} {o : HO} (hp : θ.no p) (nt : ∀ xs, H p ≠ some (.tup xs)) (nf : ∀ o u, H p ≠ some (.frz o u)) : REnv g θ (upd H p o) σ ρ := ⟨h.1, fun i d q => by
  obtain ⟨u, h1, h2⟩ := h.2 i d q
  exact ⟨u, h1, h2.at_hidden hp nt nf⟩⟩
end
end Tr
/-! ## TrB -/
set_option Elab.async false
set_option linter.all false
set_option maxRecDepth 100000
set_option maxHeartbeats 2000000
namespace Tr
open PySem PySem.Spec PyProof.Rows L2
/-! ### what a piece of code comes to -/
inductive R (α : Type) where
  | ok (a : α) (μ : Mu) | ex (c : Str) (μ : Mu)
abbrev M (α : Type) := Mu → Option (R α)
def ret {α : Type} (a : α) : M α := fun μ => some (.ok a μ)
def no {α : Type} : M α := fun _ => none
def bnd {α β : Type} (f : M α) (k : α → M β) : M β := fun μ => match f μ with
  | some (.ok a μ') => k a μ'
  | some (.ex c μ') => some (.ex c μ')
  | none => none
def lif {α : Type} (k : Mu → Option α) : M α := fun μ => match k μ with
  | some a => some (.ok a μ)
  | none => none
inductive Out where
  | nx (ρ : En) | rt (d : D) | bk (ρ : En) | ct (ρ : En)
abbrev FE := En → M D
abbrev FT := En → M Bool
abbrev FA := En → M (List D)
abbrev FS := En → M Out
section
variable {α β γ δ : Type}
/-- what follows: Q behind the value, W behind an error -/
def Post (g : G) (W : WX) (θ : Cs) (H : Hp) (σ : L2.St) (rp : Cs → Hp → α → β → Prop) (Q : β → Hp → Prop) : Option (R α) → Prop
  | some (.ok a μ') => ∀ θ' b H', Ext θ H θ' H' → Rel g θ' μ' H' → rp θ' H' a b → Q b H'
  | some (.ex c μ') => ∀ θ' H' C, Ext θ H θ' H' → Rel g θ' μ' H' → g.mg c = some (.ref C) → W (.ref C) none σ H'
  | none => False
variable {g : G} {W : WX} {θ θ' : Cs} {H H' : Hp} {σ : L2.St} {rp : Cs → Hp → α → β → Prop} {rq : Cs → Hp → γ → δ → Prop} {Q : β → Hp → Prop} {Q2 : δ → Hp → Prop} {μ : Mu}
theorem Post.ext (e : Ext θ H θ' H') : ∀ {r : Option (R α)}, Post g W θ H σ rp Q r → Post g W θ' H' σ rp Q r
  | some (.ok _ _), h => fun θ2 b H2 e2 => h θ2 b H2 (e.trans e2)
  | some (.ex _ _), h => fun θ2 H2 C e2 => h θ2 H2 C (e.trans e2)
theorem post_bnd {f : M α} {k : α → M γ} (h : Post g W θ H σ rq Q2 (bnd f k μ))
    (hk : ∀ a μ1 θ1 b H1, Ext θ H θ1 H1 → Rel g θ1 μ1 H1 → rp θ1 H1 a b → Post g W θ1 H1 σ rq Q2 (k a μ1) → Q b H1) : Post g W θ H σ rp Q (f μ) := by
  unfold bnd at h
  cases e : f μ with
  | none => rw [e] at h; exact h
  | some r =>
    rw [e] at h
    cases r with
    | ok a μ1 => exact fun θ1 b H1 e1 r1 p1 => hk a μ1 θ1 b H1 e1 r1 p1 (Post.ext e1 h)
    | ex c μ1 => exact h
theorem post_ret {a : α} {b : β} (h : Post g W θ H σ rp Q (ret a μ)) (R : Rel g θ μ H) (r : rp θ H a b) : Q b H := h θ b H (Ext.refl θ H) R r
theorem post_lif {k : Mu → Option α} (h : Post g W θ H σ rp Q (lif k μ)) : ∃ a, k μ = some a ∧ ∀ θ' b H', Ext θ H θ' H' → Rel g θ' μ H' → rp θ' H' a b → Q b H' := by
  unfold lif at h
  cases e : k μ with
  | none => rw [e] at h; exact h.elim
  | some a => rw [e] at h; exact ⟨a, rfl, h⟩
end
def rpB : Cs → Hp → Bool → Bool → Prop := fun _ _ a b => b = a
def lE (g : G) (W : WX) (f : FE) : TE := fun σ H Q => ∃ θ ρ μ, REnv g θ H σ ρ ∧ Rel g θ μ H ∧ Post g W θ H σ (Rp g) Q (f ρ μ)
def lT (g : G) (W : WX) (f : FT) : TT := fun σ H Q => ∃ θ ρ μ, REnv g θ H σ ρ ∧ Rel g θ μ H ∧ Post g W θ H σ rpB Q (f ρ μ)
def lA (g : G) (W : WX) (f : FA) : TA := fun σ H Q => ∃ θ ρ μ, REnv g θ H σ ρ ∧ Rel g θ μ H ∧ Post g W θ H σ (RpL g) Q (f ρ μ)
/-- what follows a statement -/
def PostS (g : G) (W : WX) (θ : Cs) (H : Hp) (d : Ends) : Option (R Out) → Prop
  | some (.ok (.nx ρ') μ') => ∀ θ' σ' H', Ext θ H θ' H' → Rel g θ' μ' H' → REnv g θ' H' σ' ρ' → d.nx σ' H'
  | some (.ok (.bk ρ') μ') => ∀ θ' σ' H', Ext θ H θ' H' → Rel g θ' μ' H' → REnv g θ' H' σ' ρ' → d.bk σ' H'
  | some (.ok (.ct ρ') μ') => ∀ θ' σ' H', Ext θ H θ' H' → Rel g θ' μ' H' → REnv g θ' H' σ' ρ' → d.ct σ' H'
  | some (.ok (.rt a) μ') => ∀ θ' u H', Ext θ H θ' H' → Rel g θ' μ' H' → Rp g θ' H' a u → d.rt u H'
  | some (.ex c μ') => ∀ θ' σ' H' C, Ext θ H θ' H' → Rel g θ' μ' H' → g.mg c = some (.ref C) → W (.ref C) none σ' H'
  | none => False
theorem PostS.ext {g : G} {W : WX} {θ θ' : Cs} {H H' : Hp} {d : Ends} (e : Ext θ H θ' H') : ∀ {r : Option (R Out)}, PostS g W θ H d r → PostS g W θ' H' d r
  | some (.ok (.nx _) _), h => fun θ2 b H2 e2 => h θ2 b H2 (e.trans e2)
  | some (.ok (.bk _) _), h => fun θ2 b H2 e2 => h θ2 b H2 (e.trans e2)
  | some (.ok (.ct _) _), h => fun θ2 b H2 e2 => h θ2 b H2 (e.trans e2)
  | some (.ok (.rt _) _), h => fun θ2 b H2 e2 => h θ2 b H2 (e.trans e2)
  | some (.ex _ _), h => fun θ2 b H2 C e2 => h θ2 b H2 C (e.trans e2)
def lS (g : G) (W : WX) (f : FS) : TS := fun d σ H => ∃ θ ρ μ, REnv g θ H σ ρ ∧ Rel g θ μ H ∧ PostS g W θ H d (f ρ μ)
def gX (X : Cx) (LO : LOs) : G := ⟨X.K, X.mg, LO⟩
def DE (X : Cx) (LO : LOs) (W : WX) (e : Expr) (f : FE) : Prop := PE X e (lE (gX X LO) W f)
def DT (X : Cx) (LO : LOs) (W : WX) (e : Expr) (f : FT) : Prop := PT X e (lT (gX X LO) W f)
def DW (X : Cx) (LO : LOs) (W : WX) (e : Expr) (f : FT) : Prop := PW X e (lT (gX X LO) W f)
def DA (X : Cx) (LO : LOs) (W : WX) (es : List Expr) (f : FA) : Prop := PA X es (lA (gX X LO) W f)
def DS (X : Cx) (LO : LOs) (W : WX) (st : Stmt) (f : FS) : Prop := PS X st (lS (gX X LO) W f)
def DSs (X : Cx) (LO : LOs) (W : WX) (sts : List Stmt) (f : FS) : Prop := PSs X sts (lS (gX X LO) W f)
section
variable {X : Cx}
theorem pe_imp {e : Expr} {t t' : TE} (h : PE X e t) (i : ∀ σ H Q, t' σ H Q → t σ H Q) : PE X e t' := ⟨fun pins s σ H Q I q => h.run pins s σ H Q I (i σ H Q q)⟩
theorem pt_imp {e : Expr} {t t' : TT} (h : PT X e t) (i : ∀ σ H Q, t' σ H Q → t σ H Q) : PT X e t' := ⟨fun pins s σ H Q I q => h.run pins s σ H Q I (i σ H Q q)⟩
theorem pw_imp {e : Expr} {t t' : TT} (h : PW X e t) (i : ∀ σ H Q, t' σ H Q → t σ H Q) : PW X e t' := ⟨fun wh pins s σ H Q I q => h.run wh pins s σ H Q I (i σ H Q q)⟩
theorem pa_imp {e : List Expr} {t t' : TA} (h : PA X e t) (i : ∀ σ H Q, t' σ H Q → t σ H Q) : PA X e t' := ⟨fun ps pins s σ H Q I q => h.run ps pins s σ H Q I (i σ H Q q)⟩
theorem ps_imp {e : Stmt} {t t' : TS} (h : PS X e t) (i : ∀ d σ H, t' d σ H → t d σ H) : PS X e t' := ⟨fun pins s σ H Q I q => h.run pins s σ H Q I (i Q σ H q)⟩
theorem pss_imp {e : List Stmt} {t t' : TS} (h : PSs X e t) (i : ∀ d σ H, t' d σ H → t d σ H) : PSs X e t' := ⟨fun pins s σ H Q I q => h.run pins s σ H Q I (i Q σ H q)⟩
variable {LO : LOs} {W : WX} {a b c e : Expr} {fa fb fc : FE} {ft fu : FT} {pos : Pos}
/-! ### names, constants -/
def fVar (i : Nat) : FE := fun ρ => match ρ[i]? with
  | some (some d) => ret d
  | _ => no
theorem de_var (i : Nat) {x : Str} (hN : X.N[i]? = some x := by rfl) (hv : Vis X.env.scope x := by first | exact Or.inl rfl | exact Or.inr (Or.inl rfl) | exact Or.inr (Or.inr rfl)) (hd : (x == ("__debug__" : Str)) = false := by decide)
    (hcd : (x == ("__classdict__" : Str)) = false := by decide) : DE X LO W (.Name x pos) (fVar i) := pe_imp (pe_var hN hv hd hcd) fun σ H Q ⟨θ, ρ, μ, re, rl, p⟩ => by
  unfold fVar at p
  cases h : ρ[i]? with
  | none => rw [h] at p; exact p.elim
  | some o =>
    cases o with
    | none => rw [h] at p; exact p.elim
    | some d =>
      rw [h] at p
      obtain ⟨u, h1, h2⟩ := re.2 i d h
      exact ⟨u, h1, post_ret p rl h2⟩
def fC (d : D) : FE := fun _ => ret d
theorem rp_v {g : G} {θ : Cs} {H : Hp} {x : V} (h : okV x) : Rp g θ H (.v x) x := by
  unfold Rp
  exact ⟨rfl, h⟩
theorem de_int {i j} : DE X LO W (.Constant (.int i) j pos) (fC (.v (.int i))) := pe_imp pe_int fun _ _ _ ⟨_, _, _, _, rl, p⟩ => post_ret p rl (rp_v trivial)
theorem de_bl {i j} : DE X LO W (.Constant (.bool i) j pos) (fC (.v (.bl i))) := pe_imp pe_bl fun _ _ _ ⟨_, _, _, _, rl, p⟩ => post_ret p rl (rp_v trivial)
theorem de_non {j} : DE X LO W (.Constant .none j pos) (fC (.v .non)) := pe_imp pe_non fun _ _ _ ⟨_, _, _, _, rl, p⟩ => post_ret p rl (rp_v trivial)
theorem de_str {x : Str} {j} (h : x.length ≤ 1000 := by decide) : DE X LO W (.Constant (.str x) j pos) (fC (.v (.str x))) := pe_imp pe_str fun _ _ _ ⟨_, _, _, _, rl, p⟩ => post_ret p rl (rp_v (show x.length ≤ sizeLine from Nat.le_trans h (by decide)))
/-! ### operators, by trees -/
abbrev Op2 := D → D → Mu → Option D
def rD2 (g : G) (f : Op2) : R2 := fun x y H Q => ∃ θ μ d1 d2 d, Rp g θ H d1 x ∧ Rp g θ H d2 y ∧ Rel g θ μ H ∧ f d1 d2 μ = some d ∧ ∀ θ' u H', Ext θ H θ' H' → Rel g θ' μ H' → Rp g θ' H' d u → Q u H'
def f2 (f : Op2) (fa fb : FE) : FE := fun ρ => bnd (fa ρ) fun x => bnd (fb ρ) fun y => lif (f x y)
theorem op_imp {f : Op2} {σ : L2.St} {H : Hp} {Q : VK} {g : G} (h : lE g W (f2 f fa fb) σ H Q) : tOp (rD2 g f) (lE g W fa) (lE g W fb) σ H Q := by
  obtain ⟨θ, ρ, μ, re, rl, p⟩ := h
  refine ⟨θ, ρ, μ, re, rl, post_bnd p fun x μ1 θ1 u H1 e1 rl1 r1 p1 => ⟨θ1, ρ, μ1, re.ext e1, rl1, post_bnd p1 fun y μ2 θ2 w H2 e2 rl2 r2 p2 => ?_⟩⟩
  obtain ⟨d, h1, h2⟩ := post_lif p2
  exact ⟨θ2, μ2, x, y, d, r1.ext e2, r2, rl2, h1, h2⟩
theorem de_bin {op : Operator} {f : Op2} (ho : OpR X (binaryOp op) (rD2 (gX X LO) f)) (ha : DE X LO W a fa) (hb : DE X LO W b fb) : DE X LO W (.BinOp a op b pos) (f2 f fa fb) := pe_imp (pe_op ho ha hb) fun _ _ _ h => op_imp h
theorem de_cmp {op : CmpOp} {f : Op2} (ho : OpR X (compareOp op) (rD2 (gX X LO) f)) (ha : DE X LO W a fa) (hb : DE X LO W b fb) (hm : behindInMarks op b = false := by rfl) : DE X LO W (.Compare a [op] [b] pos) (f2 f fa fb) := pe_imp (pe_cmpR ho ha hb hm) fun _ _ _ h => op_imp h
def asB : D → M Bool
  | .v (.bl b) => ret b
  | _ => no
theorem post_asB {g : G} {θ : Cs} {H : Hp} {σ : L2.St} {Q : Bool → Hp → Prop} {μ : Mu} {d : D} {u : V} (p : Post g W θ H σ rpB Q (asB d μ)) (R : Rel g θ μ H) (r : Rp g θ H d u) : ∃ k, u = .bl k ∧ Q k H := by
  unfold asB at p
  split at p
  · unfold Rp at r
    exact ⟨_, r.1, p θ _ H (Ext.refl _ _) R rfl⟩
  · exact p.elim
def tst (f : FE) : FT := fun ρ => bnd (f ρ) asB
theorem dt_cmp {op : CmpOp} {f : Op2} (ho : OpR X (compareOp op) (rD2 (gX X LO) f)) (ha : DE X LO W a fa) (hb : DE X LO W b fb) (hm : behindInMarks op b = false := by rfl) : DT X LO W (.Compare a [op] [b] pos) (tst (f2 f fa fb)) :=
  pt_imp (pt_cmpR ho ha hb hm) fun σ H Q ⟨θ, ρ, μ, re, rl, p⟩ => op_imp ⟨θ, ρ, μ, re, rl, post_bnd p fun d μ1 θ1 u H1 e1 rl1 r1 p1 => post_asB p1 rl1 r1⟩
theorem dt_val (h : DE X LO W e fa) (he : ∀ whole, isTrue e X.env whole = (do let v ← whole; standAt e.pos; holding [v] (truthy v)) := by intro _; rfl) : DT X LO W e (tst fa) :=
  pt_imp (pt_val h he) fun σ H Q ⟨θ, ρ, μ, re, rl, p⟩ => ⟨θ, ρ, μ, re, rl, post_bnd p fun d μ1 θ1 u H1 e1 rl1 r1 p1 => post_asB p1 rl1 r1⟩
/-- x < y < z -/
def f3 (f f' : Op2) (fa fb fc : FE) : FE := fun ρ => bnd (fa ρ) fun x => bnd (fb ρ) fun y => bnd (lif (f x y)) fun d => match d with
  | .v (.bl true) => bnd (fc ρ) fun z => lif (f' y z)
  | .v (.bl false) => ret (.v (.bl false))
  | _ => no
theorem chain_imp {f f' : Op2} {σ : L2.St} {H : Hp} {Q : VK} {g : G} (h : lE g W (f3 f f' fa fb fc) σ H Q) : tChain (rD2 g f) (rD2 g f') (lE g W fa) (lE g W fb) (lE g W fc) σ H Q := by
  obtain ⟨θ, ρ, μ, re, rl, p⟩ := h
  refine ⟨θ, ρ, μ, re, rl, post_bnd p fun x μ1 θ1 u H1 e1 rl1 r1 p1 => ⟨θ1, ρ, μ1, re.ext e1, rl1, post_bnd p1 fun y μ2 θ2 w H2 e2 rl2 r2 p2 => ?_⟩⟩
  unfold bnd lif at p2
  cases hf : f x y μ2 with
  | none => rw [hf] at p2; exact p2.elim
  | some d =>
    rw [hf] at p2
    refine ⟨θ2, μ2, x, y, d, r1.ext e2, r2, rl2, hf, fun θ3 z H3 e3 rl3 r3 => ?_⟩
    dsimp only at p2
    split at p2
    · unfold Rp at r3
      refine ⟨true, r3.1, ?_⟩
      rw [if_pos rfl]
      have p3 : Post g W θ3 H3 σ (Rp g) Q (bnd (fc ρ) (fun z => lif (f' y z)) μ2) := Post.ext e3 p2
      refine ⟨θ3, ρ, μ2, re.ext ((e1.trans e2).trans e3), rl3, post_bnd p3 fun z μ4 θ4 v H4 e4 rl4 r4 p4 => ?_⟩
      obtain ⟨d', h1, h2⟩ := post_lif p4
      exact ⟨θ4, μ4, y, z, d', r2.ext (e3.trans e4), r4, rl4, h1, h2⟩
    · unfold Rp at r3
      refine ⟨false, r3.1, ?_⟩
      rw [if_neg Bool.false_ne_true]
      exact p2 θ3 _ H3 e3 rl3 (rp_v trivial)
    · exact p2.elim
theorem de_chain {op op' : CmpOp} {f f' : Op2} (ho : OpR X (compareOp op) (rD2 (gX X LO) f)) (ho' : OpR X (compareOp op') (rD2 (gX X LO) f')) (ha : DE X LO W a fa) (hb : DE X LO W b fb) (hc : DE X LO W c fc) (hm : lastMarks [op, op'] [b, c] = false := by with_unfolding_all rfl) : DE X LO W (.Compare a [op, op'] [b, c] pos) (f3 f f' fa fb fc) :=
  pe_imp (pe_chain ho ho' ha hb hc hm) fun _ _ _ h => chain_imp h
theorem dt_chain {op op' : CmpOp} {f f' : Op2} (ho : OpR X (compareOp op) (rD2 (gX X LO) f)) (ho' : OpR X (compareOp op') (rD2 (gX X LO) f')) (ha : DE X LO W a fa) (hb : DE X LO W b fb) (hc : DE X LO W c fc) (hm : lastMarks [op, op'] [b, c] = false := by with_unfolding_all rfl) : DT X LO W (.Compare a [op, op'] [b, c] pos) (tst (f3 f f' fa fb fc)) :=
  pt_imp (pt_chain ho ho' ha hb hc hm) fun σ H Q ⟨θ, ρ, μ, re, rl, p⟩ => chain_imp ⟨θ, ρ, μ, re, rl, post_bnd p fun d μ1 θ1 u H1 e1 rl1 r1 p1 => post_asB p1 rl1 r1⟩
/-! ### and, or, not, if -/
variable {rest : List Expr}
def fAnd (fa fb : FE) : FE := fun ρ => bnd (fa ρ) fun d => match d with
  | .v (.bl true) => fb ρ
  | .v (.bl false) => ret (.v (.bl false))
  | _ => no
def fOr (fa fb : FE) : FE := fun ρ => bnd (fa ρ) fun d => match d with
  | .v (.bl false) => fb ρ
  | .v (.bl true) => ret (.v (.bl true))
  | _ => no
def fNot (fa : FE) : FE := fun ρ => bnd (fa ρ) fun d => match d with
  | .v (.bl b) => ret (.v (.bl (!b)))
  | _ => no
def fIf (ft : FT) (fa fb : FE) : FE := fun ρ => bnd (ft ρ) fun b => if b = true then fa ρ else fb ρ
def tAndF (ft fu : FT) : FT := fun ρ => bnd (ft ρ) fun b => if b = true then fu ρ else ret false
def tOrF (ft fu : FT) : FT := fun ρ => bnd (ft ρ) fun b => if b = true then ret true else fu ρ
def tNotF (ft : FT) : FT := fun ρ => bnd (ft ρ) fun b => ret (!b)
theorem de_one {op} (h : DE X LO W a fa) : DE X LO W (.BoolOp op [a] pos) fa := pe_one h
theorem de_and (ha : DE X LO W a fa) (hb : DE X LO W (.BoolOp .And (b :: rest) pos) fb) : DE X LO W (.BoolOp .And (a :: b :: rest) pos) (fAnd fa fb) := pe_imp (pe_and ha hb) fun σ H Q ⟨θ, ρ, μ, re, rl, p⟩ =>
  ⟨θ, ρ, μ, re, rl, post_bnd p fun x μ1 θ1 u H1 e1 rl1 r1 p1 => by
    split at p1
    · unfold Rp at r1
      refine ⟨true, r1.1, ?_⟩
      rw [if_pos rfl]
      exact ⟨θ1, ρ, μ1, re.ext e1, rl1, p1⟩
    · unfold Rp at r1
      refine ⟨false, r1.1, ?_⟩
      rw [if_neg Bool.false_ne_true]
      exact post_ret p1 rl1 (rp_v trivial)
    · exact p1.elim⟩
theorem de_or (ha : DE X LO W a fa) (hb : DE X LO W (.BoolOp .Or (b :: rest) pos) fb) : DE X LO W (.BoolOp .Or (a :: b :: rest) pos) (fOr fa fb) := pe_imp (pe_or ha hb) fun σ H Q ⟨θ, ρ, μ, re, rl, p⟩ =>
  ⟨θ, ρ, μ, re, rl, post_bnd p fun x μ1 θ1 u H1 e1 rl1 r1 p1 => by
    split at p1
    · unfold Rp at r1
      refine ⟨false, r1.1, ?_⟩
      rw [if_neg Bool.false_ne_true]
      exact ⟨θ1, ρ, μ1, re.ext e1, rl1, p1⟩
    · unfold Rp at r1
      refine ⟨true, r1.1, ?_⟩
      rw [if_pos rfl]
      exact post_ret p1 rl1 (rp_v trivial)
    · exact p1.elim⟩
theorem de_not (ha : DE X LO W a fa) : DE X LO W (.UnaryOp .Not a pos) (fNot fa) := pe_imp (pe_not ha) fun σ H Q ⟨θ, ρ, μ, re, rl, p⟩ =>
  ⟨θ, ρ, μ, re, rl, post_bnd p fun x μ1 θ1 u H1 e1 rl1 r1 p1 => by
    split at p1
    · unfold Rp at r1
      exact ⟨_, r1.1, post_ret p1 rl1 (rp_v trivial)⟩
    · exact p1.elim⟩
theorem de_if (hc : DT X LO W c ft) (ha : DE X LO W a fa) (hb : DE X LO W b fb) : DE X LO W (.IfExp c a b pos) (fIf ft fa fb) := pe_imp (pe_ifExp hc ha hb) fun σ H Q ⟨θ, ρ, μ, re, rl, p⟩ =>
  ⟨θ, ρ, μ, re, rl, post_bnd p fun x μ1 θ1 u H1 e1 rl1 r1 p1 => by
    have r1 : u = x := r1
    subst r1
    cases u with
    | true =>
      rw [if_pos rfl] at p1 ⊢
      exact ⟨θ1, ρ, μ1, re.ext e1, rl1, p1⟩
    | false =>
      rw [if_neg Bool.false_ne_true] at p1 ⊢
      exact ⟨θ1, ρ, μ1, re.ext e1, rl1, p1⟩⟩
theorem dw_and1 (ha : DT X LO W a ft) : DW X LO W (.BoolOp .And [a] pos) ft := pw_and1 ha
theorem dw_or1 (ha : DT X LO W a ft) : DW X LO W (.BoolOp .Or [a] pos) ft := pw_or1 ha
theorem dw_and (ha : DT X LO W a ft) (hb : DW X LO W (.BoolOp .And (b :: rest) pos) fu) : DW X LO W (.BoolOp .And (a :: b :: rest) pos) (tAndF ft fu) := pw_imp (pw_and ha hb) fun σ H Q ⟨θ, ρ, μ, re, rl, p⟩ =>
  ⟨θ, ρ, μ, re, rl, post_bnd p fun x μ1 θ1 u H1 e1 rl1 r1 p1 => by
    have r1 : u = x := r1
    subst r1
    cases u with
    | true =>
      rw [if_pos rfl] at p1 ⊢
      exact ⟨θ1, ρ, μ1, re.ext e1, rl1, p1⟩
    | false =>
      rw [if_neg Bool.false_ne_true] at p1 ⊢
      exact post_ret p1 rl1 rfl⟩
theorem dw_or (ha : DT X LO W a ft) (hb : DW X LO W (.BoolOp .Or (b :: rest) pos) fu) : DW X LO W (.BoolOp .Or (a :: b :: rest) pos) (tOrF ft fu) := pw_imp (pw_or ha hb) fun σ H Q ⟨θ, ρ, μ, re, rl, p⟩ =>
  ⟨θ, ρ, μ, re, rl, post_bnd p fun x μ1 θ1 u H1 e1 rl1 r1 p1 => by
    have r1 : u = x := r1
    subst r1
    cases u with
    | true =>
      rw [if_pos rfl] at p1 ⊢
      exact post_ret p1 rl1 rfl
    | false =>
      rw [if_neg Bool.false_ne_true] at p1 ⊢
      exact ⟨θ1, ρ, μ1, re.ext e1, rl1, p1⟩⟩
theorem dt_bool (h : DW X LO W e ft) : DT X LO W e ft := PW.pt h
theorem dt_not (ha : DT X LO W a ft) : DT X LO W (.UnaryOp .Not a pos) (tNotF ft) := pt_imp (pt_not ha) fun σ H Q ⟨θ, ρ, μ, re, rl, p⟩ =>
  ⟨θ, ρ, μ, re, rl, post_bnd p fun x μ1 θ1 u H1 e1 rl1 r1 p1 => by
    have r1 : u = x := r1
    subst r1
    exact post_ret p1 rl1 rfl⟩
/-! ### arguments, displays, calls -/
def fAll : List FE → FA
  | [] => fun _ => ret []
  | f :: fs => fun ρ => bnd (f ρ) fun d => bnd (fAll fs ρ) fun ds => ret (d :: ds)
variable {es : List Expr} {fs : List FE}
theorem da_nil : DA X LO W [] (fAll []) := pa_imp pa_nil fun σ H Q ⟨θ, ρ, μ, re, rl, p⟩ => post_ret p rl (by unfold RpL; rfl)
theorem da_cons (ha : DE X LO W e fa) (hr : DA X LO W es (fAll fs)) (hs : starEach (e :: es) X.env = (false, eval e X.env) :: starEach es X.env := by rfl) : DA X LO W (e :: es) (fAll (fa :: fs)) := pa_imp (pa_cons ha hr hs) fun σ H Q ⟨θ, ρ, μ, re, rl, p⟩ =>
  ⟨θ, ρ, μ, re, rl, post_bnd p fun x μ1 θ1 u H1 e1 rl1 r1 p1 => ⟨θ1, ρ, μ1, re.ext e1, rl1, post_bnd p1 fun xs μ2 θ2 us H2 e2 rl2 r2 p2 => post_ret p2 rl2 (by unfold RpL; exact ⟨u, us, rfl, r1.ext e2, r2⟩)⟩⟩
theorem fAll_len : ∀ (fs : List FE) {ρ : En} {μ μ' : Mu} {ds : List D}, fAll fs ρ μ = some (.ok ds μ') → ds.length = fs.length
  | [], _, _, _, _, h => by cases h; rfl
  | f :: fs, ρ, μ, μ', ds, h => by
    unfold fAll bnd at h
    cases e : f ρ μ with
    | none => rw [e] at h; cases h
    | some r =>
      rw [e] at h
      cases r with
      | ex c m => cases h
      | ok d m =>
        dsimp only at h
        cases e2 : fAll fs ρ m with
        | none => rw [e2] at h; cases h
        | some r2 =>
          rw [e2] at h
          cases r2 with
          | ex c m2 => cases h
          | ok ds2 m2 =>
            cases h
            show ds2.length + 1 = fs.length + 1
            rw [fAll_len fs e2]
theorem RpL.len {g : G} {θ : Cs} {H : Hp} : ∀ {ds : List D} {us : List V}, RpL g θ H ds us → ds.length = us.length
  | [], _, h => by unfold RpL at h; subst h; rfl
  | d :: ds, _, h => by
    unfold RpL at h
    obtain ⟨v, r, rfl, _, h3⟩ := h
    show ds.length + 1 = r.length + 1
    rw [RpL.len h3]
def fTup (fs : List FE) : FE := fun ρ => bnd (fAll fs ρ) fun ds => ret (.tup ds)
def fLst (fs : List FE) : FE := fun ρ => bnd (fAll fs ρ) fun ds => ret (.lst ds)
/-- the display's length is the written one -/
theorem post_all {g : G} {θ : Cs} {H : Hp} {σ : L2.St} {ρ : En} {μ : Mu} {α β : Type} {rp : Cs → Hp → α → β → Prop} {Q : β → Hp → Prop} {k : List D → M α} {P : List V → Hp → Prop} (p : Post g W θ H σ rp Q (bnd (fAll fs ρ) k μ))
    (hk : ∀ ds μ1 θ1 us H1, ds.length = fs.length → Ext θ H θ1 H1 → Rel g θ1 μ1 H1 → RpL g θ1 H1 ds us → Post g W θ1 H1 σ rp Q (k ds μ1) → P us H1) : Post g W θ H σ (RpL g) P (fAll fs ρ μ) := by
  unfold bnd at p
  cases e : fAll fs ρ μ with
  | none => rw [e] at p; exact p
  | some r =>
    rw [e] at p
    cases r with
    | ex c m => exact p
    | ok ds m => exact fun θ1 us H1 e1 rl1 r1 => hk ds m θ1 us H1 (fAll_len fs e) e1 rl1 r1 (Post.ext e1 p)
theorem de_tup {x1} (h : DA X LO W es (fAll fs)) (hl : fs.length ≤ 1000 := by first | decide | exact Nat.le_of_ble_eq_true rfl) : DE X LO W (.Tuple es x1 pos) (fTup fs) := pe_imp (pe_tup h) fun σ H Q ⟨θ, ρ, μ, re, rl, p⟩ =>
  ⟨θ, ρ, μ, re, rl, post_all p fun ds μ1 θ1 us H1 hd e1 rl1 r1 p1 => ⟨by rw [← r1.len, hd]; exact Nat.le_trans hl (by decide), fun a ha => by
    obtain ⟨e2, rl2, na⟩ := rl1.new (o := .tup us) ha
    refine post_ret (p1.ext e2) rl2 ?_
    unfold Rp
    exact ⟨a, us, rfl, .inl (.inl upd_same), r1.ext e2⟩⟩⟩
theorem de_lst (h : DA X LO W es (fAll fs)) (hl : fs.length ≤ 1000 := by first | decide | exact Nat.le_of_ble_eq_true rfl) : DE X LO W (.List es pos) (fLst fs) := pe_imp (pe_lst h) fun σ H Q ⟨θ, ρ, μ, re, rl, p⟩ =>
  ⟨θ, ρ, μ, re, rl, post_all p fun ds μ1 θ1 us H1 hd e1 rl1 r1 p1 => ⟨by rw [← r1.len, hd]; exact Nat.le_trans hl (by decide), fun a ha => by
    obtain ⟨e2, rl2, na⟩ := rl1.new (o := .lst us) ha
    refine post_ret (p1.ext e2) rl2 ?_
    unfold Rp
    exact ⟨a, us, rfl, .inl ⟨na, .inl upd_same⟩, r1.ext e2⟩⟩⟩
/-! ### what a def promises, by trees -/
def spD (K : PySem.W.Frag) (mg : Str → Option Value) (F : List D → M D) : Sp := fun vs H Q E => ∃ LO θ μ ds, RpL ⟨K, mg, LO⟩ θ H ds vs ∧ Rel ⟨K, mg, LO⟩ θ μ H ∧ Post ⟨K, mg, LO⟩ (fun cls o _ H' => E cls o H') θ H [] (Rp ⟨K, mg, LO⟩) Q (F ds μ)
/-- room for k calls, one in another; nothing is being shown -/
structure Rm (k : Nat) (A : Around) : Prop where
  room : Room k A
  gd : A.guards = some []
theorem Rm.mono {j k : Nat} {A : Around} (r : Rm k A) (h : j ≤ k) : Rm j A := ⟨r.room.mono h, r.gd⟩
theorem Rm.deeper {k : Nat} {A : Around} (r : Rm (k + 1) A) (env : Env) : Rm k (A.deeper env) := ⟨r.room.deeper env, r.gd⟩
/-- a def's promise, kept wherever nothing is being shown -/
structure FnG (P : Program) (w : World) (K : PySem.W.Frag) (mg : Str → Option Value) (base : Heap) (k : Nat) (f : Addr) (fd : FuncData) (ps : List Str) (sp : Sp) : Prop where
  len : ∀ vs H Q E, sp vs H Q E → vs.length = ps.length
  go : ∀ (A : Around) (outer : List Env) (s : Shared) (H : Hp) (args : Args) (us : List Value) (vs : List V) (Q : VK) (E : XK), Rm k A → Env0 P w K mg base A outer s H →
    BindsTo s fd args (ps.zip us) → Vals vs us → sp vs H Q E → codeAny (model P w) A (.call (.ref f) args) (CR (L2.CX P w) outer P w H s Q E) s
/-- the def of that name keeps the promise -/
structure FnAt (P : Program) (w : World) (K : PySem.W.Frag) (mg : Str → Option Value) (base : Heap) (k : Nat) (f : Addr) (fd : FuncData) (ps : List Str) (x : Str) (F : List D → M D) : Prop where
  ok : FnG P w K mg base k f fd ps (spD K mg F)
  gm : mg x = some (.ref f)
  kp : PySem.W.keepIn K (.ref f) = true
  bd : Binds K fd ps []
def Fn (P : Program) (w : World) (K : PySem.W.Frag) (mg : Str → Option Value) (base : Heap) (k : Nat) (x : Str) (F : List D → M D) : Prop := ∃ f fd ps, FnAt P w K mg base k f fd ps x F
/-- the callee runs -/
theorem go_fn {k : Nat} {f : Addr} {fd : FuncData} {ps : List Str} {sp : Sp} {pins : List (Addr × Obj)} {σ : L2.St} {H : Hp} {s : Shared} {Q : VK} {us : List Value} {vs : List V} {E : XK} (F : FnG X.prog X.w X.K X.mg X.base k f fd ps sp) (hr : Rm k X.A) (hb : Binds X.K fd ps [])
    (hx : PassesAt (L2.CX X.prog X.w) X σ E) (I : Inv X pins σ H s) (r : Vals vs us) (h : sp vs H Q E) : wpAny (model X.prog X.w) X.A (call (.ref f) us) (EP X pins σ Q) X.xe s := by
  have e : (us ++ ([] : List Value)).length = ps.length := by rw [List.append_nil, ← r.length]; exact F.len _ _ _ _ h
  have b := hb s us I.kIn e
  rw [List.append_nil] at b
  have run := F.go X.A X.stack s H ⟨us, []⟩ us vs Q E hr I.env0 b r h
  refine wpAny_call (codeAny_mono run fun o s' ho => ?_)
  match o, ho with
  | .error e, ho => exact hx pins H s e s' I ho
  | .ok (.ret u), ho => exact I.after ho
def fCall (F : List D → M D) (fs : List FE) : FE := fun ρ => bnd (fAll fs ρ) F
theorem Post.wish {α β : Type} {g : G} {W W' : WX} {θ : Cs} {H : Hp} {σ σ' : L2.St} {rp : Cs → Hp → α → β → Prop} {Q : β → Hp → Prop} (h : ∀ c o H, W c o σ H → W' c o σ' H) : ∀ {r : Option (R α)}, Post g W θ H σ rp Q r → Post g W' θ H σ' rp Q r
  | some (.ok _ _), q => q
  | some (.ex _ _), q => fun θ' H' C e r m => h _ _ _ (q θ' H' C e r m)
theorem de_call {k : Nat} {x : Str} {F : List D → M D} {p : Pos} (h : Fn X.prog X.w X.K X.mg X.base k x F) (tk : Takes X W) (hr : Rm k X.A) (ha : DA X LO W (e :: es) (fAll fs)) (hg : Gl X x := by rfl) (hdb : (x == ("__debug__" : Str)) = false := by decide)
    (he : starEach (e :: es) X.env = (false, eval e X.env) :: starEach es X.env := by rfl) (hpl : (backTo pos (starEach es X.env)).any (·.1) = false := by rfl) : DE X LO W (.Call (.Name x p) (e :: es) [] pos) (fCall F fs) := by
  obtain ⟨f, fd, ps, h⟩ := h
  refine ⟨fun pins s σ H Q I hl => ?_⟩
  obtain ⟨θ, ρ, μ, re, rl, p⟩ := hl
  refine wpAny_Call_Name_kw (ld_glob I hg h.gm ?_ hdb)
  refine PySem.W.callWith_K (h₀ := X.base) I.ok.mod.kin h.kp (thn (PA.run ha pos pins s σ H (fun vs H1 => spD X.K X.mg F vs H1 Q (WE W σ)) I ⟨θ, ρ, μ, re, rl, post_bnd p fun ds μ1 θ1 us H1 e1 rl1 r1 p1 => ⟨LO, θ1, μ1, ds, r1, rl1, p1.wish fun _ _ _ z => z⟩⟩) fun us s1 ⟨vs, H1, I1, r, q⟩ => ⟨I1.kIn, ?_⟩) he hpl
  exact go_fn h.ok hr h.bd (passAt tk σ) I1 r q
/-- a built-in by trees -/
abbrev OpN := List D → Mu → Option D
def rDn (g : G) (f : OpN) : List V → Hp → VK → Prop := fun xs H Q => ∃ θ μ ds d, RpL g θ H ds xs ∧ Rel g θ μ H ∧ f ds μ = some d ∧ ∀ θ' u H', Ext θ H θ' H' → Rel g θ' μ H' → Rp g θ' H' d u → Q u H'
def fB (f : OpN) (fs : List FE) : FE := fun ρ => bnd (fAll fs ρ) fun ds => lif (f ds)
theorem tcb_imp {f : OpN} {σ : L2.St} {H : Hp} {Q : VK} {g : G} (h : lE g W (fB f fs) σ H Q) : tCB (rDn g f) (lA g W (fAll fs)) σ H Q := by
  obtain ⟨θ, ρ, μ, re, rl, p⟩ := h
  refine ⟨θ, ρ, μ, re, rl, post_bnd p fun x μ1 θ1 u H1 e1 rl1 r1 p1 => ?_⟩
  obtain ⟨d, h1, h2⟩ := post_lif p1
  exact ⟨θ1, μ1, x, d, r1, rl1, h1, h2⟩
theorem de_callB {id : String} {x : Str} {f : OpN} {p : Pos} (hc : CallR X (.builtin id) (rDn (gX X LO) f)) (hm : X.mg x = none) (ha : DA X LO W (e :: es) (fAll fs)) (hg : Gl X x := by rfl) (hv : bootBuiltins x = some (.builtin id) := by decide +kernel) (hn : x ≠ "__name__" := by decide) (hdb : (x == ("__debug__" : Str)) = false := by decide)
    (he : starEach (e :: es) X.env = (false, eval e X.env) :: starEach es X.env := by rfl) (hpl : (backTo pos (starEach es X.env)).any (·.1) = false := by rfl) : DE X LO W (.Call (.Name x p) (e :: es) [] pos) (fB f fs) :=
  pe_imp (pe_callB hc hg hm hv ha hn hdb he hpl) fun _ _ _ h => tcb_imp h
theorem de_callTy {T : String} {x : Str} {f : OpN} {p : Pos} (hc : CallR X (.type T) (rDn (gX X LO) f)) (hm : X.mg x = none) (ha : DA X LO W (e :: es) (fAll fs)) (hg : Gl X x := by rfl) (hv : bootBuiltins x = some (.type T) := by decide +kernel) (hn : x ≠ "__name__" := by decide) (hdb : (x == ("__debug__" : Str)) = false := by decide)
    (he : starEach (e :: es) X.env = (false, eval e X.env) :: starEach es X.env := by rfl) (hpl : (backTo pos (starEach es X.env)).any (·.1) = false := by rfl) : DE X LO W (.Call (.Name x p) (e :: es) [] pos) (fB f fs) :=
  pe_imp (pe_callTy hc hg hm hv ha hn hdb he hpl) fun _ _ _ h => tcb_imp h
/-- o[i], by trees -/
theorem de_ix {f : Op2} (hr : IxR X (rD2 (gX X LO) f)) (ha : DE X LO W a fa) (hb : DE X LO W b fb) (hs : PlainIx b := by exact fun _ _ => rfl) : DE X LO W (.Subscript a b pos) (f2 f fa fb) := pe_imp (pe_ix hr ha hb hs) fun _ _ _ h => op_imp h
/-- a module's constant -/
theorem de_glob {x : Str} {v : V} {u : Value} (hm : X.mg x = some u) (r : RelV v u) (ho : okV v) (hg : Gl X x := by rfl) (hd : (x == ("__debug__" : Str)) = false := by decide) : DE X LO W (.Name x pos) (fC (.v v)) :=
  pe_imp (pe_glob hg hm r hd) fun _ _ _ ⟨_, _, _, _, rl, p⟩ => post_ret p rl (rp_v ho)
end
end Tr
/-! ## TrC -/
set_option Elab.async false
set_option linter.all false
set_option maxRecDepth 100000
set_option maxHeartbeats 2000000
namespace Tr
open PySem PySem.Spec PyProof.Rows L2
/-! ### statements -/
section
variable {α β : Type} {g : G} {W : WX} {θ θ' : Cs} {H H' : Hp} {σ : L2.St} {rp : Cs → Hp → α → β → Prop} {Q : β → Hp → Prop} {μ : Mu} {d : Ends}
theorem post_bndS {f : M α} {k : α → M Out} (h : PostS g W θ H d (bnd f k μ)) (hW : ∀ c o σ σ' H, W c o σ H → W c o σ' H)
    (hk : ∀ a μ1 θ1 b H1, Ext θ H θ1 H1 → Rel g θ1 μ1 H1 → rp θ1 H1 a b → PostS g W θ1 H1 d (k a μ1) → Q b H1) : Post g W θ H σ rp Q (f μ) := by
  unfold bnd at h
  cases e : f μ with
  | none => rw [e] at h; exact h
  | some r =>
    rw [e] at h
    cases r with
    | ok a μ1 => exact fun θ1 b H1 e1 r1 p1 => hk a μ1 θ1 b H1 e1 r1 p1 (PostS.ext e1 h)
    | ex c μ1 => exact fun θ1 H1 C e1 r1 m => h θ1 σ H1 C e1 r1 m
theorem postS_ret {a : Out} (h : PostS g W θ H d (ret a μ)) : PostS g W θ H d (some (.ok a μ)) := h
end
/-- the error's wish does not look at the slots -/
def Flat (W : WX) : Prop := ∀ c o σ σ' H, W c o σ H → W c o σ' H
def fNx : FS := fun ρ => ret (.nx ρ)
def fSeq (f1 f2 : FS) : FS := fun ρ => bnd (f1 ρ) fun o => match o with
  | .nx ρ' => f2 ρ'
  | o => ret o
def fDrop (fa : FE) : FS := fun ρ => bnd (fa ρ) fun _ => ret (.nx ρ)
def fRet (fa : FE) : FS := fun ρ => bnd (fa ρ) fun d => ret (.rt d)
def fRetN : FS := fun _ => ret (.rt (.v .non))
def fIfS (ft : FT) (f1 f2 : FS) : FS := fun ρ => bnd (ft ρ) fun b => if b = true then f1 ρ else f2 ρ
def fBrk : FS := fun ρ => ret (.bk ρ)
def fCnt : FS := fun ρ => ret (.ct ρ)
/-- a target: what it stores -/
abbrev FG := D → En → Mu → Option En
def SameOut (S : List Nat) (σ σ' : L2.St) : Prop := σ'.length = σ.length ∧ ∀ i, i ∉ S → σ'[i]? = σ[i]?
theorem SameOut.refl (S : List Nat) (σ : L2.St) : SameOut S σ σ := ⟨rfl, fun _ _ => rfl⟩
theorem SameOut.trans {S : List Nat} {σ σ' σ2 : L2.St} (a : SameOut S σ σ') (b : SameOut S σ' σ2) : SameOut S σ σ2 := ⟨b.1.trans a.1, fun i hi => (b.2 i hi).trans (a.2 i hi)⟩
theorem SameOut.mono {S S' : List Nat} {σ σ' : L2.St} (a : SameOut S σ σ') (h : ∀ i ∈ S, i ∈ S') : SameOut S' σ σ' := ⟨a.1, fun i hi => a.2 i fun z => hi (h i z)⟩
def lG (g : G) (S : List Nat) (f : FG) : TG := fun v σ H Q => ∃ θ ρ μ d ρ', REnv g θ H σ ρ ∧ Rel g θ μ H ∧ Rp g θ H d v ∧ f d ρ μ = some ρ' ∧ ∀ θ' σ' H', Ext θ H θ' H' → Rel g θ' μ H' → REnv g θ' H' σ' ρ' → SameOut S σ σ' → Q σ' H'
abbrev FGs := List D → En → Mu → Option En
def lGs (g : G) (S : List Nat) (f : FGs) : TGs := fun vs σ H Q => ∃ θ ρ μ ds ρ', REnv g θ H σ ρ ∧ Rel g θ μ H ∧ RpL g θ H ds vs ∧ f ds ρ μ = some ρ' ∧ ∀ θ' σ' H', Ext θ H θ' H' → Rel g θ' μ H' → REnv g θ' H' σ' ρ' → SameOut S σ σ' → Q σ' H'
def DG (X : Cx) (LO : LOs) (tg : Expr) (S : List Nat) (f : FG) : Prop := PG X tg (lG (gX X LO) S f)
def DGs (X : Cx) (LO : LOs) (tg : List Expr) (S : List Nat) (f : FGs) : Prop := PGs X tg (lGs (gX X LO) S f)
def gN (i : Nat) : FG := fun d ρ _ => some (ρ.set i (some d))
def gsNil : FGs := fun ds ρ _ => match ds with
  | [] => some ρ
  | _ => none
def gsCons (f : FG) (fs : FGs) : FGs := fun ds ρ μ => match ds with
  | [] => none
  | d :: ds => match f d ρ μ with
    | some ρ' => fs ds ρ' μ
    | none => none
/-- a sequence as it stands -/
def view (μ : Mu) : D → D
  | .r n => match μ[n]? with
    | some (.lst xs) => .lst xs
    | _ => .r n
  | d => d
def gT (n : Nat) (fs : FGs) : FG := fun d ρ μ => match d with
  | .tup ds => if ds.length = n then fs ds ρ μ else none
  | .lst ds => if ds.length = n then fs ds ρ μ else none
  | _ => none
section
variable {X : Cx} {LO : LOs} {W : WX} {e tg : Expr} {fa : FE} {pos : Pos}
theorem pg_imp {t t' : TG} (h : PG X tg t) (i : ∀ v σ H Q, t' v σ H Q → t v σ H Q) : PG X tg t' := ⟨fun pins s σ H v u Q I r q => h.run pins s σ H v u Q I r (i v σ H Q q)⟩
theorem pgs_imp {tgs : List Expr} {t t' : TGs} (h : PGs X tgs t) (i : ∀ v σ H Q, t' v σ H Q → t v σ H Q) : PGs X tgs t' := ⟨fun pins s σ H v u Q I r q => h.run pins s σ H v u Q I r (i v σ H Q q)⟩
theorem pg_or {t t' : TG} (h : PG X tg t) (h' : PG X tg t') : PG X tg (fun v σ H Q => t v σ H Q ∨ t' v σ H Q) := ⟨fun pins s σ H v u Q I r q => q.elim (h.run pins s σ H v u Q I r) (h'.run pins s σ H v u Q I r)⟩
theorem dg_name {i : Nat} {x : Str} (hN : X.N.Nodup) (hi : X.N[i]? = some x := by rfl) (hx : Loc X.env.scope x := by first | exact Or.inl rfl | exact Or.inr rfl) (hf : X.fn x = true ∨ X.env.scope.names.lookup x = some .local := by first | exact .inl rfl | exact .inr rfl | assumption) : DG X LO (.Name x pos) [i] (gN i) :=
  pg_imp (pg_name hN hi hx hf) fun v σ H Q ⟨θ, ρ, μ, d, ρ', re, rl, rp, h, q⟩ => by
    cases h
    refine q θ _ H (Ext.refl _ _) rl (re.set rp i) ⟨by simp, fun j hj => ?_⟩
    exact List.getElem?_set_ne (fun z => hj (by simp [z]))
theorem dgs_nil : DGs X LO [] [] gsNil := pgs_imp pgs_nil fun v σ H Q ⟨θ, ρ, μ, ds, ρ', re, rl, rp, h, q⟩ => by
  cases ds with
  | nil =>
    unfold RpL at rp
    cases h
    exact ⟨rp, q θ _ H (Ext.refl _ _) rl re (SameOut.refl _ _)⟩
  | cons d ds => cases h
theorem dgs_cons {es : List Expr} {S S' : List Nat} {f : FG} {fs : FGs} (h1 : DG X LO e S f) (h2 : DGs X LO es S' fs) (hs : (assignEach (e :: es) X.env).map (·.2) = assign e X.env :: (assignEach es X.env).map (·.2) := by rfl) : DGs X LO (e :: es) (S ++ S') (gsCons f fs) :=
  pgs_imp (pgs_cons h1 h2 hs) fun v σ H Q ⟨θ, ρ, μ, ds, ρ', re, rl, rp, h, q⟩ => by
    cases ds with
    | nil => cases h
    | cons d ds =>
      unfold RpL at rp
      obtain ⟨u, r, rfl, r1, r2⟩ := rp
      unfold gsCons at h
      dsimp only at h
      split at h
      · rename_i ρ1 h1
        refine ⟨u, r, rfl, θ, ρ, μ, d, ρ1, re, rl, r1, h1, fun θ' σ' H' e1 rl1 re1 s1 => ⟨θ', ρ1, μ, ds, ρ', re1, rl1, r2.ext e1, h, fun θ2 σ2 H2 e2 rl2 re2 s2 => ?_⟩⟩
        exact q θ2 σ2 H2 (e1.trans e2) rl2 re2 ((s1.mono fun i hi => List.mem_append_left _ hi).trans (s2.mono fun i hi => List.mem_append_right _ hi))
      · cases h
theorem dg_tup {es : List Expr} {k n : Nat} {S : List Nat} {fs : FGs} (hc : X.calm = true) (h : DGs X LO es S fs) (hn : (assignEach es X.env).length = n := by rfl) (hst : (assignEach es X.env).findIdx? (·.1) = none := by rfl) : DG X LO (.Tuple es k pos) S (gT n fs) :=
  pg_imp (pg_or (pg_tup hc h hn hst) (pg_lst hc h hn hst)) fun v σ H Q ⟨θ, ρ, μ, d, ρ', re, rl, rp, h, q⟩ => by
    unfold gT at h
    split at h
    · split at h
      · rename_i hl
        unfold Rp at rp
        obtain ⟨p, vs, rfl, r1, r2⟩ := rp
        exact .inl ⟨p, vs, rfl, r1, by rw [← r2.len]; exact hl, θ, ρ, μ, _, ρ', re, rl, r2, h, q⟩
      · cases h
    · split at h
      · rename_i hl
        unfold Rp at rp
        obtain ⟨p, vs, rfl, r1, r2⟩ := rp
        exact .inr ⟨p, vs, rfl, r1.sq, by rw [← r2.len]; exact hl, θ, ρ, μ, _, ρ', re, rl, r2, h, q⟩
      · cases h
    · cases h
end
section
variable {X : Cx} {LO : LOs} {W : WX} {e c tg : Expr} {fa : FE} {ft : FT} {f1 f2 : FS} {st : Stmt} {a b sts : List Stmt} {pos : Pos}
theorem dss_nil : DSs X LO W [] fNx := pss_imp pss_nil fun d σ H ⟨θ, ρ, μ, re, rl, p⟩ => p θ σ H (Ext.refl _ _) rl re
theorem dss_one (h : DS X LO W st f1) : DSs X LO W [st] f1 := pss_one h
theorem dss_cons (h1 : DS X LO W st f1) (h2 : DSs X LO W sts f2) : DSs X LO W (st :: sts) (fSeq f1 f2) := pss_imp (pss_cons h1 h2) fun d σ H ⟨θ, ρ, μ, re, rl, p⟩ => ⟨θ, ρ, μ, re, rl, by
  unfold fSeq bnd at p
  cases e : f1 ρ μ with
  | none => rw [e] at p; exact p
  | some r =>
    rw [e] at p
    cases r with
    | ex c m => exact p
    | ok o m =>
      cases o with
      | nx ρ' => exact fun θ' σ' H' e1 rl1 re1 => ⟨θ', ρ', m, re1, rl1, PostS.ext e1 p⟩
      | rt d' => exact p
      | bk ρ' => exact p
      | ct ρ' => exact p⟩
theorem ds_pass : DS X LO W (.Pass pos) fNx := ps_imp ps_pass fun d σ H ⟨θ, ρ, μ, re, rl, p⟩ => p θ σ H (Ext.refl _ _) rl re
theorem ds_brk : DS X LO W (.Break pos) fBrk := ps_imp ps_break fun d σ H ⟨θ, ρ, μ, re, rl, p⟩ => p θ σ H (Ext.refl _ _) rl re
theorem ds_cnt : DS X LO W (.Continue pos) fCnt := ps_imp ps_continue fun d σ H ⟨θ, ρ, μ, re, rl, p⟩ => p θ σ H (Ext.refl _ _) rl re
theorem ds_expr (hW : Flat W) (he : DE X LO W e fa) (hs : swapsWith e none pos.line X.env = pure false := by rfl) : DS X LO W (.Expr e pos) (fDrop fa) := ps_imp (ps_expr he hs) fun d σ H ⟨θ, ρ, μ, re, rl, p⟩ =>
  ⟨θ, ρ, μ, re, rl, post_bndS p hW fun x μ1 θ1 u H1 e1 rl1 r1 p1 => p1 θ1 σ H1 (Ext.refl _ _) rl1 (re.ext e1)⟩
theorem ds_ret (hW : Flat W) (he : DE X LO W e fa) : DS X LO W (.Return (some e) pos) (fRet fa) := ps_imp (ps_ret he) fun d σ H ⟨θ, ρ, μ, re, rl, p⟩ =>
  ⟨θ, ρ, μ, re, rl, post_bndS p hW fun x μ1 θ1 u H1 e1 rl1 r1 p1 => p1 θ1 u H1 (Ext.refl _ _) rl1 r1⟩
theorem ds_retN : DS X LO W (.Return none pos) fRetN := ps_imp ps_retN fun d σ H ⟨θ, ρ, μ, re, rl, p⟩ => p θ _ H (Ext.refl _ _) rl (rp_v trivial)
theorem ds_if (hW : Flat W) (hc : DT X LO W c ft) (ha : DSs X LO W a f1) (hb : DSs X LO W b f2) : DS X LO W (.If c a b pos) (fIfS ft f1 f2) := ps_imp (ps_if hc ha hb) fun d σ H ⟨θ, ρ, μ, re, rl, p⟩ =>
  ⟨θ, ρ, μ, re, rl, post_bndS p hW fun x μ1 θ1 u H1 e1 rl1 r1 p1 => by
    have r1 : u = x := r1
    subst r1
    cases u with
    | true =>
      rw [if_pos rfl] at p1 ⊢
      exact ⟨θ1, ρ, μ1, re.ext e1, rl1, p1⟩
    | false =>
      rw [if_neg Bool.false_ne_true] at p1 ⊢
      exact ⟨θ1, ρ, μ1, re.ext e1, rl1, p1⟩⟩
def fAsg (fa : FE) (gt : FG) : FS := fun ρ => bnd (fa ρ) fun d => bnd (lif (gt d ρ)) fun ρ' => ret (.nx ρ')
theorem asg_imp {S : List Nat} {gt : FG} {g : G} (hW : Flat W) {d : Ends} {σ : L2.St} {H : Hp} (h : lS g W (fAsg fa gt) d σ H) : tAsg (lE g W fa) (lG g S gt) d σ H := by
  obtain ⟨θ, ρ, μ, re, rl, p⟩ := h
  refine ⟨θ, ρ, μ, re, rl, post_bndS p hW fun x μ1 θ1 u H1 e1 rl1 r1 p1 => ?_⟩
  unfold bnd lif at p1
  cases hg : gt x ρ μ1 with
  | none => rw [hg] at p1; exact p1.elim
  | some ρ' =>
    rw [hg] at p1
    exact ⟨θ1, ρ, μ1, x, ρ', re.ext e1, rl1, r1, hg, fun θ2 σ2 H2 e2 rl2 re2 _ => p1 θ2 σ2 H2 e2 rl2 re2⟩
theorem ds_asg {S : List Nat} {gt : FG} (hW : Flat W) (he : DE X LO W e fa) (hg : DG X LO tg S gt) (hs : swapsWithSole [tg] e pos.line X.env = pure false := by rfl) (hw : swappedStores [tg] e X.env = pure none := by rfl)
    (h1 : (assignEach [tg] X.env).map (·.2) = [assign tg X.env] := by rfl) : DS X LO W (.Assign [tg] e pos) (fAsg fa gt) := ps_imp (ps_asg he hg hs hw h1) fun d σ H h => asg_imp hW h
def fSet (i : Nat) (fa : FE) : FS := fAsg fa (gN i)
theorem ds_set {i : Nat} {x : Str} {pos' : Pos} (hW : Flat W) (hN : X.N.Nodup) (he : DE X LO W e fa) (hi : X.N[i]? = some x := by rfl) (hx : Loc X.env.scope x := by first | exact Or.inl rfl | exact Or.inr rfl) (hs : swapsWith e (some (.Name x pos')) pos.line X.env = pure false := by rfl)
    (hf : X.fn x = true ∨ X.env.scope.names.lookup x = some .local := by first | exact .inl rfl | exact .inr rfl | assumption) : DS X LO W (.Assign [.Name x pos'] e pos) (fSet i fa) := ps_imp (ps_set hN hi hx he hs hf) fun d σ H ⟨θ, ρ, μ, re, rl, p⟩ =>
  ⟨θ, ρ, μ, re, rl, post_bndS p hW fun x μ1 θ1 u H1 e1 rl1 r1 p1 => p1 θ1 _ H1 (Ext.refl _ _) rl1 ((re.ext e1).set r1 i)⟩
/-- a, b = x, y, plain local names -/
def fPar (i j : Nat) (fs : List FE) : FS := fun ρ => bnd (fAll fs ρ) fun ds => match ds with
  | [x, y] => ret (.nx ((ρ.set i (some x)).set j (some y)))
  | _ => no
theorem ds_par {i j : Nat} {x y : Str} {a b : Expr} {fs : List FE} {px py pt : Pos} {kt k2 pt2} (hW : Flat W) (hc : X.calm = true) (hN : X.N.Nodup) (ha : DA X LO W [a, b] (fAll fs)) (hi : X.N[i]? = some x := by rfl) (hj : X.N[j]? = some y := by rfl) (hij : i ≠ j := by decide)
    (hx : X.env.scope.names.lookup x = some .local := by rfl) (hy : X.env.scope.names.lookup y = some .local := by rfl)
    (hw : swappedStores [.Tuple [.Name x px, .Name y py] kt pt] (.Tuple [a, b] k2 pt2) X.env = pure (some [x, y]) := by rfl)
    (hs : swapsWithSole [.Tuple [.Name x px, .Name y py] kt pt] (.Tuple [a, b] k2 pt2) pos.line X.env = pure false := by rfl) :
    DS X LO W (.Assign [.Tuple [.Name x px, .Name y py] kt pt] (.Tuple [a, b] k2 pt2) pos) (fPar i j fs) := ps_imp (ps_par hc hN hi hj hij hx hy ha hw hs) fun d σ H ⟨θ, ρ, μ, re, rl, p⟩ =>
  ⟨θ, ρ, μ, re, rl, post_bndS p hW fun ds μ1 θ1 us H1 e1 rl1 r1 p1 => by
    split at p1
    · unfold RpL RpL RpL at r1
      obtain ⟨u, r, rfl, ru, w, r', rfl, rw', rfl⟩ := r1
      exact ⟨u, w, rfl, p1 θ1 _ H1 (Ext.refl _ _) rl1 (((re.ext e1).set ru i).set rw' j)⟩
    · exact p1.elim⟩
/-! ### loops -/
def Good (g : G) (J : It) (θ : Cs) (H : Hp) (ds : List D) : Prop := ∀ θ' H', Ext θ H θ' H' → (∀ a, θ'.no a → H' a ≠ none) → ∀ i,
  (∀ d, ds[i]? = some d → J.go i H' ∧ ∀ x H'', J.yld i H' x H'' → Ext θ' H' θ' H'' ∧ (∀ a, θ'.no a → H'' a = H' a) ∧ Rp g θ' H'' d x) ∧ (ds[i]? = none → J.stop i H')
def lI (g : G) (W : WX) (fi : FA) : TI := fun σ H Q => ∃ θ ρ μ, REnv g θ H σ ρ ∧ Rel g θ μ H ∧ Post g W θ H σ (fun θ' H' ds J => Good g J θ' H' ds) Q (fi ρ μ)
def DI (X : Cx) (LO : LOs) (W : WX) (tg iter : Expr) (fi : FA) : Prop := PI X tg iter (lI (gX X LO) W fi)
def turnS (gt : FG) (fb : FS) (k : En → M Out) (d : D) : En → M Out := fun ρ => bnd (lif (gt d ρ)) fun ρ1 => bnd (fb ρ1) fun o => match o with
  | .nx ρ' => k ρ'
  | .ct ρ' => k ρ'
  | .bk ρ' => ret (.nx ρ')
  | .rt a => ret (.rt a)
def loopS (gt : FG) (fb : FS) : List D → En → M Out
  | [], ρ => ret (.nx ρ)
  | d :: ds, ρ => turnS gt fb (loopS gt fb ds) d ρ
def fFor (fi : FA) (gt : FG) (fb : FS) : FS := fun ρ => bnd (fi ρ) fun ds => loopS gt fb ds ρ
theorem ds_for {iter : Expr} {body : List Stmt} {fi : FA} {S : List Nat} {gt : FG} {fb : FS} (hW : Flat W) (hp : PassesOwn (model X.prog X.w) X.A X.env X.xe) (hc : X.calm = true) (hi : DI X LO W tg iter fi) (hg : DG X LO tg S gt) (hb : DSs X LO W body fb)
    (hs : ∀ x, foldedSetIterable iter X.env x = pure x := by intro _; rfl) : DS X LO W (.For tg iter body [] pos) (fFor fi gt fb) := ps_imp (ps_for hp hc hi hg hb hs) fun d σ H ⟨θ, ρ, μ, re, rl, p⟩ =>
  ⟨θ, ρ, μ, re, rl, post_bndS p hW fun ds μ1 θ1 J H1 e1 rl1 gd p1 => by
    refine ⟨fun i m σ' H' => m = ds.length - i ∧ i ≤ ds.length ∧ ∃ θ' ρ' μ', Ext θ1 H1 θ' H' ∧ REnv (gX X LO) θ' H' σ' ρ' ∧ Rel (gX X LO) θ' μ' H' ∧ PostS (gX X LO) W θ' H' d (loopS gt fb (ds.drop i) ρ' μ'),
      ⟨ds.length, rfl, Nat.zero_le _, θ1, ρ, μ1, Ext.refl _ _, re.ext e1, rl1, p1⟩, ?_⟩
    rintro i m σ' H' ⟨rfl, hi, θ', ρ', μ', e2, re2, rl2, p2⟩
    obtain ⟨g1, g2⟩ := gd θ' H' e2 rl2.so i
    by_cases hlt : i < ds.length
    · have hd : ds[i]? = some ds[i] := List.getElem?_eq_getElem hlt
      obtain ⟨go, yl⟩ := g1 _ hd
      rw [List.drop_eq_getElem_cons hlt] at p2
      refine .inr ⟨go, fun σ'' H'' => ∃ m', m' < ds.length - i ∧ (m' = ds.length - (i + 1) ∧ i + 1 ≤ ds.length ∧ ∃ θ' ρ' μ', Ext θ1 H1 θ' H'' ∧ REnv (gX X LO) θ' H'' σ'' ρ' ∧ Rel (gX X LO) θ' μ' H'' ∧ PostS (gX X LO) W θ' H'' d (loopS gt fb (ds.drop (i + 1)) ρ' μ')), fun _ _ z => z, fun x H'' hy => ?_⟩
      obtain ⟨e3, k3, r3⟩ := yl x H'' hy
      have p2' : PostS (gX X LO) W θ' H' d (turnS gt fb (loopS gt fb (ds.drop (i + 1))) ds[i] ρ' μ') := p2
      unfold turnS bnd lif at p2'
      cases hgt : gt ds[i] ρ' μ' with
      | none => rw [hgt] at p2'; exact p2'.elim
      | some ρ1 =>
        rw [hgt] at p2'
        dsimp only at p2'
        refine ⟨θ', ρ', μ', ds[i], ρ1, re2.ext e3, rl2.ext e3 k3, r3, hgt, fun θ4 σ4 H4 e4 rl4 re4 _ => ⟨θ4, ρ1, μ', re4, rl4, ?_⟩⟩
        have e5 := e3.trans e4
        cases hfb : fb ρ1 μ' with
        | none => rw [hfb] at p2'; exact p2'
        | some r =>
          rw [hfb] at p2'
          cases r with
          | ex c m => exact fun θ6 σ6 H6 C e6 rl6 hm => p2' θ6 σ6 H6 C (e5.trans e6) rl6 hm
          | ok o m =>
            cases o with
            | nx ρ2 => exact fun θ6 σ6 H6 e6 rl6 re6 => ⟨ds.length - (i + 1), by omega, rfl, hlt, θ6, ρ2, m, e2.trans (e5.trans e6), re6, rl6, PostS.ext (e5.trans e6) p2'⟩
            | ct ρ2 => exact fun θ6 σ6 H6 e6 rl6 re6 => ⟨ds.length - (i + 1), by omega, rfl, hlt, θ6, ρ2, m, e2.trans (e5.trans e6), re6, rl6, PostS.ext (e5.trans e6) p2'⟩
            | bk ρ2 => exact fun θ6 σ6 H6 e6 rl6 re6 => p2' θ6 σ6 H6 (e5.trans e6) rl6 re6
            | rt a => exact fun θ6 σ6 H6 e6 rl6 re6 => p2' θ6 σ6 H6 (e5.trans e6) rl6 re6
    · have hn : ds[i]? = none := List.getElem?_eq_none (by omega)
      rw [List.drop_eq_nil_of_le (by omega)] at p2
      exact .inl ⟨g2 hn, p2 θ' σ' H' (Ext.refl _ _) rl2 re2⟩⟩
end
end Tr
/-! ## TrD -/
set_option Elab.async false
set_option linter.all false
set_option maxRecDepth 100000
set_option maxHeartbeats 2000000
namespace Tr
open PySem PySem.Spec PyProof.Rows L2
/-- a def's body, called with so many values; N slots in all -/
def bodyF (F0 : FS) (n N : Nat) : List D → M D := fun ds μ => if ds.length = n then
    match F0 (ds.map some ++ List.replicate (N - n) none) μ with
    | some (.ok (.rt d) μ') => some (.ok d μ')
    | some (.ok (.nx _) μ') => some (.ok (.v .non) μ')
    | some (.ex c μ') => some (.ex c μ')
    | _ => none
  else none
theorem RpL.get {g : G} {θ : Cs} {H : Hp} : ∀ {ds : List D} {us : List V} {i : Nat} {d : D}, RpL g θ H ds us → ds[i]? = some d → ∃ u, us[i]? = some u ∧ Rp g θ H d u
  | [], _, _, _, _, e => by simp at e
  | x :: ds, _, 0, d, h, e => by
    unfold RpL at h
    obtain ⟨v, r, rfl, h2, h3⟩ := h
    have e : x = d := by simpa using e
    subst e
    exact ⟨v, rfl, h2⟩
  | x :: ds, _, i + 1, d, h, e => by
    unfold RpL at h
    obtain ⟨v, r, rfl, h2, h3⟩ := h
    obtain ⟨u, h4, h5⟩ := RpL.get (i := i) h3 (by simpa using e)
    exact ⟨u, by simpa using h4, h5⟩
theorem renv_start {g : G} {θ : Cs} {H : Hp} {ds : List D} {vs : List V} {N : List Str} (r : RpL g θ H ds vs) {n : Nat} (hn : ds.length = n) : REnv g θ H (L2.start N vs) (ds.map some ++ List.replicate (N.length - n) none) := by
  have hl := r.len
  refine ⟨?_, fun i d q => ?_⟩
  · unfold L2.start
    rw [List.length_append, List.length_append, List.length_map, List.length_map, List.length_replicate, List.length_replicate, ← hl, hn]
    exact Nat.le_refl _
  · by_cases hi : i < ds.length
    · rw [List.getElem?_append_left (by simpa using hi), List.getElem?_map] at q
      have q' : ds[i]? = some d := by
        cases e : ds[i]? with
        | none => rw [e] at q; cases q
        | some d' => rw [e] at q; cases q; rfl
      obtain ⟨u, h1, h2⟩ := r.get q'
      refine ⟨u, ?_, h2⟩
      unfold L2.start
      rw [List.getElem?_append_left (by simpa using hl ▸ hi), List.getElem?_map, h1]
      rfl
    · rw [List.getElem?_append_right (by simpa using hi)] at q
      have z := List.mem_of_getElem? q
      have z := List.eq_of_mem_replicate z
      cases z
/-- what a def's body is derived in -/
abbrev CxD (P : Program) (w : World) (K : PySem.W.Frag) (mg : Str → Option Value) (base : Heap) (N : List Str) (qual : Str) (st : Stmt) (f : Addr) (cdv : Value) (A : Around) (outer : List Env) (s : Shared) (H : Hp) (E : XK) : Cx :=
  cxOf (L2.CX P w) P w K mg base N qual (defScope st) f cdv A outer s H E
abbrev WD (E : XK) : WX := fun cls d _ H => E cls d H
theorem flat_WD {E : XK} : Flat (WD E) := fun _ _ _ _ _ h => h
section
variable {P : Program} {w : World} {K : PySem.W.Frag} {mg : Str → Option Value} {base : Heap}
theorem FnAt.fn {k : Nat} {f : Addr} {fd : FuncData} {ps : List Str} {x : Str} {F : List D → M D} (h : FnAt P w K mg base k f fd ps x F) : Fn P w K mg base k x F := ⟨f, fd, ps, h⟩
/-- THE RULE for a def: its body, derived once, keeps the promise of its function -/
theorem okF {x qual : Str} {st : Stmt} {f : Addr} {fd : FuncData} {N ps : List Str} {k : Nat} {F0 : FS} (F : Fun K x qual st f fd) (S : FnScope N ps (defScope st)) (gm : mg x = some (.ref f)) (bd : Binds K fd ps [])
    (hb : ∀ (LO : LOs) (cdv : Value) (A : Around) (outer : List Env) (s : Shared) (H : Hp) (E : XK), Rm k (A.deeper (envOfC qual (defScope st) s.heap.objs.size f cdv)) →
      DSs (CxD P w K mg base N qual st f cdv A outer s H E) LO (WD E) (defBody st) F0) : FnAt P w K mg base (k + 1) f fd ps x (bodyF F0 ps.length N.length) := by
  refine ⟨⟨fun vs H Q E h => ?_, fun A outer s H args us vs Q E hr e0 hbd hv h => ?_⟩, gm, F.kp, bd⟩
  · obtain ⟨LO, θ, μ, ds, r1, r2, p⟩ := h
    unfold bodyF at p
    split at p
    · rw [← r1.len]; assumption
    · exact p.elim
  · obtain ⟨LO, θ, μ, ds, r1, r2, p⟩ := h
    obtain ⟨oc, od, kV, doc, pm, an, cdv, ct, osl, rfl, lk, hcd⟩ := F.ex
    unfold bodyF at p
    split at p
    · rename_i hn
      refine LamX.run_ofS (N := N) (ps := ps) (CX := L2.CX P w) lk hcd S hr.room e0 hbd hv (by rw [← r1.len]; exact hn) fun hr' => ?_
      refine ⟨_, hb LO cdv A outer s H E ⟨hr', hr.gd⟩, θ, ds.map some ++ List.replicate (N.length - ps.length) none, μ, renv_start r1 hn, r2, ?_⟩
      cases e : F0 (ds.map some ++ List.replicate (N.length - ps.length) none) μ with
      | none => rw [e] at p; exact p
      | some r =>
        rw [e] at p
        cases r with
        | ex c m => exact fun θ' σ' H' C e1 rl hm => p θ' H' C e1 rl hm
        | ok o m =>
          cases o with
          | nx ρ' => exact fun θ' σ' H' e1 rl re => p θ' _ H' e1 rl (rp_v trivial)
          | rt d => exact fun θ' u H' e1 rl r => p θ' u H' e1 rl r
          | bk ρ' => exact p.elim
          | ct ρ' => exact p.elim
    · exact p.elim
end
end Tr
/-! ## TrE -/
set_option Elab.async false
set_option linter.all false
set_option maxRecDepth 100000
set_option maxHeartbeats 2000000
namespace Tr
open PySem PySem.Spec PyProof.Rows L2
/-! ### what is walked -/
theorem pi_imp {X : Cx} {tg iter : Expr} {t t' : TI} (h : PI X tg iter t) (i : ∀ σ H R, t' σ H R → t σ H R) : PI X tg iter t' := ⟨fun pins s σ H R I q => h.run pins s σ H R I (i σ H R q)⟩
theorem pi_or {X : Cx} {tg iter : Expr} {t t' : TI} (h : PI X tg iter t) (h' : PI X tg iter t') : PI X tg iter (fun σ H R => t σ H R ∨ t' σ H R) := ⟨fun pins s σ H R I q => q.elim (h.run pins s σ H R I) (h'.run pins s σ H R I)⟩
/-- the signs of a text -/
def chars (z : Str) : List D := z.cps.toList.map fun c => .v (.str ⟨#[c]⟩)
/-- what stands in a thing that is walked -/
def items : D → Option (List D)
  | .lst xs => some xs
  | .tup xs => some xs
  | .v (.str z) => some (chars z)
  | _ => none
theorem okV_one {c : Nat} : okV (.str ⟨#[c]⟩) := show 1 ≤ sizeLine from by rw [sizeLine_eq]; decide
def fItm (fa : FE) : FA := fun ρ => bnd (fa ρ) fun d => lif fun _ => items d
section
variable {g : G} {θ : Cs} {H : Hp}
theorem good_list {K : PySem.W.Frag} {p : Addr} {vs : List V} {ds : List D} (h : SqN K θ H p vs) (r : RpL g θ H ds vs) : Good g (Itl K p) θ H ds := fun θ' H' e so i => by
  have h' := (e.sqN h).sq
  have r' := r.ext e
  refine ⟨fun d hd => ?_, fun hn => ?_⟩
  · obtain ⟨u, h1, h2⟩ := r'.get hd
    refine ⟨⟨vs, u, h', h1⟩, fun x H2 hy => ?_⟩
    obtain ⟨e2, hx⟩ := hy
    subst e2
    have z := hx vs h'
    rw [h1] at z
    cases z
    exact ⟨Ext.refl _ _, fun _ _ => rfl, h2⟩
  · exact ⟨vs, h', by rw [← r.len]; exact List.getElem?_eq_none_iff.mp hn⟩
theorem good_tup {K : PySem.W.Frag} {p : Addr} {vs : List V} {ds : List D} (h : SqT K H p vs) (r : RpL g θ H ds vs) : Good g (Itt K p) θ H ds := fun θ' H' e so i => by
  have h' := e.sqT h
  have r' := r.ext e
  refine ⟨fun d hd => ?_, fun hn => ?_⟩
  · obtain ⟨u, h1, h2⟩ := r'.get hd
    refine ⟨⟨vs, u, h', h1⟩, fun x H2 hy => ?_⟩
    obtain ⟨e2, hx⟩ := hy
    subst e2
    have z := hx vs h'
    rw [h1] at z
    cases z
    exact ⟨Ext.refl _ _, fun _ _ => rfl, h2⟩
  · exact ⟨vs, h', by rw [← r.len]; exact List.getElem?_eq_none_iff.mp hn⟩
theorem good_str {z : Str} : Good g (Its z) θ H (chars z) := fun θ' H' e so i => by
  have hl : (chars z).length = z.cps.size := by simp [chars]
  refine ⟨fun d hd => ?_, fun hn => ?_⟩
  · have hi := (List.getElem?_eq_some_iff.mp hd).1
    rw [hl] at hi
    refine ⟨hi, fun x H2 hy => ?_⟩
    obtain ⟨e2, c, hc, hx⟩ := hy
    subst e2 hx
    have hd' : d = .v (.str ⟨#[c]⟩) := by
      have z1 : z.cps.toList[i]? = some c := by rw [← hc]; simp
      unfold chars at hd
      rw [List.getElem?_map, z1] at hd
      exact (Option.some.inj hd).symm
    subst hd'
    exact ⟨Ext.refl _ _, fun _ _ => rfl, rp_v okV_one⟩
  · have z := List.getElem?_eq_none_iff.mp hn
    rw [hl] at z
    exact z
end
section
variable {X : Cx} {LO : LOs} {W : WX} {tg e : Expr} {fa : FE}
theorem di_any (h : DE X LO W e fa) : DI X LO W tg e (fItm fa) := pi_imp (pi_or (pi_list h) (pi_or (pi_tup h) (pi_str h))) fun σ H R ⟨θ, ρ, μ, re, rl, p⟩ => by
  unfold fItm at p
  have key : ∀ {P : V → Hp → Prop}, (∀ d u θ1 μ1 H1 ds, Ext θ H θ1 H1 → Rel (gX X LO) θ1 μ1 H1 → Rp (gX X LO) θ1 H1 d u → items d = some ds → (∀ J, Good (gX X LO) J θ1 H1 ds → R J H1) → P u H1) → lE (gX X LO) W fa σ H P := fun {P} k =>
    ⟨θ, ρ, μ, re, rl, post_bnd p fun d μ1 θ1 u H1 e1 rl1 r1 p1 => by
      obtain ⟨ds, h1, h2⟩ := post_lif p1
      exact k d u θ1 μ1 H1 ds e1 rl1 r1 h1 fun J hJ => h2 θ1 J H1 (Ext.refl _ _) rl1 hJ⟩
  -- the value's form is the same at every end
  cases hf : fa ρ μ with
  | none => unfold bnd at p; rw [hf] at p; exact p.elim
  | some r =>
    cases r with
    | ex c m =>
      refine .inl ⟨θ, ρ, μ, re, rl, ?_⟩
      unfold bnd at p
      rw [hf] at p ⊢
      exact p
    | ok d m =>
      have low : ∀ {P : V → Hp → Prop}, (∀ u θ1 μ1 H1 ds, Ext θ H θ1 H1 → Rel (gX X LO) θ1 μ1 H1 → Rp (gX X LO) θ1 H1 d u → items d = some ds → (∀ J, Good (gX X LO) J θ1 H1 ds → R J H1) → P u H1) → lE (gX X LO) W fa σ H P := fun {P} k => by
        refine ⟨θ, ρ, μ, re, rl, ?_⟩
        unfold bnd lif at p
        rw [hf] at p ⊢
        dsimp only at p
        cases hi : items d with
        | none => rw [hi] at p; exact p.elim
        | some ds =>
          rw [hi] at p
          exact fun θ1 u H1 e1 rl1 r1 => k u θ1 m H1 ds e1 rl1 r1 hi fun J hJ => p θ1 J H1 e1 rl1 hJ
      cases d with
      | lst xs =>
        refine .inl (low fun u θ1 μ1 H1 ds e1 rl1 r1 hi k => ?_)
        cases hi
        unfold Rp at r1
        obtain ⟨q, vs, rfl, h2, h3⟩ := r1
        exact ⟨q, rfl, ⟨vs, h2.sq⟩, k _ (good_list h2 h3)⟩
      | tup xs =>
        refine .inr (.inl (low fun u θ1 μ1 H1 ds e1 rl1 r1 hi k => ?_))
        cases hi
        unfold Rp at r1
        obtain ⟨q, vs, rfl, h2, h3⟩ := r1
        exact ⟨q, rfl, ⟨vs, h2⟩, k _ (good_tup h2 h3)⟩
      | v x =>
        cases x with
        | str z =>
          refine .inr (.inr (low fun u θ1 μ1 H1 ds e1 rl1 r1 hi k => ?_))
          cases hi
          unfold Rp at r1
          exact ⟨z, r1.1, k _ good_str⟩
        | _ => exact .inl (low fun u θ1 μ1 H1 ds e1 rl1 r1 hi k => nomatch hi)
      | r n => exact .inl (low fun u θ1 μ1 H1 ds e1 rl1 r1 hi k => nomatch hi)
      | exn c => exact .inl (low fun u θ1 μ1 H1 ds e1 rl1 r1 hi k => nomatch hi)
      | lam c => exact .inl (low fun u θ1 μ1 H1 ds e1 rl1 r1 hi k => nomatch hi)
/-! ### ranges -/
/-- lo, lo + 1, .. -/
def rngD (lo : Int) (n : Nat) : List D := (List.range n).map fun i => .v (.int (lo + (i : Nat)))
theorem good_rng {g : G} {θ : Cs} {H : Hp} {lo : Int} {n : Nat} : Good g (Itr lo n) θ H (rngD lo n) := fun θ' H' e so i => by
  have hl : (rngD lo n).length = n := by simp [rngD]
  refine ⟨fun d hd => ?_, fun hn => ?_⟩
  · have hi := (List.getElem?_eq_some_iff.mp hd).1
    rw [hl] at hi
    refine ⟨hi, fun x H2 hy => ?_⟩
    obtain ⟨e2, hx⟩ := hy
    subst e2 hx
    have hd' : d = .v (.int (lo + (i : Nat))) := by
      unfold rngD at hd
      rw [List.getElem?_map, List.getElem?_range hi] at hd
      exact (Option.some.inj hd).symm
    subst hd'
    exact ⟨Ext.refl _ _, fun _ _ => rfl, rp_v trivial⟩
  · have z := List.getElem?_eq_none_iff.mp hn
    rw [hl] at z
    exact z
def small62 (j : Int) : Bool := decide (-(2 ^ 62) ≤ j) && decide (j < 2 ^ 62)
theorem small62_iff {j : Int} (h : small62 j = true) : -(2 ^ 62) ≤ j ∧ j < 2 ^ 62 := by
  unfold small62 at h
  simpa using h
def rng1 : List D → Option (List D)
  | [.v (.int j)] => if small62 j = true then some (rngD 0 j.toNat) else none
  | _ => none
def rng2 : List D → Option (List D)
  | [.v (.int i), .v (.int j)] => if small62 i = true then if small62 j = true then some (rngD i (j - i).toNat) else none else none
  | _ => none
def fRng1 (fs : List FE) : FA := fun ρ => bnd (fAll fs ρ) fun ds => lif fun _ => rng1 ds
def fRng2 (fs : List FE) : FA := fun ρ => bnd (fAll fs ρ) fun ds => lif fun _ => rng2 ds
theorem di_range1 {a : Expr} {fs : List FE} {p pos : Pos} (hm : X.mg "range" = none) (ha : DA X LO W [a] (fAll fs)) (hg : Gl X "range" := by rfl) (hs : starEach [a] X.env = [(false, eval a X.env)] := by rfl) : DI X LO W tg (.Call (.Name "range" p) [a] [] pos) (fRng1 fs) :=
  pi_imp (pi_range1 hg hm ha hs) fun σ H R ⟨θ, ρ, μ, re, rl, q⟩ => ⟨θ, ρ, μ, re, rl, post_bnd q fun ds μ1 θ1 us H1 e1 rl1 r1 q1 => by
    obtain ⟨xs, h1, h2⟩ := post_lif q1
    unfold rng1 at h1
    split at h1
    · rename_i j
      split at h1
      · rename_i hj
        cases h1
        obtain ⟨j1, j2⟩ := small62_iff hj
        unfold RpL RpL at r1
        obtain ⟨u, r, rfl, ru, rfl⟩ := r1
        unfold Rp at ru
        exact ⟨j, by rw [ru.1], j1, j2, h2 θ1 _ H1 (Ext.refl _ _) rl1 good_rng⟩
      · cases h1
    · cases h1⟩
theorem di_range2 {a b : Expr} {fs : List FE} {p pos : Pos} (hm : X.mg "range" = none) (ha : DA X LO W [a, b] (fAll fs)) (hg : Gl X "range" := by rfl) (hs : starEach [a, b] X.env = [(false, eval a X.env), (false, eval b X.env)] := by rfl) (hs2 : starEach [b] X.env = [(false, eval b X.env)] := by rfl) :
    DI X LO W tg (.Call (.Name "range" p) [a, b] [] pos) (fRng2 fs) :=
  pi_imp (pi_range2 hg hm ha hs hs2) fun σ H R ⟨θ, ρ, μ, re, rl, q⟩ => ⟨θ, ρ, μ, re, rl, post_bnd q fun ds μ1 θ1 us H1 e1 rl1 r1 q1 => by
    obtain ⟨xs, h1, h2⟩ := post_lif q1
    unfold rng2 at h1
    split at h1
    · rename_i i j
      split at h1
      · rename_i hi
        split at h1
        · rename_i hj
          cases h1
          obtain ⟨i1, i2⟩ := small62_iff hi
          obtain ⟨j1, j2⟩ := small62_iff hj
          unfold RpL RpL RpL at r1
          obtain ⟨u, r, rfl, ru, w, r', rfl, rw', rfl⟩ := r1
          unfold Rp at ru rw'
          exact ⟨i, j, by rw [ru.1, rw'.1], ⟨i1, i2, j1, j2⟩, h2 θ1 _ H1 (Ext.refl _ _) rl1 good_rng⟩
        · cases h1
      · cases h1
    · cases h1⟩
/-! ### list comprehensions -/
def noex {α : Type} (f : M α) : M α := fun μ => match f μ with
  | some (.ok a m) => some (.ok a m)
  | _ => none
abbrev W0 : WX := fun _ _ _ _ => False
/-- the slots of the block's own names are forgotten -/
def wipeE (ρ : En) : List Nat → En
  | [] => ρ
  | v :: vs => (wipeE ρ vs).set v none
def tYesF : FT := fun _ => ret true
def lcGo (gt : FG) (ft : FT) (fe : FE) (ρ : En) : List D → M (List D)
  | [] => ret []
  | d :: ds => bnd (lif (gt d ρ)) fun ρ1 => bnd (noex (ft ρ1)) fun b =>
    if b = true then bnd (noex (fe ρ1)) fun y => bnd (lcGo gt ft fe ρ ds) fun r => ret (y :: r) else lcGo gt ft fe ρ ds
def fLcG (fin : List D → M D) (fi : FA) (gt : FG) (ft : FT) (fe : FE) (own : List Nat) : FE := fun ρ => bnd (fi ρ) fun ds => if ds.length ≤ 16777216 then bnd (lcGo gt ft fe (wipeE ρ own) ds) fin else no
/-- a new cell -/
def newc (c : Cell) : M D := fun μ => some (.ok (.r μ.length) (μ ++ [c]))
def finL : List D → M D := fun out => ret (.lst out)
def finM : List D → M D := fun out => newc (.lst out)
abbrev fLc := fLcG finL
abbrev fLcM := fLcG finM
/-- what the end of the walk must bring: the list at L, hidden until now, is shown, or is a cell -/
def FinOk (g : G) (fin : List D → M D) : Prop := ∀ {W : WX} {θ1 θ' : Cs} {H1 H' : Hp} {σ : L2.St} {Q : VK} {L : Addr} {μ' : Mu} {acc : List D} {vs' : List V}, H1 L = none → ¬ θ1.no L → Ext θ1 H1 θ' H' → θ'.no L → L ∉ θ'.at_ → H' L = some (.lst vs') → RpL g θ' H' acc vs' → Rel g θ' μ' H' →
  Post g W θ1 H1 σ (Rp g) Q (fin acc μ') → Q (.ref L) H'
/-- the rest of the walk, what was made so far ahead of it -/
def lcFr (fin : List D → M D) (gt : FG) (ft : FT) (fe : FE) (ρ : En) (acc ds : List D) : M D := bnd (lcGo gt ft fe ρ ds) fun out => fin (acc ++ out)
theorem renv_wipe {g : G} {θ : Cs} {H : Hp} {σ : L2.St} {ρ : En} (h : REnv g θ H σ ρ) : ∀ vs : List Nat, REnv g θ H (wipe σ vs) (wipeE ρ vs)
  | [] => h
  | v :: vs => (renv_wipe h vs).unset v
theorem wipe_out {σ σ' : L2.St} {S : List Nat} (s : SameOut S σ σ') : ∀ {vs : List Nat}, (∀ i ∈ S, i ∈ vs) → wipe σ' vs = wipe σ vs := by
  intro vs hs
  apply List.ext_getElem?
  intro i
  by_cases hi : i ∈ vs
  · have w : ∀ (τ : L2.St) (l : List Nat), i ∈ l → (wipe τ l)[i]? = if i < τ.length then some none else none := by
      intro τ l
      induction l with
      | nil => intro h; cases h
      | cons v l ih =>
        intro h
        show ((wipe τ l).set v none)[i]? = _
        by_cases e : v = i
        · subst e
          rw [List.getElem?_set]
          simp [wipe_length]
        · rw [List.getElem?_set_ne e]
          exact ih (by
            rcases List.mem_cons.mp h with h | h
            · exact absurd h.symm e
            · exact h)
    rw [w _ _ hi, w _ _ hi, s.1]
  · have w : ∀ (τ : L2.St) (l : List Nat), i ∉ l → (wipe τ l)[i]? = τ[i]? := by
      intro τ l
      induction l with
      | nil => intro _; rfl
      | cons v l ih =>
        intro h
        show ((wipe τ l).set v none)[i]? = _
        rw [List.getElem?_set_ne (fun z => h (by rw [z]; exact List.mem_cons_self)), ih (fun z => h (List.mem_cons_of_mem _ z))]
    rw [w _ _ hi, w _ _ hi]
    exact s.2 i fun z => hi (hs i z)
theorem wipe_idem {σ : L2.St} {vs : List Nat} : wipe (wipe σ vs) vs = wipe σ vs := by
  have s : SameOut vs σ (wipe σ vs) := ⟨wipe_length _ _, fun i hi => by
    have w : ∀ (τ : L2.St) (l : List Nat), i ∉ l → (wipe τ l)[i]? = τ[i]? := by
      intro τ l
      induction l with
      | nil => intro _; rfl
      | cons v l ih =>
        intro h
        show ((wipe τ l).set v none)[i]? = _
        rw [List.getElem?_set_ne (fun z => h (by rw [z]; exact List.mem_cons_self)), ih (fun z => h (List.mem_cons_of_mem _ z))]
    exact w _ _ hi⟩
  exact wipe_out s fun i hi => hi
theorem RpL.append {g : G} {θ : Cs} {H : Hp} : ∀ {as bs : List D} {us ws : List V}, RpL g θ H as us → RpL g θ H bs ws → RpL g θ H (as ++ bs) (us ++ ws)
  | [], bs, us, ws, h, h' => by
    unfold RpL at h
    subst h
    exact h'
  | a :: as, bs, us, ws, h, h' => by
    unfold RpL at h
    obtain ⟨v, r, rfl, h2, h3⟩ := h
    show RpL g θ H (a :: (as ++ bs)) (v :: (r ++ ws))
    unfold RpL
    exact ⟨v, r ++ ws, rfl, h2, RpL.append h3 h'⟩
theorem rpL_one {g : G} {θ : Cs} {H : Hp} {d : D} {u : V} (h : Rp g θ H d u) : RpL g θ H [d] [u] := by
  unfold RpL RpL
  exact ⟨u, [], rfl, h, rfl⟩
def DTs (X : Cx) (LO : LOs) (W : WX) (ifs : List Expr) (f : FT) : Prop := PTs X ifs (lT (gX X LO) W f)
theorem dts_nil : DTs X LO W [] tYesF := ⟨fun pins s σ H Q I ⟨θ, ρ, μ, re, rl, p⟩ => pts_nil.run pins s σ H Q I (post_ret p rl rfl)⟩
theorem dts_one {c : Expr} {ft : FT} (h : DT X LO W c ft) : DTs X LO W [c] ft := pts_one h
theorem Ext.put {θ θ' : Cs} {H H' : Hp} (e : Ext θ H θ' H') {p : Addr} {o : HO} (hp : H p = none) : Ext θ H θ' (upd H' p o) := by
  have ne : ∀ a u, H a = some u → a ≠ p := fun a u h z => by rw [z, hp] at h; cases h
  refine ⟨e.pre, fun a o' n h => ?_, fun a o' n h => ?_, fun a xs h => ?_, fun a o' u h => ?_, fun a h => ?_, e.mono⟩
  · rw [upd_ne (ne a _ h)]; exact e.keep a o' n h
  · rw [upd_ne (ne a _ h)]; exact e.hid a o' n h
  · rw [upd_ne (ne a _ h)]; exact e.tups a xs h
  · rw [upd_ne (ne a _ h)]; exact e.frzs a o' u h
  · by_cases z : a = p
    · rw [z]; exact hp
    · rw [upd_ne z] at h; exact e.free a h
theorem Ext.bare {θ θ' : Cs} {H H' : Hp} (e : Ext θ H θ' H') {p : Addr} (hp : ¬ θ.no p) : Ext θ H (θ'.bare p) H' := by
  refine ⟨e.pre, fun a o n h => ⟨(e.keep a o n h).1, fun z => (e.keep a o n h).2 z.1⟩, e.hid, e.tups, e.frzs, e.free, fun a h => ⟨e.mono a h, fun z => hp (by rw [← z]; exact h)⟩⟩
theorem Ext.hide {θ : Cs} {H : Hp} {p : Addr} {o : HO} (hp : H p = none) : Ext θ H (θ.hide p) (upd H p o) := by
  have ne : ∀ a u, H a = some u → a ≠ p := fun a u h z => by rw [z, hp] at h; cases h
  refine ⟨⟨[], by simp⟩, fun a o' n h => ⟨?_, fun z => z.elim n (ne a _ h)⟩, fun a o' n h => ⟨?_, n⟩, fun a xs h => ?_, fun a o' u h => ?_, fun a h => ?_, fun a h => .inl h⟩
  · rw [upd_ne (ne a _ h)]; exact h
  · rw [upd_ne (ne a _ h)]; exact h
  · rw [upd_ne (ne a _ h)]; exact h
  · rw [upd_ne (ne a _ h)]; exact h
  · by_cases z : a = p
    · rw [z]; exact hp
    · rw [upd_ne z] at h; exact h
theorem noex_ok {α : Type} {f : M α} {μ m : Mu} {a : α} (h : noex f μ = some (.ok a m)) : f μ = some (.ok a m) := by
  unfold noex at h
  split at h
  · rename_i e; rw [e]; exact h
  · cases h
theorem noex_form {α : Type} (f : M α) (μ : Mu) : noex f μ = none ∨ ∃ a m, noex f μ = some (.ok a m) := by
  unfold noex
  split
  · exact .inr ⟨_, _, rfl⟩
  · exact .inl rfl
/-- one turn of the walk -/
theorem lcFr_cons {fin : List D → M D} {gt : FG} {ft : FT} {fe : FE} {ρ : En} {acc ds : List D} {d : D} {μ : Mu} {P : Option (R D) → Prop} (hP : ¬ P none) (p : P (lcFr fin gt ft fe ρ acc (d :: ds) μ)) :
    ∃ ρ1 b μ2, gt d ρ μ = some ρ1 ∧ ft ρ1 μ = some (.ok b μ2) ∧ ((b = false ∧ P (lcFr fin gt ft fe ρ acc ds μ2)) ∨ (b = true ∧ ∃ y μ3, fe ρ1 μ2 = some (.ok y μ3) ∧ P (lcFr fin gt ft fe ρ (acc ++ [y]) ds μ3))) := by
  cases h1 : gt d ρ μ with
  | none =>
    have e : lcFr fin gt ft fe ρ acc (d :: ds) μ = none := by simp [lcFr, lcGo, bnd, lif, h1]
    rw [e] at p
    exact absurd p hP
  | some ρ1 =>
    rcases noex_form (ft ρ1) μ with h2 | ⟨b, μ2, h2⟩
    · have e : lcFr fin gt ft fe ρ acc (d :: ds) μ = none := by simp [lcFr, lcGo, bnd, lif, h1, h2]
      rw [e] at p
      exact absurd p hP
    · cases b with
      | false =>
        have e : lcFr fin gt ft fe ρ acc (d :: ds) μ = lcFr fin gt ft fe ρ acc ds μ2 := by simp [lcFr, lcGo, bnd, lif, h1, h2]
        rw [e] at p
        exact ⟨ρ1, false, μ2, rfl, noex_ok h2, .inl ⟨rfl, p⟩⟩
      | true =>
        rcases noex_form (fe ρ1) μ2 with h3 | ⟨y, μ3, h3⟩
        · have e : lcFr fin gt ft fe ρ acc (d :: ds) μ = none := by simp [lcFr, lcGo, bnd, lif, h1, h2, h3]
          rw [e] at p
          exact absurd p hP
        · have e : lcFr fin gt ft fe ρ acc (d :: ds) μ = lcFr fin gt ft fe ρ (acc ++ [y]) ds μ3 := by
            simp [lcFr, lcGo, bnd, lif, h1, h2, h3]
            cases lcGo gt ft fe ρ ds μ3 with
            | none => rfl
            | some r => cases r <;> simp [ret]
          rw [e] at p
          exact ⟨ρ1, true, μ2, rfl, noex_ok h2, .inr ⟨rfl, y, μ3, noex_ok h3, p⟩⟩
theorem lc_imp {g : G} {W : WX} {fin : List D → M D} (hfin : FinOk g fin) {fi : FA} {S : List Nat} {gt : FG} {ft : FT} {fe : FE} {own : List Nat} (hS : ∀ i ∈ S, i ∈ own) {σ : L2.St} {H : Hp} {Q : VK} (h : lE g W (fLcG fin fi gt ft fe own) σ H Q) :
    tLc (lI g W fi) (lG g S gt) (lT g W0 ft) (lE g W0 fe) own σ H Q := by
  obtain ⟨θ, ρ, μ, re, rl, p⟩ := h
  refine ⟨θ, ρ, μ, re, rl, post_bnd p fun ds μ1 θ1 J H1 e1 rl1 gd p1 => ?_⟩
  by_cases hz : ds.length ≤ 16777216
  · rw [if_pos hz] at p1
    intro L hL
    have nL : ¬ θ1.no L := fun z => rl1.so L z hL
    have nA : L ∉ θ1.at_ := fun z => nL (rl1.sub L z)
    have re1 := re.ext e1
    refine ⟨fun i m H' => m = ds.length - i ∧ i ≤ ds.length ∧ ∃ θ' μ' acc vs', Ext θ1 H1 θ' H' ∧ θ'.no L ∧ L ∉ θ'.at_ ∧ H' L = some (.lst vs') ∧ acc.length ≤ i ∧ RpL g θ' H' acc vs' ∧ Rel g θ' μ' H' ∧ REnv g θ' H' (wipe σ own) (wipeE ρ own) ∧
        Post g W θ1 H1 σ (Rp g) Q (lcFr fin gt ft fe (wipeE ρ own) acc (ds.drop i) μ'),
      ⟨ds.length, rfl, Nat.zero_le _, θ1.hide L, μ1, [], [], Ext.hide hL, .inr rfl, nA, upd_same, Nat.zero_le _, by unfold RpL; rfl, rl1.hide hL, renv_wipe ((re1.hide hL).at_hidden (show (θ1.hide L).no L from Or.inr rfl) (fun xs z => by rw [hL] at z; cases z) (fun o u z => by rw [hL] at z; cases z)) _, p1⟩, ?_⟩
    rintro i m H' ⟨rfl, hi, θ', μ', acc, vs', e2, hn, ha, hv, hl, ra, rl2, re2, p2⟩
    obtain ⟨g1, g2⟩ := gd θ' H' e2 rl2.so i
    by_cases hlt : i < ds.length
    · have hd : ds[i]? = some ds[i] := List.getElem?_eq_getElem hlt
      obtain ⟨go, yl⟩ := g1 _ hd
      rw [List.drop_eq_getElem_cons hlt] at p2
      refine .inr ⟨go, fun H2 => ∃ m', m' < ds.length - i ∧ (m' = ds.length - (i + 1) ∧ i + 1 ≤ ds.length ∧ ∃ θ' μ' acc vs', Ext θ1 H1 θ' H2 ∧ θ'.no L ∧ L ∉ θ'.at_ ∧ H2 L = some (.lst vs') ∧ acc.length ≤ i + 1 ∧ RpL g θ' H2 acc vs' ∧ Rel g θ' μ' H2 ∧ REnv g θ' H2 (wipe σ own) (wipeE ρ own) ∧
        Post g W θ1 H1 σ (Rp g) Q (lcFr fin gt ft fe (wipeE ρ own) acc (ds.drop (i + 1)) μ')), fun _ z => z, fun x H2 hy => ?_⟩
      obtain ⟨e3, k3, r3⟩ := yl x H2 hy
      obtain ⟨ρ1, b, μ2, q1, q2, q3⟩ := lcFr_cons (P := Post g W θ1 H1 σ (Rp g) Q) (fun z => z) p2
      refine ⟨θ', wipeE ρ own, μ', ds[i], ρ1, re2.ext e3, rl2.ext e3 k3, r3, q1, fun θ4 σ4 H4 e4 rl4 re4 so4 => ⟨?_, θ4, ρ1, μ', re4, rl4, ?_⟩⟩
      · have w1 := wipe_out so4 hS
        rw [wipe_idem] at w1
        exact w1
      · rw [q2]
        intro θ5 b' H5 e5 rl5 hb
        have hb : b' = b := hb
        subst hb
        have e25 := (e3.trans e4).trans e5
        have h5 : H5 L = some (.lst vs') ∧ L ∉ θ5.at_ := e25.hid L _ ha hv
        rcases q3 with ⟨rfl, q3⟩ | ⟨rfl, y, μ3, q3, q4⟩
        · rw [if_neg Bool.false_ne_true]
          exact ⟨ds.length - (i + 1), by omega, rfl, hlt, θ5, μ2, acc, vs', e2.trans e25, e25.mono L hn, h5.2, h5.1, Nat.le_succ_of_le hl, ra.ext e25, rl5, re2.ext e25, q3⟩
        · rw [if_pos rfl]
          refine ⟨θ5, ρ1, μ2, re4.ext e5, rl5, ?_⟩
          rw [q3]
          intro θ6 u H6 e6 rl6 r6
          have e26 := e25.trans e6
          have h6 : H6 L = some (.lst vs') ∧ L ∉ θ6.at_ := e26.hid L _ ha hv
          have hn6 := e26.mono L hn
          have nt : ∀ xs, H6 L ≠ some (.tup xs) := fun xs z => by rw [h6.1] at z; cases z
          have nf : ∀ o u, H6 L ≠ some (.frz o u) := fun o u z => by rw [h6.1] at z; cases z
          have hvl : vs'.length = acc.length := ra.len.symm
          refine ⟨vs', h6.1, by rw [hvl, sizeLine_eq]; omega, ds.length - (i + 1), by omega, rfl, hlt, θ6, μ3, acc ++ [y], vs' ++ [u], (e2.trans e26).put hL, hn6, h6.2, upd_same, by rw [List.length_append]; exact Nat.succ_le_succ hl, ?_, rl6.at_hidden hn6 h6.2 nt nf, (re2.ext e26).at_hidden hn6 nt nf, q4⟩
          exact ((ra.ext e26).append (rpL_one r6)).at_hidden hn6 nt nf
    · have hn' : ds[i]? = none := List.getElem?_eq_none (by omega)
      rw [List.drop_eq_nil_of_le (by omega)] at p2
      refine .inl ⟨g2 hn', ?_⟩
      have p3 : Post g W θ1 H1 σ (Rp g) Q (fin (acc ++ []) μ') := p2
      rw [List.append_nil] at p3
      exact hfin hL nL e2 hn ha hv ra rl2 p3
  · rw [if_neg hz] at p1
    exact p1.elim
theorem finL_ok {g : G} : FinOk g finL := fun {W θ1 θ' H1 H' σ Q L μ' acc vs'} hL nL e2 hn ha hv ra rl2 p3 => by
  refine p3 (θ'.bare L) (.ref L) H' (e2.bare nL) (rl2.bare ha) ?_
  unfold Rp
  exact ⟨L, vs', rfl, .inl ⟨fun z => z.2 rfl, .inl hv⟩, ra.bare⟩
theorem de_lcG {fin : List D → M D} (hfin : FinOk (gX X LO) fin) {elt iter : Expr} {ifs : List Expr} {scope : Scope} {own : List (Str × Nat)} {pos : Pos} {fi : FA} {S : List Nat} {gt : FG} {ft : FT} {fe : FE} (hc : X.calm = true) (hN : X.N.Nodup) (ok : blkC X.N X.env.scope scope own = true) (hi : DI X LO W tg iter fi)
    (hg : ∀ (s : Shared) (H : Hp) (C : Addr) (cl : List (Str × Addr)) (fp : List Addr), DG (X.blk s H scope (compEnvC scope cl C X.env) fp) LO tg S gt) (ht : ∀ (s : Shared) (H : Hp) (C : Addr) (cl : List (Str × Addr)) (fp : List Addr), DTs (X.blk s H scope (compEnvC scope cl C X.env) fp) LO W0 ifs ft)
    (he : ∀ (s : Shared) (H : Hp) (C : Addr) (cl : List (Str × Addr)) (fp : List Addr), DE (X.blk s H scope (compEnvC scope cl C X.env) fp) LO W0 elt fe) (hS : ∀ i ∈ S, i ∈ own.map (·.2) := by decide) (hs : ∀ x, foldedSetIterable iter X.env x = pure x := by intro _; rfl) :
    DE X LO W (.ListComp elt [⟨tg, iter, ifs, 0⟩] scope pos) (fLcG fin fi gt ft fe (own.map (·.2))) := pe_imp (pe_lc (g := lG (gX X LO) S gt) (tt := lT (gX X LO) W0 ft) (te := lE (gX X LO) W0 fe) hc hN hi (blkOk_by ok) hg ht he hs) fun σ H Q h => lc_imp hfin hS h
theorem ds_setLcG {fin : List D → M D} (hfin : FinOk (gX X LO) fin) {i : Nat} {y : Str} {py : Pos} {elt iter : Expr} {ifs : List Expr} {scope : Scope} {own : List (Str × Nat)} {pos spos : Pos} {fi : FA} {S : List Nat} {gt : FG} {ft : FT} {fe : FE} (hW : Flat W) (hc : X.calm = true) (hN : X.N.Nodup) (ok : blkC X.N X.env.scope scope own = true) (hi : DI X LO W tg iter fi)
    (hg : ∀ (s : Shared) (H : Hp) (C : Addr) (cl : List (Str × Addr)) (fp : List Addr), DG (X.blk s H scope (compEnvC scope cl C X.env) fp) LO tg S gt) (ht : ∀ (s : Shared) (H : Hp) (C : Addr) (cl : List (Str × Addr)) (fp : List Addr), DTs (X.blk s H scope (compEnvC scope cl C X.env) fp) LO W0 ifs ft)
    (he : ∀ (s : Shared) (H : Hp) (C : Addr) (cl : List (Str × Addr)) (fp : List Addr), DE (X.blk s H scope (compEnvC scope cl C X.env) fp) LO W0 elt fe) (hy : X.N[i]? = some y := by rfl) (hyl : X.env.scope.names.lookup y = some .local := by rfl)
    (hsw : swapsWith (.ListComp elt [⟨tg, iter, ifs, 0⟩] scope pos) (some (.Name y py)) spos.line X.env = pure true := by rfl) (hS : ∀ i ∈ S, i ∈ own.map (·.2) := by decide) (hs : ∀ x, foldedSetIterable iter X.env x = pure x := by intro _; rfl) :
    DS X LO W (.Assign [.Name y py] (.ListComp elt [⟨tg, iter, ifs, 0⟩] scope pos) spos) (fSet i (fLcG fin fi gt ft fe (own.map (·.2)))) := ps_imp (ps_setLc (g := lG (gX X LO) S gt) (tt := lT (gX X LO) W0 ft) (te := lE (gX X LO) W0 fe) hc hN hy hyl hsw hi (blkOk_by ok) hg ht he hs) fun d σ H ⟨θ, ρ, μ, re, rl, p⟩ =>
  lc_imp hfin hS ⟨θ, ρ, μ, re, rl, post_bndS p hW fun x μ1 θ1 u H1 e1 rl1 r1 p1 => p1 θ1 _ H1 (Ext.refl _ _) rl1 ((re.ext e1).set r1 i)⟩
end
end Tr
/-! ## TrF -/
set_option Elab.async false
set_option linter.all false
set_option maxRecDepth 100000
set_option maxHeartbeats 2000000
namespace Tr
open PySem PySem.Spec PyProof.Rows L2
section
variable {g : G} {θ : Cs} {H : Hp} {u : V}
theorem rp_int {i : Int} (h : Rp g θ H (.v (.int i)) u) : u = .int i := by unfold Rp at h; exact h.1
theorem rp_bl {i : Bool} (h : Rp g θ H (.v (.bl i)) u) : u = .bl i := by unfold Rp at h; exact h.1
theorem rp_non (h : Rp g θ H (.v .non) u) : u = .non := by unfold Rp at h; exact h.1
theorem rp_ty {n : String} (h : Rp g θ H (.v (.ty n)) u) : u = .ty n := by unfold Rp at h; exact h.1
theorem rp_str {z : Str} (h : Rp g θ H (.v (.str z)) u) : u = .str z ∧ z.length ≤ sizeLine := by unfold Rp at h; exact h
theorem rp_tup {xs : List D} (h : Rp g θ H (.tup xs) u) : ∃ p vs, u = .ref p ∧ SqT g.K H p vs ∧ RpL g θ H xs vs := by unfold Rp at h; exact h
theorem rp_lst {xs : List D} (h : Rp g θ H (.lst xs) u) : ∃ p vs, u = .ref p ∧ SqN g.K θ H p vs ∧ RpL g θ H xs vs := by unfold Rp at h; exact h
theorem rp_mktup {xs : List D} {p : Addr} {vs : List V} (h : SqT g.K H p vs) (r : RpL g θ H xs vs) : Rp g θ H (.tup xs) (.ref p) := by unfold Rp; exact ⟨p, vs, rfl, h, r⟩
theorem rp_mklst {xs : List D} {p : Addr} {vs : List V} (h : SqN g.K θ H p vs) (r : RpL g θ H xs vs) : Rp g θ H (.lst xs) (.ref p) := by unfold Rp; exact ⟨p, vs, rfl, h, r⟩
/-- a new tuple, a new list, of what stands already -/
theorem new_tup {μ : Mu} {Q : VK} {xs : List D} {vs : List V} {p : Addr} (rl : Rel g θ μ H) (r : RpL g θ H xs vs) (hp : H p = none) (k : ∀ θ' u H', Ext θ H θ' H' → Rel g θ' μ H' → Rp g θ' H' (.tup xs) u → Q u H') : Q (.ref p) (upd H p (.tup vs)) := by
  obtain ⟨e, rl', n⟩ := rl.new (o := .tup vs) hp
  exact k θ _ _ e rl' (rp_mktup (.inl (.inl upd_same)) (r.ext e))
theorem new_lst {μ : Mu} {Q : VK} {xs : List D} {vs : List V} {p : Addr} (rl : Rel g θ μ H) (r : RpL g θ H xs vs) (hp : H p = none) (k : ∀ θ' u H', Ext θ H θ' H' → Rel g θ' μ H' → Rp g θ' H' (.lst xs) u → Q u H') : Q (.ref p) (upd H p (.lst vs)) := by
  obtain ⟨e, rl', n⟩ := rl.new (o := .lst vs) hp
  exact k θ _ _ e rl' (rp_mklst (.inl ⟨n, .inl upd_same⟩) (r.ext e))
theorem view_or (μ : Mu) (d : D) : view μ d = d ∨ ∃ n xs, d = .r n ∧ view μ d = .lst xs := by
  cases d with
  | r n =>
    cases h : μ[n]? with
    | none => left; simp [view, h]
    | some c =>
      cases c with
      | lst xs => right; exact ⟨n, xs, rfl, by simp [view, h]⟩
      | dic xs => left; simp [view, h]
      | tab q => left; simp [view, h]
  | _ => exact .inl rfl
/-- a thing seen through its cell -/
theorem rp_view {μ : Mu} {d : D} {xs : List D} (rl : Rel g θ μ H) (h : Rp g θ H d u) (hv : view μ d = .lst xs) : ∃ p vs, u = .ref p ∧ SqL g.K H p vs ∧ RpL g θ H xs vs := by
  cases d with
  | lst ys =>
    cases hv
    obtain ⟨p, vs, h1, h2, h3⟩ := rp_lst h
    exact ⟨p, vs, h1, h2.sq, h3⟩
  | r n =>
    unfold view at hv
    dsimp only at hv
    split at hv
    · rename_i ys hy
      cases hv
      obtain ⟨p, h1, vs, h2, h3⟩ := rl.ok n _ hy
      unfold Rp at h
      obtain ⟨q, h4, rfl⟩ := h
      rw [h1] at h4
      cases h4
      exact ⟨p, vs, rfl, .inl (.inl h2), h3⟩
    · cases hv
  | v _ => cases hv
  | tup _ => cases hv
  | exn _ => cases hv
  | lam _ => cases hv
end
theorem okV_of {z : Str} (h : z.length ≤ 16777216) : okV (.str z) := show z.length ≤ sizeLine from by rw [sizeLine_eq]; exact h
theorem line_of {n : Nat} (h : n ≤ 16777216) : n ≤ sizeLine := by rw [sizeLine_eq]; exact h
theorem of_line {n : Nat} (h : n ≤ sizeLine) : n ≤ 16777216 := by rw [sizeLine_eq] at h; exact h
section
variable {X : Cx} {LO : LOs}
theorem rpL_cons {g : G} {θ : Cs} {H : Hp} {d : D} {ds : List D} {us : List V} (h : RpL g θ H (d :: ds) us) : ∃ u r, us = u :: r ∧ Rp g θ H d u ∧ RpL g θ H ds r := by unfold RpL at h; exact h
theorem rpL_nil {g : G} {θ : Cs} {H : Hp} {us : List V} (h : RpL g θ H [] us) : us = [] := by unfold RpL at h; exact h
theorem rpL_1 {g : G} {θ : Cs} {H : Hp} {d : D} {us : List V} (h : RpL g θ H [d] us) : ∃ u, us = [u] ∧ Rp g θ H d u := by
  obtain ⟨u, r, rfl, h1, h2⟩ := rpL_cons h
  cases rpL_nil h2
  exact ⟨u, rfl, h1⟩
theorem rpL_2 {g : G} {θ : Cs} {H : Hp} {d e : D} {us : List V} (h : RpL g θ H [d, e] us) : ∃ u w, us = [u, w] ∧ Rp g θ H d u ∧ Rp g θ H e w := by
  obtain ⟨u, r, rfl, h1, h2⟩ := rpL_cons h
  obtain ⟨w, rfl, h3⟩ := rpL_1 h2
  exact ⟨u, w, rfl, h1, h3⟩
/-! ### + -/
def dAdd : Op2
  | .v (.int i), .v (.int j), _ => some (.v (.int (i + j)))
  | .v (.str a), .v (.str b), _ => if a.length + b.length ≤ 16777216 then some (.v (.str (a ++ b))) else none
  | .lst xs, .lst ys, _ => if xs.length + ys.length ≤ 16777216 then some (.lst (xs ++ ys)) else none
  | .tup xs, .tup ys, _ => if xs.length + ys.length ≤ 16777216 then some (.tup (xs ++ ys)) else none
  | _, _, _ => none
/-- list + list, both to be read -/
theorem op_catR : OpR X (binaryOp .Add) (fun x y H Q => ∃ l b xs zs, x = .ref l ∧ y = .ref b ∧ SqL X.K H l xs ∧ SqL X.K H b zs ∧ xs.length + zs.length ≤ sizeLine ∧ ∀ p, H p = none → Q (.ref p) (upd H p (.lst (xs ++ zs)))) := by
  intro pins s σ H x y v u Q I rx ry h
  obtain ⟨l, b, xs, zs, rfl, rfl, hl, hb, hz, q⟩ := h
  cases rx
  cases ry
  obtain ⟨i1, r1, ⟨⟨c1, d1, e1, t1⟩, n1, g1, a1, b1, k1⟩, _⟩ := I.list hl
  obtain ⟨i2, r2, ⟨⟨c2, d2, e2, t2⟩, n2, g2, a2, b2, k2⟩, _⟩ := I.list hb
  simp only at a1 k1 a2 k2
  subst a1 k1 a2 k2
  have hs : i1.toArray.size + i2.toArray.size ≤ sizeLine := by
    rw [List.size_toArray, List.size_toArray, ← r1.length, ← r2.length]
    exact hz
  refine concat_meets ⟨_, g1, rfl⟩ ⟨_, g2, rfl⟩ noFill_list_add seq_list_add PySem.F.slot_list_add PySem.F.entry_list_add (PySem.F.args_list_add_2 _ _) (list_addW l b i1.toArray i2.toArray n1 n2 d1 d2 t1 t2 hs) ⟨g1, g2, ?_⟩
  rw [List.append_toArray]
  exact ⟨.ref _, _, I.lnew (t' := s.toks) (r1.append r2) (by rw [List.length_append]; exact hz), rfl, q _ I.fresh⟩
/-- () + t -/
theorem op_catT0 : OpR X (binaryOp .Add) (fun x y H Q => ∃ a b ys, x = .ref a ∧ y = .ref b ∧ SqT X.K H a [] ∧ SqT X.K H b ys ∧ Q (.ref b) H) := by
  intro pins s σ H x y v u Q I rx ry h
  obtain ⟨a, b, ys, rfl, rfl, ha, hb, q⟩ := h
  cases rx
  cases ry
  obtain ⟨its, r1, p1, _⟩ := I.tuple ha
  obtain ⟨its2, r2, p2, _⟩ := I.tuple hb
  cases r1
  obtain ⟨⟨cls, dd, data, sl⟩, ho, hc, n, hd⟩ := id p1
  obtain ⟨⟨cls2, dd2, data2, sl2⟩, ho2, hc2, n2, hd2⟩ := id p2
  simp only at hc hd hc2 hd2
  subst hc hd hc2 hd2
  exact concat_meets ⟨_, ho, rfl⟩ ⟨_, ho2, rfl⟩ noFill_tuple_add seq_tuple_add PySem.F.slot_tuple_add PySem.F.entry_tuple_add (PySem.F.args_tuple_add_2 _ _) (tuple_addW0 a b #[] its2.toArray n n2 dd dd2 sl sl2 rfl) ⟨ho, ho2, ⟨.ref b, H, I, rfl, q⟩⟩
theorem op_addD : OpR X (binaryOp .Add) (rD2 (gX X LO) dAdd) := by
  intro pins s σ H x y v u Q I rx ry h
  obtain ⟨θ, μ, d1, d2, d, h1, h2, rl, e, k⟩ := h
  unfold dAdd at e
  split at e
  · cases e
    have z1 := rp_int h1
    have z2 := rp_int h2
    exact op_add pins s σ H x y v u Q I rx ry ⟨_, _, z1, z2, k θ _ H (Ext.refl _ _) rl (rp_v trivial)⟩
  · split at e
    · rename_i hz
      cases e
      have z1 := rp_str h1
      have z2 := rp_str h2
      refine op_add_str pins s σ H x y v u Q I rx ry ⟨_, _, z1.1, z2.1, line_of hz, k θ _ H (Ext.refl _ _) rl (rp_v (okV_of ?_))⟩
      rw [Str.length_append]
      exact hz
    · cases e
  · split at e
    · rename_i hz
      cases e
      obtain ⟨p, vs, z1, r1, q1⟩ := rp_lst h1
      obtain ⟨p2, vs2, z2, r2, q2⟩ := rp_lst h2
      exact op_catR pins s σ H x y v u Q I rx ry ⟨_, _, _, _, z1, z2, r1.sq, r2.sq, by rw [← q1.len, ← q2.len]; exact line_of hz, fun a ha => new_lst rl (q1.append q2) ha k⟩
    · cases e
  · split at e
    · rename_i _ xs ys hz
      cases e
      obtain ⟨p, vs, z1, r1, q1⟩ := rp_tup h1
      obtain ⟨p2, vs2, z2, r2, q2⟩ := rp_tup h2
      by_cases hne : xs = []
      · subst hne
        rw [rpL_nil q1] at r1
        exact op_catT0 pins s σ H x y v u Q I rx ry ⟨_, _, _, z1, z2, r1, r2, k θ _ H (Ext.refl _ _) rl (rp_mktup r2 q2)⟩
      refine op_catT pins s σ H x y v u Q I rx ry ⟨_, _, _, _, z1, z2, r1, r2, fun z => hne ?_, by rw [← q1.len, ← q2.len]; exact line_of hz, fun z => ?_, fun _ a ha => new_tup rl (q1.append q2) ha k⟩
      · have l := q1.len
        rw [z] at l
        exact List.eq_nil_of_length_eq_zero l
      · have l := q2.len
        rw [z] at l
        have e2 := List.eq_nil_of_length_eq_zero l
        rw [e2, List.append_nil] at k
        exact k θ _ H (Ext.refl _ _) rl (rp_mktup r1 q1)
    · cases e
  · cases e
/-! ### ints -/
def dInt (f : Int → Int → Option Int) : Op2
  | .v (.int i), .v (.int j), _ => (f i j).map fun k => .v (.int k)
  | _, _, _ => none
theorem op_intD {f : Value → Value → Sem Value} {C : Int → Int → Prop} {h : Int → Int → Int} {k : Int → Int → Option Int} (ho : OpR X f (rI C fun i j => .int (h i j))) (hk : ∀ i j n, k i j = some n → C i j ∧ n = h i j) : OpR X f (rD2 (gX X LO) (dInt k)) := by
  intro pins s σ H x y v u Q I rx ry hh
  obtain ⟨θ, μ, d1, d2, d, h1, h2, rl, e, q⟩ := hh
  unfold dInt at e
  split at e
  · rename_i i j
    cases hn : k i j with
    | none => rw [hn] at e; cases e
    | some n =>
      rw [hn] at e
      cases e
      obtain ⟨c, rfl⟩ := hk i j n hn
      exact ho pins s σ H x y v u Q I rx ry ⟨i, j, rp_int h1, rp_int h2, c, q θ _ H (Ext.refl _ _) rl (rp_v trivial)⟩
  · cases e
theorem rI0_rI {X : Cx} {f : Value → Value → Sem Value} {g : Int → Int → V} (h : OpR X f (rI0 g)) : OpR X f (rI (fun _ _ => True) g) := fun pins s σ H x y v u Q I rx ry ⟨i, j, h1, h2, _, q⟩ => h pins s σ H x y v u Q I rx ry ⟨i, j, h1, h2, q⟩
def iSub (i j : Int) : Option Int := some (i - j)
def iFdiv (i j : Int) : Option Int := if 0 < j ∧ j < 1073741824 then some (i / j) else none
def iMod (i j : Int) : Option Int := if 0 < j then some (i % j) else none
def iPow (i j : Int) : Option Int := if 0 ≤ j ∧ j ≤ 1000000 ∧ i.natAbs < 2 ^ 64 then some (i ^ j.toNat) else none
def iMul (i j : Int) : Option Int := if (-(2 ^ 64) < i ∧ i < 2 ^ 64) ∨ (-(2 ^ 64) < j ∧ j < 2 ^ 64) then some (i * j) else none
theorem op_subD : OpR X (binaryOp .Sub) (rD2 (gX X LO) (dInt iSub)) := op_intD (rI0_rI op_sub) fun i j n e => ⟨trivial, (Option.some.inj e).symm⟩
theorem op_fdivD : OpR X (binaryOp .FloorDiv) (rD2 (gX X LO) (dInt iFdiv)) := op_intD op_fdiv fun i j n e => by
  unfold iFdiv at e
  split at e
  · rename_i c; exact ⟨c, (Option.some.inj e).symm⟩
  · cases e
theorem op_modD : OpR X (binaryOp .Mod) (rD2 (gX X LO) (dInt iMod)) := op_intD op_mod fun i j n e => by
  unfold iMod at e
  split at e
  · rename_i c; exact ⟨c, (Option.some.inj e).symm⟩
  · cases e
theorem op_powD : OpR X (binaryOp .Pow) (rD2 (gX X LO) (dInt iPow)) := op_intD op_pow fun i j n e => by
  unfold iPow at e
  split at e
  · rename_i c; exact ⟨c, (Option.some.inj e).symm⟩
  · cases e
/-! ### order -/
def dCmp (f : Int → Int → Bool) : Op2
  | .v (.int i), .v (.int j), _ => some (.v (.bl (f i j)))
  | _, _, _ => none
theorem op_cmpD {f : Value → Value → Sem Value} {h : Int → Int → Bool} (ho : OpR X f (rI0 fun i j => .bl (h i j))) : OpR X f (rD2 (gX X LO) (dCmp h)) := by
  intro pins s σ H x y v u Q I rx ry hh
  obtain ⟨θ, μ, d1, d2, d, h1, h2, rl, e, q⟩ := hh
  unfold dCmp at e
  split at e
  · rename_i i j
    cases e
    exact ho pins s σ H x y v u Q I rx ry ⟨i, j, rp_int h1, rp_int h2, q θ _ H (Ext.refl _ _) rl (rp_v trivial)⟩
  · cases e
/-- < of ints, of texts -/
def dLt : Op2
  | .v (.int i), .v (.int j), _ => some (.v (.bl (decide (i < j))))
  | .v (.str a), .v (.str b), _ => some (.v (.bl (decide (a.cps.toList < b.cps.toList))))
  | _, _, _ => none
theorem op_ltD : OpR X (compareOp .Lt) (rD2 (gX X LO) dLt) := by
  intro pins s σ H x y v u Q I rx ry hh
  obtain ⟨θ, μ, d1, d2, d, h1, h2, rl, e, q⟩ := hh
  unfold dLt at e
  split at e
  · cases e
    exact op_lt pins s σ H x y v u Q I rx ry ⟨_, _, rp_int h1, rp_int h2, q θ _ H (Ext.refl _ _) rl (rp_v trivial)⟩
  · cases e
    exact op_lt_str pins s σ H x y v u Q I rx ry ⟨_, _, (rp_str h1).1, (rp_str h2).1, q θ _ H (Ext.refl _ _) rl (rp_v trivial)⟩
  · cases e
abbrev dLe : Op2 := dCmp fun i j => decide (i ≤ j)
abbrev dGt : Op2 := dCmp fun i j => decide (j < i)
abbrev dGe : Op2 := dCmp fun i j => decide (j ≤ i)
theorem op_leD : OpR X (compareOp .LtE) (rD2 (gX X LO) dLe) := op_cmpD op_le
theorem op_gtD : OpR X (compareOp .Gt) (rD2 (gX X LO) dGt) := op_cmpD op_gt
theorem op_geD : OpR X (compareOp .GtE) (rD2 (gX X LO) dGe) := op_cmpD op_ge
/-! ### ==, is, in -/
mutual
/-- as data -/
def toP : D → Option PyData
  | .v .non => some .none
  | .v (.bl b) => some (.bool b)
  | .v (.int i) => some (.int i)
  | .v (.str x) => some (.str x)
  | .tup xs => (toPs xs).map .tuple
  | .lst xs => (toPs xs).map .list
  | _ => none
def toPs : List D → Option (List PyData)
  | [] => some []
  | x :: xs => (toP x).bind fun p => (toPs xs).map fun ps => p :: ps
end
mutual
theorem dp_of {g : G} {θ : Cs} {H : Hp} : ∀ {d : D} {u : V} {p : PyData}, Rp g θ H d u → toP d = some p → Dp g.K H u p
  | .v x, u, p, h, e => by
    cases x with
    | non => cases e; cases rp_non h; exact .non
    | bl b => cases e; cases rp_bl h; exact .bl b
    | int i => cases e; cases rp_int h; exact .int i
    | str z => cases e; cases (rp_str h).1; exact .str z
    | byt _ => cases e
    | flt _ => cases e
    | ref _ => cases e
    | ty _ => cases e
  | .tup xs, u, p, h, e => by
    unfold toP at e
    obtain ⟨q, vs, rfl, h2, h3⟩ := rp_tup h
    cases e2 : toPs xs with
    | none => rw [e2] at e; cases e
    | some ps =>
      rw [e2] at e
      cases e
      exact .tup h2 (dps_of h3 e2)
  | .lst xs, u, p, h, e => by
    unfold toP at e
    obtain ⟨q, vs, rfl, h2, h3⟩ := rp_lst h
    cases e2 : toPs xs with
    | none => rw [e2] at e; cases e
    | some ps =>
      rw [e2] at e
      cases e
      exact .lst h2.sq (dps_of h3 e2)
  | .r n, u, p, h, e => by unfold toP at e; cases e
  | .exn n, u, p, h, e => by unfold toP at e; cases e
  | .lam n, u, p, h, e => by unfold toP at e; cases e
theorem dps_of {g : G} {θ : Cs} {H : Hp} : ∀ {ds : List D} {us : List V} {ps : List PyData}, RpL g θ H ds us → toPs ds = some ps → DpAll g.K H us ps
  | [], us, ps, h, e => by
    unfold RpL at h
    subst h
    unfold toPs at e
    cases e
    exact .nil
  | d :: ds, us, ps, h, e => by
    unfold RpL at h
    obtain ⟨v, r, rfl, h2, h3⟩ := h
    unfold toPs at e
    cases e1 : toP d with
    | none => rw [e1] at e; cases e
    | some p =>
      rw [e1] at e
      cases e2 : toPs ds with
      | none => rw [e2] at e; cases e
      | some qs =>
        rw [e2] at e
        cases e
        exact .cons (dp_of h2 e1) (dps_of h3 e2)
end
def dEqB (d1 d2 : D) : Option Bool := (toP d1).bind fun p => (toP d2).bind fun q => if SeqAt.shaped p = true ∧ SeqAt.shaped q = true then some (PyData.eqv p q) else none
/-- ==: a cell is seen as it stands -/
def strP : D → D → Option (Str × Str)
  | .v (.str a), .v (.str b) => some (a, b)
  | _, _ => none
theorem strP_some {d1 d2 : D} {ab : Str × Str} (h : strP d1 d2 = some ab) : d1 = .v (.str ab.1) ∧ d2 = .v (.str ab.2) := by
  unfold strP at h
  split at h
  · cases h
    exact ⟨rfl, rfl⟩
  · cases h
def dEq : Op2 := fun d1 d2 μ => match strP d1 d2 with
  | some (a, b) => some (.v (.bl (a == b)))
  | none => (dEqB (view μ d1) (view μ d2)).map fun b => .v (.bl b)
def dNe : Op2 := fun d1 d2 μ => match strP d1 d2 with
  | some (a, b) => some (.v (.bl (!(a == b))))
  | none => (dEqB (view μ d1) (view μ d2)).map fun b => .v (.bl (!b))
theorem dp_view {g : G} {θ : Cs} {H : Hp} {μ : Mu} {d : D} {u : V} {p : PyData} (rl : Rel g θ μ H) (h : Rp g θ H d u) (e : toP (view μ d) = some p) : Dp g.K H u p := by
  cases hv : view μ d with
  | lst xs =>
    obtain ⟨q, vs, rfl, h2, h3⟩ := rp_view rl h hv
    rw [hv] at e
    unfold toP at e
    cases e2 : toPs xs with
    | none => rw [e2] at e; cases e
    | some ps =>
      rw [e2] at e
      cases e
      exact .lst h2 (dps_of h3 e2)
  | _ =>
    rcases view_or μ d with z | ⟨n, xs, rfl, z⟩
    · rw [z] at e
      exact dp_of h e
    · rw [z] at hv
      cases hv
theorem dEqB_some {d1 d2 : D} {b : Bool} (h : dEqB d1 d2 = some b) : ∃ p q, toP d1 = some p ∧ toP d2 = some q ∧ SeqAt.shaped p = true ∧ SeqAt.shaped q = true ∧ b = PyData.eqv p q := by
  unfold dEqB at h
  cases h1 : toP d1 with
  | none => rw [h1] at h; cases h
  | some p =>
    rw [h1] at h
    cases h2 : toP d2 with
    | none => rw [h2] at h; cases h
    | some q =>
      rw [h2] at h
      have h : (if SeqAt.shaped p = true ∧ SeqAt.shaped q = true then some (PyData.eqv p q) else none) = some b := h
      split at h
      · rename_i c
        exact ⟨p, q, rfl, rfl, c.1, c.2, (Option.some.inj h).symm⟩
      · cases h
theorem op_eqDD {k : Nat} (hr : Rm k X.A) : OpR X (compareOp .Eq) (rD2 (gX X LO) dEq) := by
  intro pins s σ H x y v u Q I rx ry hh
  obtain ⟨θ, μ, d1, d2, d, h1, h2, rl, e, q⟩ := hh
  unfold dEq at e
  cases hs : strP d1 d2 with
  | some ab =>
    rw [hs] at e
    obtain ⟨rfl, rfl⟩ := strP_some hs
    cases e
    obtain ⟨rfl, _⟩ := rp_str h1
    obtain ⟨rfl, _⟩ := rp_str h2
    obtain ⟨t1, rfl⟩ := rx
    obtain ⟨t2, rfl⟩ := ry
    exact PyProof.Rows.eq_str ⟨.bl _, H, I, rfl, q θ _ H (Ext.refl _ _) rl (rp_v trivial)⟩
  | none =>
  rw [hs] at e
  dsimp only at e
  cases hb : dEqB (view μ d1) (view μ d2) with
  | none => rw [hb] at e; cases e
  | some b =>
    rw [hb] at e
    cases e
    obtain ⟨p1, p2, e1, e2, s1, s2, rfl⟩ := dEqB_some hb
    exact op_eqD hr.room.units pins s σ H x y v u Q I rx ry ⟨p1, p2, dp_view rl h1 e1, dp_view rl h2 e2, s1, s2, q θ _ H (Ext.refl _ _) rl (rp_v trivial)⟩
theorem op_neDD {k : Nat} (hr : Rm k X.A) : OpR X (compareOp .NotEq) (rD2 (gX X LO) dNe) := by
  intro pins s σ H x y v u Q I rx ry hh
  obtain ⟨θ, μ, d1, d2, d, h1, h2, rl, e, q⟩ := hh
  unfold dNe at e
  cases hs : strP d1 d2 with
  | some ab =>
    rw [hs] at e
    obtain ⟨rfl, rfl⟩ := strP_some hs
    cases e
    obtain ⟨rfl, _⟩ := rp_str h1
    obtain ⟨rfl, _⟩ := rp_str h2
    obtain ⟨t1, rfl⟩ := rx
    obtain ⟨t2, rfl⟩ := ry
    exact PyProof.Rows.ne_str ⟨.bl _, H, I, rfl, q θ _ H (Ext.refl _ _) rl (rp_v trivial)⟩
  | none =>
  rw [hs] at e
  dsimp only at e
  cases hb : dEqB (view μ d1) (view μ d2) with
  | none => rw [hb] at e; cases e
  | some b =>
    rw [hb] at e
    cases e
    obtain ⟨p1, p2, e1, e2, s1, s2, rfl⟩ := dEqB_some hb
    exact op_neD hr.room.units pins s σ H x y v u Q I rx ry ⟨p1, p2, dp_view rl h1 e1, dp_view rl h2 e2, s1, s2, q θ _ H (Ext.refl _ _) rl (rp_v trivial)⟩
/-- is: of two bools; of anything and None -/
def dIs : Op2
  | .v (.bl a), .v (.bl b), _ => some (.v (.bl (decide (a = b))))
  | .v x, .v .non, _ => some (.v (.bl (decide (x = .non))))
  | .tup _, .v .non, _ => some (.v (.bl false))
  | .lst _, .v .non, _ => some (.v (.bl false))
  | .exn _, .v .non, _ => some (.v (.bl false))
  | _, _, _ => none
def dIsNot : Op2 := fun a b μ => match dIs a b μ with
  | some (.v (.bl k)) => some (.v (.bl (!k)))
  | _ => none
theorem op_isDD : OpR X (compareOp .Is) (rD2 (gX X LO) dIs) := by
  intro pins s σ H x y v u Q I rx ry hh
  obtain ⟨θ, μ, d1, d2, d, h1, h2, rl, e, q⟩ := hh
  unfold dIs at e
  split at e
  · cases e
    exact op_is_bl pins s σ H x y v u Q I rx ry ⟨_, _, rp_bl h1, rp_bl h2, q θ _ H (Ext.refl _ _) rl (rp_v trivial)⟩
  · cases e
    unfold Rp at h1
    rw [h1.1] at rx
    exact op_isN pins s σ H _ y v u Q I rx ry ⟨rp_non h2, q θ _ H (Ext.refl _ _) rl (rp_v trivial)⟩
  · cases e
    obtain ⟨p, vs, rfl, _⟩ := rp_tup h1
    exact op_isN pins s σ H _ y v u Q I rx ry ⟨rp_non h2, q θ _ H (Ext.refl _ _) rl (rp_v trivial)⟩
  · cases e
    obtain ⟨p, vs, rfl, _⟩ := rp_lst h1
    exact op_isN pins s σ H _ y v u Q I rx ry ⟨rp_non h2, q θ _ H (Ext.refl _ _) rl (rp_v trivial)⟩
  · cases e
    unfold Rp at h1
    obtain ⟨p, C, rfl, _⟩ := h1
    exact op_isN pins s σ H _ y v u Q I rx ry ⟨rp_non h2, q θ _ H (Ext.refl _ _) rl (rp_v trivial)⟩
  · cases e
theorem op_isNotDD : OpR X (compareOp .IsNot) (rD2 (gX X LO) dIsNot) := by
  intro pins s σ H x y v u Q I rx ry hh
  obtain ⟨θ, μ, d1, d2, d, h1, h2, rl, e, q⟩ := hh
  unfold dIsNot dIs at e
  split at e
  · rename_i kk hk
    cases e
    split at hk
    · cases hk
      exact op_isnot_bl pins s σ H x y v u Q I rx ry ⟨_, _, rp_bl h1, rp_bl h2, q θ _ H (Ext.refl _ _) rl (rp_v trivial)⟩
    · cases hk
      unfold Rp at h1
      rw [h1.1] at rx
      exact op_notN pins s σ H _ y v u Q I rx ry ⟨rp_non h2, q θ _ H (Ext.refl _ _) rl (rp_v trivial)⟩
    · cases hk
      obtain ⟨p, vs, rfl, _⟩ := rp_tup h1
      exact op_notN pins s σ H _ y v u Q I rx ry ⟨rp_non h2, q θ _ H (Ext.refl _ _) rl (rp_v trivial)⟩
    · cases hk
      obtain ⟨p, vs, rfl, _⟩ := rp_lst h1
      exact op_notN pins s σ H _ y v u Q I rx ry ⟨rp_non h2, q θ _ H (Ext.refl _ _) rl (rp_v trivial)⟩
    · cases hk
      unfold Rp at h1
      obtain ⟨p, C, rfl, _⟩ := h1
      exact op_notN pins s σ H _ y v u Q I rx ry ⟨rp_non h2, q θ _ H (Ext.refl _ _) rl (rp_v trivial)⟩
    · cases hk
  · cases e
/-- flat values, for in -/
def flatD : D → Option V
  | .v x => if flatV x = true then some x else none
  | _ => none
def flatDs : List D → Option (List V)
  | [] => some []
  | x :: xs => (flatD x).bind fun v => (flatDs xs).map fun vs => v :: vs
theorem flatD_of {g : G} {θ : Cs} {H : Hp} {d : D} {u x : V} (h : Rp g θ H d u) (e : flatD d = some x) : u = x ∧ flatV x = true := by
  cases d with
  | v y =>
    unfold flatD at e
    dsimp only at e
    split at e
    · cases e
      unfold Rp at h
      exact ⟨h.1, by assumption⟩
    · cases e
  | _ => cases e
theorem flatDs_of {g : G} {θ : Cs} {H : Hp} : ∀ {ds : List D} {us xs : List V}, RpL g θ H ds us → flatDs ds = some xs → us = xs ∧ xs.all flatV = true
  | [], us, xs, h, e => by
    unfold RpL at h
    subst h
    cases e
    exact ⟨rfl, rfl⟩
  | d :: ds, us, xs, h, e => by
    unfold RpL at h
    obtain ⟨v, r, rfl, h2, h3⟩ := h
    unfold flatDs at e
    cases e1 : flatD d with
    | none => rw [e1] at e; cases e
    | some y =>
      rw [e1] at e
      cases e2 : flatDs ds with
      | none => rw [e2] at e; cases e
      | some ys =>
        rw [e2] at e
        cases e
        obtain ⟨z1, z2⟩ := flatD_of h2 e1
        obtain ⟨z3, z4⟩ := flatDs_of h3 e2
        exact ⟨by rw [z1, z3], by rw [List.all_cons, z2, z4] <;> rfl⟩
/-- x in y: one sign in a text; a flat value in a list, a tuple, of such -/
def inB (d1 d2 : D) (μ : Mu) : Option Bool := match view μ d2 with
  | .lst xs => (flatD d1).bind fun x => (flatDs xs).map fun vs => inV x vs
  | .tup xs => (flatD d1).bind fun x => (flatDs xs).map fun vs => inV x vs
  | .v (.str z) => match d1 with
    | .v (.str a) => if a.cps.size = 1 then some (decide ((a.cps.getD 0 0) ∈ z.cps.toList)) else none
    | _ => none
  | _ => none
def dIn : Op2 := fun d1 d2 μ => (inB d1 d2 μ).map fun b => .v (.bl b)
def dNotIn : Op2 := fun d1 d2 μ => (inB d1 d2 μ).map fun b => .v (.bl (!b))
theorem one_sign {a : Str} (h : a.cps.size = 1) : a = ⟨#[a.cps.getD 0 0]⟩ := by
  obtain ⟨⟨l⟩⟩ := a
  have h : l.length = 1 := h
  match l, h with
  | [c], _ => rfl
theorem view_tup {μ : Mu} {d : D} {xs : List D} (h : view μ d = .tup xs) : d = .tup xs := by
  rcases view_or μ d with z | ⟨n, ys, rfl, z⟩
  · rw [z] at h; exact h
  · rw [z] at h; cases h
theorem view_v {μ : Mu} {d : D} {x : V} (h : view μ d = .v x) : d = .v x := by
  rcases view_or μ d with z | ⟨n, ys, rfl, z⟩
  · rw [z] at h; exact h
  · rw [z] at h; cases h
/-- what a membership stands on -/
theorem in_cases {g : G} {θ : Cs} {H : Hp} {μ : Mu} {d1 d2 : D} {x y : V} {b : Bool} (rl : Rel g θ μ H) (h1 : Rp g θ H d1 x) (h2 : Rp g θ H d2 y) (e : inB d1 d2 μ = some b) :
    (∃ c z, x = .str ⟨#[c]⟩ ∧ y = .str z ∧ b = decide (c ∈ z.cps.toList)) ∨ (∃ p xs, y = .ref p ∧ (SqL g.K H p xs ∨ SqT g.K H p xs) ∧ flatV x = true ∧ xs.all flatV = true ∧ b = inV x xs) := by
  unfold inB at e
  split at e
  · rename_i xs hz
    cases e1 : flatD d1 with
    | none => rw [e1] at e; cases e
    | some v =>
      rw [e1] at e
      cases e2 : flatDs xs with
      | none => rw [e2] at e; cases e
      | some vs =>
        rw [e2] at e
        cases e
        obtain ⟨f1, f2⟩ := flatD_of h1 e1
        obtain ⟨p, us, rfl, q1, q2⟩ := rp_view rl h2 hz
        obtain ⟨f3, f4⟩ := flatDs_of q2 e2
        subst f1 f3
        exact .inr ⟨p, _, rfl, .inl q1, f2, f4, rfl⟩
  · rename_i xs hz
    cases e1 : flatD d1 with
    | none => rw [e1] at e; cases e
    | some v =>
      rw [e1] at e
      cases e2 : flatDs xs with
      | none => rw [e2] at e; cases e
      | some vs =>
        rw [e2] at e
        cases e
        obtain ⟨f1, f2⟩ := flatD_of h1 e1
        have hv := view_tup hz
        subst hv
        obtain ⟨p, us, rfl, q1, q2⟩ := rp_tup h2
        obtain ⟨f3, f4⟩ := flatDs_of q2 e2
        subst f1 f3
        exact .inr ⟨p, _, rfl, .inr q1, f2, f4, rfl⟩
  · rename_i z hz
    split at e
    · rename_i a
      split at e
      · rename_i ha
        cases e
        have hv := view_v hz
        subst hv
        have z1 := (rp_str h1).1
        have z2 := (rp_str h2).1
        exact .inl ⟨_, z, by rw [z1]; exact congrArg V.str (one_sign ha), z2, rfl⟩
      · cases e
    · cases e
  · cases e
theorem op_inDD : OpR X (compareOp .In) (rD2 (gX X LO) dIn) := by
  intro pins s σ H x y v u Q I rx ry hh
  obtain ⟨θ, μ, d1, d2, d, h1, h2, rl, e, q⟩ := hh
  unfold dIn at e
  cases hb : inB d1 d2 μ with
  | none => rw [hb] at e; cases e
  | some b =>
    rw [hb] at e
    cases e
    have fin := q θ _ H (Ext.refl _ _) rl (rp_v (x := .bl b) trivial)
    rcases in_cases rl h1 h2 hb with ⟨c, z, z1, z2, rfl⟩ | ⟨p, xs, z1, z2, z3, z4, rfl⟩
    · exact op_inS pins s σ H x y v u Q I rx ry ⟨c, z, z1, z2, fin⟩
    · exact op_in_seq pins s σ H x y v u Q I rx ry ⟨p, xs, z1, z2, z3, z4, fin⟩
theorem op_notInDD : OpR X (compareOp .NotIn) (rD2 (gX X LO) dNotIn) := by
  intro pins s σ H x y v u Q I rx ry hh
  obtain ⟨θ, μ, d1, d2, d, h1, h2, rl, e, q⟩ := hh
  unfold dNotIn at e
  cases hb : inB d1 d2 μ with
  | none => rw [hb] at e; cases e
  | some b =>
    rw [hb] at e
    cases e
    have fin := q θ _ H (Ext.refl _ _) rl (rp_v (x := .bl (!b)) trivial)
    rcases in_cases rl h1 h2 hb with ⟨c, z, z1, z2, rfl⟩ | ⟨p, xs, z1, z2, z3, z4, rfl⟩
    · exact op_notInS pins s σ H x y v u Q I rx ry ⟨c, z, z1, z2, fin⟩
    · exact op_notIn_seq pins s σ H x y v u Q I rx ry ⟨p, xs, z1, z2, z3, z4, fin⟩
/-! ### o[i] -/
def dIx : Op2 := fun d1 d2 μ => match view μ d1, d2 with
  | .lst xs, .v (.int i) => atI xs i
  | .tup xs, .v (.int i) => atI xs i
  | .v (.str z), .v (.int i) => (atI z.cps.toList i).map fun c => .v (.str ⟨#[c]⟩)
  | _, _ => none
theorem RpL.atI {g : G} {θ : Cs} {H : Hp} {ds : List D} {us : List V} {i : Int} {d : D} (h : RpL g θ H ds us) (e : L2.atI ds i = some d) : ∃ u, L2.atI us i = some u ∧ Rp g θ H d u := by
  unfold L2.atI at e ⊢
  rw [← h.len]
  cases hk : L2.ixN ds.length i with
  | none => rw [hk] at e; cases e
  | some j =>
    rw [hk] at e
    exact h.get e
theorem ix_D : IxR X (rD2 (gX X LO) dIx) := by
  intro value slice pins s σ H x y v u Q I rx ry hh hs
  obtain ⟨θ, μ, d1, d2, d, h1, h2, rl, e, q⟩ := hh
  unfold dIx at e
  split at e
  · rename_i xs i hv
    obtain ⟨p, us, z1, q1, q2⟩ := rp_view rl h1 hv
    obtain ⟨w, e1, e2⟩ := q2.atI e
    exact ix_list value slice pins s σ H x y v u Q I rx ry ⟨p, us, i, w, z1, rp_int h2, q1, e1, q θ _ H (Ext.refl _ _) rl e2⟩ hs
  · rename_i xs i hv
    have hv := view_tup hv
    subst hv
    obtain ⟨p, us, z1, q1, q2⟩ := rp_tup h1
    obtain ⟨w, e1, e2⟩ := q2.atI e
    exact ix_tup value slice pins s σ H x y v u Q I rx ry ⟨p, us, i, w, z1, rp_int h2, q1, e1, q θ _ H (Ext.refl _ _) rl e2⟩ hs
  · rename_i z i hv
    have hv := view_v hv
    subst hv
    obtain ⟨z1, z2⟩ := rp_str h1
    cases hc : L2.atI z.cps.toList i with
    | none => rw [hc] at e; cases e
    | some c =>
      rw [hc] at e
      cases e
      exact ix_str value slice pins s σ H x y v u Q I rx ry ⟨z, i, c, z1, rp_int h2, z2, hc, q θ _ H (Ext.refl _ _) rl (rp_v okV_one)⟩ hs
  · cases e
/-! ### o[i:j] -/
def slB (d : D) (lo hi : Option Int) : Option D := match d with
  | .tup xs => if xs.length ≤ 16777216 then some (.tup ((xs.drop (HT.sIx xs.length 0 lo)).take (HT.sIx xs.length xs.length hi - HT.sIx xs.length 0 lo))) else none
  | .lst xs => some (.lst ((xs.drop (HT.sIx xs.length 0 lo)).take (HT.sIx xs.length xs.length hi - HT.sIx xs.length 0 lo)))
  | .v (.str z) => some (.v (.str (L2.cutS z lo hi)))
  | _ => none
/-- a part of a slice -/
def fNoP : En → M (Option Int) := fun _ => ret none
def fPart (fa : FE) : En → M (Option Int) := fun ρ => bnd (fa ρ) fun d => match d with
  | .v (.int i) => ret (some i)
  | _ => no
def rpO : Cs → Hp → Option Int → Option Int → Prop := fun _ _ a b => b = a
def lO (g : G) (W : WX) (f : En → M (Option Int)) : TO := fun σ H Q => ∃ θ ρ μ, REnv g θ H σ ρ ∧ Rel g θ μ H ∧ Post g W θ H σ rpO Q (f ρ μ)
def DO (X : Cx) (LO : LOs) (W : WX) (e : Option Expr) (f : En → M (Option Int)) : Prop := PO X e (lO (gX X LO) W f)
variable {W : WX} {e : Expr} {fa : FE}
theorem po_imp {e : Option Expr} {t t' : TO} (h : PO X e t) (i : ∀ σ H Q, t' σ H Q → t σ H Q) : PO X e t' := ⟨fun pins s σ H Q I q => h.run pins s σ H Q I (i σ H Q q)⟩
theorem do_none : DO X LO W none fNoP := po_imp po_none fun σ H Q ⟨θ, ρ, μ, re, rl, p⟩ => post_ret p rl rfl
theorem do_some (h : DE X LO W e fa) : DO X LO W (some e) (fPart fa) := po_imp (po_some h) fun σ H Q ⟨θ, ρ, μ, re, rl, p⟩ => ⟨θ, ρ, μ, re, rl, post_bnd p fun d μ1 θ1 u H1 e1 rl1 r1 p1 => by
  split at p1
  · exact ⟨_, rp_int r1, post_ret p1 rl1 rfl⟩
  · exact p1.elim⟩
def fSl (fa : FE) (fl fh : En → M (Option Int)) : FE := fun ρ => bnd (fa ρ) fun d => bnd (fl ρ) fun lo => bnd (fh ρ) fun hi => lif fun _ => slB d lo hi
theorem RpL.drop {g : G} {θ : Cs} {H : Hp} : ∀ {ds : List D} {us : List V} (n : Nat), RpL g θ H ds us → RpL g θ H (ds.drop n) (us.drop n)
  | _, _, 0, h => h
  | [], us, n + 1, h => by unfold RpL at h; subst h; show RpL g θ H [] []; unfold RpL; rfl
  | d :: ds, us, n + 1, h => by
    unfold RpL at h
    obtain ⟨v, r, rfl, h2, h3⟩ := h
    exact RpL.drop (ds := ds) (us := r) n h3
theorem RpL.take {g : G} {θ : Cs} {H : Hp} : ∀ {ds : List D} {us : List V} (n : Nat), RpL g θ H ds us → RpL g θ H (ds.take n) (us.take n)
  | ds, us, 0, h => by show RpL g θ H [] []; unfold RpL; rfl
  | [], us, n + 1, h => by unfold RpL at h; subst h; show RpL g θ H [] []; unfold RpL; rfl
  | d :: ds, us, n + 1, h => by
    unfold RpL at h
    obtain ⟨v, r, rfl, h2, h3⟩ := h
    show RpL g θ H (d :: ds.take n) (v :: r.take n)
    unfold RpL
    exact ⟨v, r.take n, rfl, h2, RpL.take (ds := ds) (us := r) n h3⟩
theorem cut_of {g : G} {θ : Cs} {H : Hp} {ds : List D} {us : List V} (lo hi : Option Int) (h : RpL g θ H ds us) : RpL g θ H ((ds.drop (HT.sIx ds.length 0 lo)).take (HT.sIx ds.length ds.length hi - HT.sIx ds.length 0 lo)) (cutV us lo hi) := by
  unfold cutV
  rw [h.len]
  exact (h.drop _).take _
theorem getItem_tuple_all {prog : Program} {w : World} {A : Around} {E : Value → Shared → Prop} {s : Shared} {t sl : Addr} {items : Array Value} {vl vu : Value} {lo hi : Option Int} {Q : Value → Shared → Prop} (ht : IsTup s.heap t items) (hs : s.heap.IsSliceOf sl vl vu .none) (pl : IsPart vl lo) (pu : IsPart vu hi)
    (hw : HT.sIx items.size 0 lo = 0 ∧ HT.sIx items.size items.size hi = items.size) (h : Q (.ref t) s) : wpAny (model prog w) A (getItem (.ref t) (.ref sl)) Q E s := by
  obtain ⟨os, hos, hcs, hds⟩ := id hs
  have hTs : s.TypeIs (.ref sl) "slice" := ⟨os, hos, hcs⟩
  unfold getItem
  try with_reducible refine wpAny_holding ?_
  first | refine wpAny_bind (wpAny_pure ?_) | skip
  refine wpAny_bind (wpAny_sequenceKey ht.typeIs (by decide) ?_)
  refine wpAny_bind (wpAny_callSpecial?_slot (name := Str.ofString "__getitem__") ht.typeIs PyProof.Rows.slot_tuple_getitem
    (wpAny_call_entry PyProof.Rows.slot_tuple_getitem ht.typeIs entry_tuple_getitem ?_ (args_tuple_getitem _ _)))
  show wpAny _ _ (Builtin.Tuple.tupleItemsOf (.ref t) >>= _) _ _ s
  refine wpAny_bind (tupleItemsOf_ ht ?_)
  refine wpAny_bind (wpAny_typeOf hTs ?_)
  rw [if_pos (by decide)]
  refine wpAny_bind (HT.sliceApplied_gen hs pl pu ?_)
  rw [hw.1, hw.2, Nat.sub_zero]
  show wpAny _ _ (if (((0 : Nat) : Int) == 0 && (1 : Int) == 1 && items.size == items.size) = true then _ else _) _ _ s
  rw [if_pos (by simp)]
  unfold Builtin.Tuple.tupleIsExact
  refine wpAny_bind (wpAny_bind (wpAny_typeOf ht.typeIs (wpAny_pure ?_)))
  rw [if_pos (by decide)]
  refine wpAny_bind (wpAny_rule ?_)
  exact wpAny_bind (wpAny_pure (wpAny_pure ⟨_, rfl, wpAny_pure h⟩))
theorem sl_tup0 : SlR X (fun x lo hi H Q => ∃ p us, x = .ref p ∧ SqT X.K H p us ∧ (HT.sIx us.length 0 lo = 0 ∧ HT.sIx us.length us.length hi = us.length) ∧ Q (.ref p) H) := by
  intro pins s σ H x v vl vu lo hi sl Q I rx hs pl pu hh
  obtain ⟨p, us, rfl, h1, hw, k⟩ := hh
  cases rx
  obtain ⟨its, r1, p1, _⟩ := I.tuple h1
  refine ⟨"tuple", "tuple.__getitem__", PyProof.Rows.slot_tuple_getitem.lookup, p1.typeIs, ?_⟩
  refine getItem_tuple_all p1 hs pl pu ?_ ⟨.ref p, H, I, rfl, k⟩
  rw [List.size_toArray, ← r1.length]
  exact hw
def rSlD (g : G) : V → Option Int → Option Int → Hp → VK → Prop := fun x lo hi H Q => ∃ θ μ d d', Rp g θ H d x ∧ Rel g θ μ H ∧ slB d lo hi = some d' ∧ ∀ θ' u H', Ext θ H θ' H' → Rel g θ' μ H' → Rp g θ' H' d' u → Q u H'
theorem sl_D : SlR X (rSlD (gX X LO)) := by
  intro pins s σ H x v vl vu lo hi sl Q I rx hs pl pu hh
  obtain ⟨θ, μ, d, d', h1, rl, e, k⟩ := hh
  unfold slB at e
  split at e
  · split at e
    · rename_i xs hsz
      cases e
      obtain ⟨p, us, z1, q1, q2⟩ := rp_tup h1
      by_cases hw : HT.sIx xs.length 0 lo = 0 ∧ HT.sIx xs.length xs.length hi = xs.length
      · refine sl_tup0 pins s σ H x v vl vu lo hi sl Q I rx hs pl pu ⟨p, us, z1, q1, by rw [← q2.len]; exact hw, k θ _ H (Ext.refl _ _) rl (rp_mktup q1 ?_)⟩
        rw [hw.1, hw.2, List.drop_zero, Nat.sub_zero, List.take_length]
        exact q2
      exact sl_tup pins s σ H x v vl vu lo hi sl Q I rx hs pl pu ⟨p, us, z1, q1, by rw [← q2.len]; exact hw, fun a ha => new_tup rl (cut_of lo hi q2) ha k⟩
    · cases e
  · cases e
    obtain ⟨p, us, z1, q1, q2⟩ := rp_lst h1
    exact sl_list pins s σ H x v vl vu lo hi sl Q I rx hs pl pu ⟨p, us, z1, q1.sq, fun a ha => new_lst rl (cut_of lo hi q2) ha k⟩
  · cases e
    obtain ⟨z1, z2⟩ := rp_str h1
    exact sl_str pins s σ H x v vl vu lo hi sl Q I rx hs pl pu ⟨_, z1, z2, k θ _ H (Ext.refl _ _) rl (rp_v (show _ ≤ sizeLine from Nat.le_trans (cutS_length _ _ _) z2))⟩
  · cases e
theorem de_slice {lo hi : Option Expr} {fl fh : En → M (Option Int)} {p2 pos : Pos} (he : DE X LO W e fa) (hl : DO X LO W lo fl) (hh : DO X LO W hi fh) : DE X LO W (.Subscript e (.Slice lo hi none p2) pos) (fSl fa fl fh) :=
  pe_imp (pe_slice (sl_D (LO := LO)) he hl hh) fun σ H Q ⟨θ, ρ, μ, re, rl, p⟩ =>
    ⟨θ, ρ, μ, re, rl, post_bnd p fun d μ1 θ1 u H1 e1 rl1 r1 p1 => ⟨θ1, ρ, μ1, re.ext e1, rl1, post_bnd p1 fun l μ2 θ2 l' H2 e2 rl2 r2 p2 => ⟨θ2, ρ, μ2, re.ext (e1.trans e2), rl2, post_bnd p2 fun h μ3 θ3 h' H3 e3 rl3 r3 p3 => by
      have r2 : l' = l := r2
      have r3 : h' = h := r3
      subst r2 r3
      obtain ⟨d', h1, h2⟩ := post_lif p3
      exact ⟨θ3, μ3, d, d', r1.ext (e2.trans e3), rl3, h1, h2⟩⟩⟩⟩
/-! ### built-ins -/
def lenB (d : D) (μ : Mu) : Option Nat := match view μ d with
  | .lst xs => some xs.length
  | .tup xs => some xs.length
  | .v (.str z) => some z.length
  | _ => none
def dLen : OpN
  | [d], μ => (lenB d μ).map fun n => .v (.int (n : Nat))
  | _, _ => none
theorem call_lenD : CallR X (.builtin "len") (rDn (gX X LO) dLen) := by
  intro pins s σ H xs us Q I r hh
  obtain ⟨θ, μ, ds, d, h1, rl, e, k⟩ := hh
  unfold dLen at e
  split at e
  · rename_i d0
    obtain ⟨x, rfl, h2⟩ := rpL_1 h1
    cases hl : lenB d0 μ with
    | none => rw [hl] at e; cases e
    | some n =>
      rw [hl] at e
      cases e
      have fin := k θ _ H (Ext.refl _ _) rl (rp_v (x := .int (n : Nat)) trivial)
      unfold lenB at hl
      split at hl
      · rename_i ys hv
        cases hl
        obtain ⟨p, vs, z1, q1, q2⟩ := rp_view rl h2 hv
        exact call_len_seq pins s σ H _ us Q I r ⟨p, vs, by rw [z1], .inl q1, by rw [← q2.len]; exact fin⟩
      · rename_i ys hv
        cases hl
        have hv := view_tup hv
        subst hv
        obtain ⟨p, vs, z1, q1, q2⟩ := rp_tup h2
        exact call_len_seq pins s σ H _ us Q I r ⟨p, vs, by rw [z1], .inr q1, by rw [← q2.len]; exact fin⟩
      · rename_i z hv
        cases hl
        have hv := view_v hv
        subst hv
        obtain ⟨z1, z2⟩ := rp_str h2
        exact call_len_str pins s σ H _ us Q I r ⟨z, by rw [z1], z2, fin⟩
      · cases hl
  · cases e
/-- a list of bools -/
def bls1 : D → Option Bool
  | .v (.bl b) => some b
  | _ => none
theorem bls1_is {d : D} {b : Bool} (h : bls1 d = some b) : d = .v (.bl b) := by
  cases d with
  | v x =>
    cases x with
    | bl k => cases h; rfl
    | _ => cases h
  | _ => cases h
def bls : List D → Option (List Bool)
  | [] => some []
  | x :: xs => (bls1 x).bind fun b => (bls xs).map fun bs => b :: bs
theorem bls_of {g : G} {θ : Cs} {H : Hp} : ∀ {ds : List D} {us : List V} {bs : List Bool}, RpL g θ H ds us → bls ds = some bs → us = bs.map V.bl
  | [], us, bs, h, e => by
    cases rpL_nil h
    cases e
    rfl
  | d :: ds, us, bs, h, e => by
    obtain ⟨u, r, rfl, h1, h2⟩ := rpL_cons h
    unfold bls at e
    cases e1 : bls1 d with
    | none => rw [e1] at e; cases e
    | some b =>
      rw [e1] at e
      cases e2 : bls ds with
      | none => rw [e2] at e; cases e
      | some qs =>
        rw [e2] at e
        cases e
        have hd := bls1_is e1
        subst hd
        rw [rp_bl h1, bls_of h2 e2]
        rfl
def dAll : OpN
  | [d], μ => match view μ d with
    | .lst xs => (bls xs).map fun bs => .v (.bl (bs.all id))
    | _ => none
  | _, _ => none
def dAny : OpN
  | [d], μ => match view μ d with
    | .lst xs => (bls xs).map fun bs => .v (.bl (bs.any id))
    | _ => none
  | _, _ => none
theorem call_allD (hc : X.calm = true) : CallR X (.builtin "all") (rDn (gX X LO) dAll) := by
  intro pins s σ H xs us Q I r hh
  obtain ⟨θ, μ, ds, d, h1, rl, e, k⟩ := hh
  unfold dAll at e
  split at e
  · rename_i d0
    obtain ⟨x, rfl, h2⟩ := rpL_1 h1
    split at e
    · rename_i ys hv
      obtain ⟨p, vs, z1, q1, q2⟩ := rp_view rl h2 hv
      cases hb : bls ys with
      | none => rw [hb] at e; cases e
      | some bs =>
        rw [hb] at e
        cases e
        have hvs := bls_of q2 hb
        rw [hvs] at q1
        exact cr_all hc pins s σ H _ us Q I r ⟨p, bs, by rw [z1], q1, k θ _ H (Ext.refl _ _) rl (rp_v trivial)⟩
    · cases e
  · cases e
theorem call_anyD (hc : X.calm = true) : CallR X (.builtin "any") (rDn (gX X LO) dAny) := by
  intro pins s σ H xs us Q I r hh
  obtain ⟨θ, μ, ds, d, h1, rl, e, k⟩ := hh
  unfold dAny at e
  split at e
  · rename_i d0
    obtain ⟨x, rfl, h2⟩ := rpL_1 h1
    split at e
    · rename_i ys hv
      obtain ⟨p, vs, z1, q1, q2⟩ := rp_view rl h2 hv
      cases hb : bls ys with
      | none => rw [hb] at e; cases e
      | some bs =>
        rw [hb] at e
        cases e
        have hvs := bls_of q2 hb
        rw [hvs] at q1
        exact cr_any hc pins s σ H _ us Q I r ⟨p, bs, by rw [z1], q1, k θ _ H (Ext.refl _ _) rl (rp_v trivial)⟩
    · cases e
  · cases e
def intsB1 : D → Option Int
  | .v (.int b) => some b
  | _ => none
theorem intsB1_is {d : D} {b : Int} (h : intsB1 d = some b) : d = .v (.int b) := by
  cases d with
  | v x =>
    cases x with
    | int k => cases h; rfl
    | _ => cases h
  | _ => cases h
def intsB : List D → Option (List Int)
  | [] => some []
  | x :: xs => (intsB1 x).bind fun b => (intsB xs).map fun bs => b :: bs
theorem intsB_of {g : G} {θ : Cs} {H : Hp} : ∀ {ds : List D} {us : List V} {bs : List Int}, RpL g θ H ds us → intsB ds = some bs → us = bs.map V.int
  | [], us, bs, h, e => by
    cases rpL_nil h
    cases e
    rfl
  | d :: ds, us, bs, h, e => by
    obtain ⟨u, r, rfl, h1, h2⟩ := rpL_cons h
    unfold intsB at e
    cases e1 : intsB1 d with
    | none => rw [e1] at e; cases e
    | some b =>
      rw [e1] at e
      cases e2 : intsB ds with
      | none => rw [e2] at e; cases e
      | some qs =>
        rw [e2] at e
        cases e
        have hd := intsB1_is e1
        subst hd
        rw [rp_int h1, intsB_of h2 e2]
        rfl
def dSum : OpN
  | [d], μ => match view μ d with
    | .lst xs => (intsB xs).map fun bs => .v (.int bs.sum)
    | _ => none
  | _, _ => none
theorem call_sumD (hc : X.calm = true) : CallR X (.builtin "sum") (rDn (gX X LO) dSum) := by
  intro pins s σ H xs us Q I r hh
  obtain ⟨θ, μ, ds, d, h1, rl, e, k⟩ := hh
  unfold dSum at e
  split at e
  · rename_i d0
    obtain ⟨x, rfl, h2⟩ := rpL_1 h1
    split at e
    · rename_i ys hv
      obtain ⟨p, vs, z1, q1, q2⟩ := rp_view rl h2 hv
      cases hb : intsB ys with
      | none => rw [hb] at e; cases e
      | some bs =>
        rw [hb] at e
        cases e
        have hvs := intsB_of q2 hb
        rw [hvs] at q1
        exact cr_sum hc pins s σ H _ us Q I r ⟨p, bs, by rw [z1], q1, k θ _ H (Ext.refl _ _) rl (rp_v trivial)⟩
    · cases e
  · cases e
/-! ### isinstance of built-in classes -/
def tyD (d : D) (μ : Mu) : Option String := match d with
  | .v .non => some "NoneType"
  | .v (.bl _) => some "bool"
  | .v (.int _) => some "int"
  | .v (.str _) => some "str"
  | .tup _ => some "tuple"
  | .lst _ => some "list"
  | .r n => match μ[n]? with
    | some (.lst _) => some "list"
    | some (.dic _) => some "dict"
    | _ => none
  | _ => none
def isTys : List String := ["int", "bool", "str", "tuple", "list", "dict"]
def isB (a b : String) : Option Bool := if b ∈ isTys then some (a == b || (a == "bool" && b == "int")) else none
theorem isB_ok {a b : String} {k : Bool} (ha : a ∈ ["NoneType", "bool", "int", "str", "tuple", "list", "dict"]) (h : isB a b = some k) : kitB a b = some k := by
  unfold isB at h
  split at h
  · rename_i hb
    cases h
    have all : ∀ a ∈ ["NoneType", "bool", "int", "str", "tuple", "list", "dict"], ∀ b ∈ isTys, kitB a b = some (a == b || (a == "bool" && b == "int")) := by decide +kernel
    exact all a ha b hb
  · cases h
def dIsI : OpN
  | [d, .v (.ty b)], μ => (tyD d μ).bind fun a => (isB a b).map fun k => .v (.bl k)
  | _, _ => none
theorem tyD_ok {g : G} {θ : Cs} {H : Hp} {μ : Mu} {d : D} {u : V} {a : String} (rl : Rel g θ μ H) (h : Rp g θ H d u) (e : tyD d μ = some a) : TyX g.K H u (.type a) ∧ a ∈ ["NoneType", "bool", "int", "str", "tuple", "list", "dict"] := by
  unfold tyD at e
  split at e
  · cases e; rw [rp_non h]; exact ⟨.base .non, by decide⟩
  · cases e; rw [rp_bl h]; exact ⟨.base (.bl _), by decide⟩
  · cases e; rw [rp_int h]; exact ⟨.base (.int _), by decide⟩
  · cases e; rw [(rp_str h).1]; exact ⟨.base (.str _), by decide⟩
  · cases e
    obtain ⟨p, vs, rfl, h2, _⟩ := rp_tup h
    refine ⟨?_, by decide⟩
    rcases h2 with (h2 | ⟨o, h2⟩) | ⟨o, its, n, hk, hc, _⟩
    · exact .base (.tup h2)
    · exact .fTuple h2
    · exact .kTuple hk hc
  · cases e
    obtain ⟨p, vs, rfl, h2, _⟩ := rp_lst h
    refine ⟨?_, by decide⟩
    rcases h2.sq with (h2 | ⟨o, h2⟩) | ⟨o, its, n, hk, hc, _⟩
    · exact .base (.lst h2)
    · exact .base (.frz h2)
    · exact .kList hk hc
  · unfold Rp at h
    obtain ⟨p, hp, rfl⟩ := h
    split at e
    · rename_i ys hy
      cases e
      obtain ⟨q, h1, vs, h2, _⟩ := rl.ok _ _ hy
      rw [hp] at h1
      cases h1
      exact ⟨.base (.lst h2), by decide⟩
    · rename_i ys hy
      cases e
      obtain ⟨q, h1, vs, h2, _⟩ := rl.ok _ _ hy
      rw [hp] at h1
      cases h1
      exact ⟨.base (.dK h2), by decide⟩
    · cases e
  · cases e
theorem call_isID : CallR X (.builtin "isinstance") (rDn (gX X LO) dIsI) := by
  intro pins s σ H xs us Q I r hh
  obtain ⟨θ, μ, ds, d, h1, rl, e, k⟩ := hh
  unfold dIsI at e
  split at e
  · rename_i d0 b
    obtain ⟨x, y, rfl, h2, h3⟩ := rpL_2 h1
    cases ht : tyD d0 μ with
    | none => rw [ht] at e; cases e
    | some a =>
      rw [ht] at e
      cases hb : isB a b with
      | none =>
        have e : (isB a b).map (fun k => D.v (.bl k)) = some d := e
        rw [hb] at e; cases e
      | some kk =>
        have e : (isB a b).map (fun k => D.v (.bl k)) = some d := e
        rw [hb] at e
        cases e
        obtain ⟨t1, t2⟩ := tyD_ok rl h2 ht
        exact call_isi pins s σ H _ us Q I r ⟨x, y, _, .type b, kk, rfl, by rw [rp_ty h3]; exact .ty b, t1, kit_ty (isB_ok t2 hb), k θ _ H (Ext.refl _ _) rl (rp_v trivial)⟩
  · cases e
theorem de_bty {x : Str} {n : String} {pos : Pos} (hm : X.mg x = none) (hg : Gl X x := by rfl) (hv : bootBuiltins x = some (.type n) := by decide +kernel) (hn : x ≠ "__name__" := by decide) (hd : (x == ("__debug__" : Str)) = false := by decide) : DE X LO W (.Name x pos) (fC (.v (.ty n))) :=
  pe_imp (pe_bltn (v := .ty n) hg hm hv (show L2.RelV (.ty n) (Value.type n) from rfl) hn hd) fun _ _ _ ⟨_, _, _, _, rl, p⟩ => post_ret p rl (rp_v trivial)
/-- a module's constant -/
def GC (mg : Str → Option Value) (x : Str) (v : V) : Prop := ∃ u, mg x = some u ∧ RelV v u
theorem de_gc {x : Str} {v : V} {pos : Pos} (h : GC X.mg x v) (ho : okV v) (hg : Gl X x := by rfl) (hd : (x == ("__debug__" : Str)) = false := by decide) : DE X LO W (.Name x pos) (fC (.v v)) := by
  obtain ⟨u, h1, h2⟩ := h
  exact de_glob h1 h2 ho hg hd
/-! ### list(x), tuple(x) -/
theorem vals_by : ∀ {xs : List V} {us : List Value}, xs.length = us.length → (∀ (j : Nat) (x : V) (u : Value), xs[j]? = some x → us[j]? = some u → RelV x u) → Vals xs us
  | [], [], _, _ => .nil
  | [], _ :: _, h, _ => by simp at h
  | _ :: _, [], h, _ => by simp at h
  | x :: xs, u :: us, h, f => .cons (f 0 x u rfl rfl) (vals_by (by simpa using h) fun j y w h1 h2 => f (j + 1) y w (by simpa using h1) (by simpa using h2))
/-- list(text) -/
theorem call_listS (hc : X.calm = true) : CallR X (.type "list") (fun xs H Q => ∃ z, xs = [V.str z] ∧ z.length ≤ sizeLine ∧ ∀ l, H l = none → Q (.ref l) (upd H l (.lst (z.cps.toList.map fun c => V.str ⟨#[c]⟩)))) := by
  intro pins s σ H xs us Q I r h
  obtain ⟨z, rfl, hz, q⟩ := h
  obtain ⟨u, rfl, t, rfl⟩ := vals1 r
  refine PySem.call_list_str (I.ok.hd hc) z t (fun h' tk acc' c' hk hS hacc => ?_) (hn := hz)
  have hl : acc'.toList.length = z.cps.size := by rw [Array.length_toList]; exact hacc.1
  refine ⟨.ref s.heap.objs.size, upd H s.heap.objs.size (.lst (z.cps.toList.map fun c => V.str ⟨#[c]⟩)), I.laid hk (Nat.le_refl _) (show ObjOk X.prog X.w _ _ _ (.lst (z.cps.toList.map fun c => V.str ⟨#[c]⟩)) from ⟨?_, acc'.toList, c', ?_, ?_⟩), rfl, q _ (I.hok.fresh (Nat.le_refl _))⟩
  · rw [List.length_map, Array.length_toList]; exact hz
  · refine vals_by (by rw [List.length_map, Array.length_toList, hl]) fun j x w h1 h2 => ?_
    obtain ⟨c, v, e1, e2⟩ := hacc.2 j w (by rw [← Array.getElem?_toList]; exact h2)
    rw [List.getElem?_map, Array.getElem?_toList, e1] at h1
    cases h1
    exact ⟨v, e2⟩
  · rw [Array.toArray_toList]; exact hS
theorem chars_rel {g : G} {θ : Cs} {H : Hp} : ∀ l : List Nat, RpL g θ H (l.map fun c => D.v (.str ⟨#[c]⟩)) (l.map fun c => V.str ⟨#[c]⟩)
  | [] => by
    show RpL g θ H [] []
    unfold RpL
    rfl
  | c :: l => by
    show RpL g θ H (D.v (.str ⟨#[c]⟩) :: _) (V.str ⟨#[c]⟩ :: _)
    unfold RpL
    exact ⟨_, _, rfl, rp_v okV_one, chars_rel l⟩
def dList : OpN
  | [d], μ => match view μ d with
    | .lst xs => some (.lst xs)
    | .tup xs => some (.lst xs)
    | .v (.str z) => some (.lst (chars z))
    | _ => none
  | _, _ => none
theorem call_listD (hc : X.calm = true) : CallR X (.type "list") (rDn (gX X LO) dList) := by
  intro pins s σ H xs us Q I r hh
  obtain ⟨θ, μ, ds, d, h1, rl, e, k⟩ := hh
  unfold dList at e
  split at e
  · rename_i d0
    obtain ⟨x, rfl, h2⟩ := rpL_1 h1
    split at e
    · rename_i ys hv
      cases e
      obtain ⟨p, vs, z1, q1, q2⟩ := rp_view rl h2 hv
      exact call_list_of pins s σ H _ us Q I r ⟨p, vs, by rw [z1], .inl q1, fun a ha => new_lst rl q2 ha k⟩
    · rename_i ys hv
      cases e
      have hv := view_tup hv
      subst hv
      obtain ⟨p, vs, z1, q1, q2⟩ := rp_tup h2
      exact call_list_of pins s σ H _ us Q I r ⟨p, vs, by rw [z1], .inr q1, fun a ha => new_lst rl q2 ha k⟩
    · rename_i z hv
      cases e
      have hv := view_v hv
      subst hv
      obtain ⟨e1, hz⟩ := rp_str h2
      exact call_listS hc pins s σ H _ us Q I r ⟨z, by rw [e1], hz, fun a ha => new_lst rl (chars_rel _) ha k⟩
    · cases e
  · cases e
def dTuple : OpN
  | [d], μ => match view μ d with
    | .lst xs => some (.tup xs)
    | .tup xs => some (.tup xs)
    | _ => none
  | _, _ => none
theorem call_tupleD : CallR X (.type "tuple") (rDn (gX X LO) dTuple) := by
  intro pins s σ H xs us Q I r hh
  obtain ⟨θ, μ, ds, d, h1, rl, e, k⟩ := hh
  unfold dTuple at e
  split at e
  · rename_i d0
    obtain ⟨x, rfl, h2⟩ := rpL_1 h1
    split at e
    · rename_i ys hv
      cases e
      obtain ⟨p, vs, z1, q1, q2⟩ := rp_view rl h2 hv
      exact call_tuple_of pins s σ H _ us Q I r ⟨p, vs, by rw [z1], .inl ⟨q1, fun a ha => new_tup rl q2 ha k⟩⟩
    · rename_i ys hv
      cases e
      have hv := view_tup hv
      subst hv
      obtain ⟨p, vs, z1, q1, q2⟩ := rp_tup h2
      exact call_tuple_of pins s σ H _ us Q I r ⟨p, vs, by rw [z1], .inr ⟨q1, k θ _ H (Ext.refl _ _) rl (rp_mktup q1 q2)⟩⟩
    · cases e
  · cases e
end
end Tr
/-! ## TrG -/
set_option Elab.async false
set_option linter.all false
set_option maxRecDepth 100000
set_option maxHeartbeats 2000000
namespace Tr
open PySem PySem.Spec PyProof.Rows L2
/-! ### own errors -/
/-- the class of that name is an own error over ValueError -/
def ExK (K : PySem.W.Frag) (mg : Str → Option Value) (c : Str) : Prop := ∃ C bmB, mg c = some (.ref C) ∧ ExcBaseFacts "ValueError" "ValueError.__new__" "ValueError.__init__" bmB ∧ PySem.W.excIn K C bmB "ValueError.__new__" = true ∧ PySem.W.keepIn K (.ref C) = true ∧
  PySem.W.subIn K (.ref C) (.type "BaseException") = some true ∧ PySem.W.typeIn K (.ref C) = some (.type "type")
def fRaise (c : Str) : FS := fun _ μ => some (.ex c μ)
section
variable {X : Cx} {LO : LOs} {W : WX}
theorem ds_raise {x m : Str} {j : Nat} {p p2 pos pos2 : Pos} (h : ExK X.K X.mg x) (hc : X.calm = true) (tk : Takes X W) (hg : Gl X x := by rfl) (hdb : (x == ("__debug__" : Str)) = false := by decide) : DS X LO W (.Raise (some (.Call (.Name x p) [.Constant (.str m) j p2] [] pos)) none pos2) (fRaise x) := by
  obtain ⟨C, bmB, h1, h2, h3, h4, h5, h6⟩ := h
  exact ps_imp (ps_raise hc tk (pmk_own h2 h3 h1 h4 (raises_own h5 h6) hg hdb)) fun d σ H ⟨θ, ρ, μ, re, rl, q⟩ => q θ σ H C (Ext.refl _ _) rl h1
/-! ### -x -/
def fNeg (fa : FE) : FE := fun ρ => bnd (fa ρ) fun d => match d with
  | .v (.int i) => ret (.v (.int (-i)))
  | _ => no
theorem de_neg {a : Expr} {fa : FE} {pos : Pos} (h : DE X LO W a fa) : DE X LO W (.UnaryOp .USub a pos) (fNeg fa) := pe_imp (pe_un un_neg h) fun σ H Q ⟨θ, ρ, μ, re, rl, p⟩ => ⟨θ, ρ, μ, re, rl, post_bnd p fun d μ1 θ1 u H1 e1 rl1 r1 p1 => by
  split at p1
  · exact ⟨_, rp_int r1, post_ret p1 rl1 (rp_v trivial)⟩
  · exact p1.elim⟩
/-! ### methods of texts -/
abbrev OpS := Str → OpN
def fMs (f : OpS) (fo : FE) (fs : List FE) : FE := fun ρ => bnd (fo ρ) fun d => match d with
  | .v (.str z) => bnd (fAll fs ρ) fun ds => lif (f z ds)
  | _ => no
def rDM (g : G) (f : OpS) : V → List V → Hp → VK → Prop := fun x xs H Q => ∃ θ μ z ds d, x = .str z ∧ z.length ≤ sizeLine ∧ RpL g θ H ds xs ∧ Rel g θ μ H ∧ f z ds μ = some d ∧ ∀ θ' u H', Ext θ H θ' H' → Rel g θ' μ H' → Rp g θ' H' d u → Q u H'
variable {o e : Expr} {fo fa : FE} {fs : List FE}
theorem de_ms1 {f : OpS} {id : String} {name : Str} {apos pos : Pos} (slot : Slot "str" name id) (ty : typeOf (.builtin id) = pure (.type "method_descriptor")) (rule : MtR X id (rDM (gX X LO) f)) (ho : DE X LO W o fo) (he : DE X LO W e fa)
    (hs : starEach [e] X.env = [(false, eval e X.env)] := by rfl) (hbase : attributeBase o name X.env (eval o X.env) = eval o X.env := by rfl) (hline : (apos.endLine == pos.line) = true := by rfl) : DE X LO W (.Call (.Attribute o name apos) [e] [] pos) (fMs f fo [fa]) :=
  pe_imp (pe_m1 slot ty rule ho he hs hbase hline) fun σ H Q ⟨θ, ρ, μ, re, rl, p⟩ => by
    refine ⟨θ, ρ, μ, re, rl, post_bnd p fun d μ1 θ1 u H1 e1 rl1 r1 p1 => ?_⟩
    split at p1
    · rename_i z
      obtain ⟨z1, z2⟩ := rp_str r1
      refine ⟨⟨z, z1⟩, θ1, ρ, μ1, re.ext e1, rl1, ?_⟩
      have p2 : Post (gX X LO) W θ1 H1 σ (Rp (gX X LO)) Q (bnd (fa ρ) (fun y => lif (f z [y])) μ1) := by
        unfold bnd fAll at p1
        unfold bnd ret at p1
        unfold bnd
        cases h : fa ρ μ1 with
        | none => rw [h] at p1; exact p1
        | some r =>
          rw [h] at p1
          cases r with
          | ex c m => exact p1
          | ok a m => exact p1
      exact post_bnd p2 fun y μ2 θ2 w H2 e2 rl2 r2 p3 => by
        obtain ⟨d', h1, h2⟩ := post_lif p3
        exact ⟨θ2, μ2, z, [y], d', z1, z2, rpL_one r2, rl2, h1, h2⟩
    · exact p1.elim
theorem de_ms0 {f : OpS} {id : String} {name : Str} {apos pos : Pos} (slot : Slot "str" name id) (ty : typeOf (.builtin id) = pure (.type "method_descriptor")) (rule : MtR X id (rDM (gX X LO) f)) (ho : DE X LO W o fo)
    (hbase : attributeBase o name X.env (eval o X.env) = eval o X.env := by rfl) (hline : (apos.endLine == pos.line) = true := by rfl) : DE X LO W (.Call (.Attribute o name apos) [] [] pos) (fMs f fo []) :=
  pe_imp (pe_m0 slot ty rule ho hbase hline) fun σ H Q ⟨θ, ρ, μ, re, rl, p⟩ => by
    refine ⟨θ, ρ, μ, re, rl, post_bnd p fun d μ1 θ1 u H1 e1 rl1 r1 p1 => ?_⟩
    split at p1
    · rename_i z
      obtain ⟨z1, z2⟩ := rp_str r1
      have p2 : Post (gX X LO) W θ1 H1 σ (Rp (gX X LO)) Q (lif (f z []) μ1) := p1
      obtain ⟨d', h1, h2⟩ := post_lif p2
      exact ⟨⟨z, z1⟩, θ1, μ1, z, [], d', z1, z2, by unfold RpL; rfl, rl1, h1, h2⟩
    · exact p1.elim
def strsB1 : D → Option Str
  | .v (.str b) => some b
  | _ => none
theorem strsB1_is {d : D} {b : Str} (h : strsB1 d = some b) : d = .v (.str b) := by
  cases d with
  | v x =>
    cases x with
    | str k => cases h; rfl
    | _ => cases h
  | _ => cases h
def strsB : List D → Option (List Str)
  | [] => some []
  | x :: xs => (strsB1 x).bind fun b => (strsB xs).map fun bs => b :: bs
theorem strsB_of {g : G} {θ : Cs} {H : Hp} : ∀ {ds : List D} {us : List V} {bs : List Str}, RpL g θ H ds us → strsB ds = some bs → us = bs.map V.str
  | [], us, bs, h, e => by
    cases rpL_nil h
    cases e
    rfl
  | d :: ds, us, bs, h, e => by
    obtain ⟨u, r, rfl, h1, h2⟩ := rpL_cons h
    unfold strsB at e
    cases e1 : strsB1 d with
    | none => rw [e1] at e; cases e
    | some b =>
      rw [e1] at e
      cases e2 : strsB ds with
      | none => rw [e2] at e; cases e
      | some qs =>
        rw [e2] at e
        cases e
        have hd := strsB1_is e1
        subst hd
        rw [(rp_str h1).1, strsB_of h2 e2]
        rfl
def sJoin : OpS := fun z ds μ => match ds with
  | [d] => match view μ d with
    | .lst xs => (strsB xs).bind fun ys => if (ys.map (·.length)).sum + ys.length * z.length ≤ 16777216 ∧ (Txt.join z ys).length ≤ 16777216 then some (.v (.str (Txt.join z ys))) else none
    | _ => none
  | _ => none
theorem mt_joinD : MtR X "str.join" (rDM (gX X LO) sJoin) := by
  intro pins s σ H x xs v us Q I rx rs hh
  obtain ⟨θ, μ, z, ds, d, h0, hz, h1, rl, e, k⟩ := hh
  unfold sJoin at e
  split at e
  · rename_i d0
    obtain ⟨y, rfl, h2⟩ := rpL_1 h1
    split at e
    · rename_i ws hv
      obtain ⟨p, vs, z1, q1, q2⟩ := rp_view rl h2 hv
      cases hb : strsB ws with
      | none => rw [hb] at e; cases e
      | some ys =>
        rw [hb] at e
        have e : (if (ys.map (·.length)).sum + ys.length * z.length ≤ 16777216 ∧ (Txt.join z ys).length ≤ 16777216 then some (D.v (.str (Txt.join z ys))) else none) = some d := e
        split at e
        · rename_i hc
          cases e
          have hvs := strsB_of q2 hb
          rw [hvs] at q1
          exact mt_join pins s σ H x _ v us Q I rx rs ⟨z, p, ys, h0, by rw [z1], .inl q1, hc.1, k θ _ H (Ext.refl _ _) rl (rp_v (okV_of hc.2))⟩
        · cases e
    · cases e
  · cases e
def sIndex : OpS := fun z ds μ => match ds with
  | [.v (.str b)] => match Builtin.Str.occurrences z b 0 z.length 1 with
    | i :: _ => some (.v (.int (i : Nat)))
    | [] => none
  | _ => none
theorem mt_indexD : MtR X "str.index" (rDM (gX X LO) sIndex) := by
  intro pins s σ H x xs v us Q I rx rs hh
  obtain ⟨θ, μ, z, ds, d, h0, hz, h1, rl, e, k⟩ := hh
  unfold sIndex at e
  split at e
  · rename_i b
    obtain ⟨y, rfl, h2⟩ := rpL_1 h1
    split at e
    · rename_i i rest ho
      cases e
      exact mt_sindex pins s σ H x _ v us Q I rx rs ⟨z, b, i, rest, h0, by rw [(rp_str h2).1], ho, k θ _ H (Ext.refl _ _) rl (rp_v trivial)⟩
    · cases e
  · cases e
def sUpper : OpS := fun z ds μ => match ds with
  | [] => if z.length ≤ 5592405 ∧ (Txt.upper z).length ≤ 16777216 then some (.v (.str (Txt.upper z))) else none
  | _ => none
theorem mt_upperD : MtR X "str.upper" (rDM (gX X LO) sUpper) := by
  intro pins s σ H x xs v us Q I rx rs hh
  obtain ⟨θ, μ, z, ds, d, h0, hz, h1, rl, e, k⟩ := hh
  unfold sUpper at e
  split at e
  · cases rpL_nil h1
    split at e
    · rename_i hc
      cases e
      exact mt_upper pins s σ H x _ v us Q I rx rs ⟨z, h0, rfl, hc.1, k θ _ H (Ext.refl _ _) rl (rp_v (okV_of hc.2))⟩
    · cases e
  · cases e
end
end Tr
/-! ## TrH -/
set_option Elab.async false
set_option linter.all false
set_option maxRecDepth 100000
set_option maxHeartbeats 2000000
namespace Tr
open PySem PySem.Spec PyProof.Rows L2
/-! ### one more cell -/
abbrev Cs.more (θ : Cs) (p : Addr) : Cs := ⟨θ.at_ ++ [p], θ.no⟩
abbrev Cs.push (θ : Cs) (p : Addr) : Cs := (θ.hide p).more p
section
variable {g : G} {θ θ' : Cs} {H H' : Hp} {μ : Mu} {σ : L2.St} {ρ : En}
theorem more_get {p q : Addr} {n : Nat} (h : θ.at_[n]? = some q) : (θ.at_ ++ [p])[n]? = some q := by
  rw [List.getElem?_append_left (List.getElem?_eq_some_iff.mp h).1]
  exact h
mutual
theorem Rp.more {p : Addr} : ∀ {d : D} {u : V}, Rp g θ H d u → Rp g (θ.more p) H d u
  | .v _, _, h => by
    unfold Rp at h ⊢
    exact h
  | .tup xs, u, h => by
    unfold Rp at h ⊢
    obtain ⟨q, vs, h1, h2, h3⟩ := h
    exact ⟨q, vs, h1, h2, RpL.more h3⟩
  | .lst xs, u, h => by
    unfold Rp at h ⊢
    obtain ⟨q, vs, h1, h2, h3⟩ := h
    exact ⟨q, vs, h1, h2.less fun a z => z, RpL.more h3⟩
  | .r n, u, h => by
    unfold Rp at h ⊢
    obtain ⟨q, h1, h2⟩ := h
    exact ⟨q, more_get h1, h2⟩
  | .exn c, u, h => by
    unfold Rp at h ⊢
    exact h
  | .lam k, u, h => by
    unfold Rp at h ⊢
    exact h
theorem RpL.more {p : Addr} : ∀ {ds : List D} {us : List V}, RpL g θ H ds us → RpL g (θ.more p) H ds us
  | [], _, h => by
    unfold RpL at h ⊢
    exact h
  | d :: ds, _, h => by
    unfold RpL at h ⊢
    obtain ⟨v, r, h1, h2, h3⟩ := h
    exact ⟨v, r, h1, Rp.more h2, RpL.more h3⟩
end
theorem RpK.more {p : Addr} : ∀ {ds : List (Key × D)} {us : List (Key × V)}, RpK g θ H ds us → RpK g (θ.more p) H ds us
  | [], _, h => h
  | d :: ds, _, ⟨v, r, h1, h2, h3⟩ => ⟨v, r, h1, h2.more, RpK.more h3⟩
theorem CellOk.more {c : Cell} {p q : Addr} (h : CellOk g θ H c p) : CellOk g (θ.more q) H c p := h.to rfl (fun _ _ h => h.more) (fun _ _ h => h.more) fun a q n h => ⟨n, h⟩
theorem Rel.more (R : Rel g θ μ H) {p : Addr} {c : Cell} (hp : θ.no p) (hn : p ∉ θ.at_) (ok : CellOk g θ H c p) : Rel g (θ.more p) (μ ++ [c]) H := by
  refine ⟨by simp [R.len], ?_, fun a h => ?_, R.so, fun n c' q => ?_⟩
  · exact List.nodup_append.mpr ⟨R.nd, by simp, fun a ha b hb e => by
      rw [List.mem_singleton] at hb
      subst hb
      subst e
      exact hn ha⟩
  · rcases List.mem_append.mp h with h | h
    · exact R.sub a h
    · rw [List.mem_singleton] at h
      rw [h]
      exact hp
  · by_cases hl : n < μ.length
    · rw [List.getElem?_append_left hl] at q
      obtain ⟨b, h1, h2⟩ := R.ok n c' q
      exact ⟨b, more_get h1, h2.more⟩
    · rw [List.getElem?_append_right (by omega)] at q
      have e : n - μ.length = 0 := by
        have z := (List.getElem?_eq_some_iff.mp q).1
        simp at z
        omega
      rw [e] at q
      have q : c = c' := by simpa using q
      subst q
      refine ⟨p, ?_, ok.more⟩
      show (θ.at_ ++ [p])[n]? = some p
      rw [List.getElem?_append_right (by rw [R.len]; omega), R.len, e]
      rfl
theorem Ext.more (e : Ext θ H θ' H') {p : Addr} (hp : H p = none) : Ext θ H (θ'.more p) H' := by
  obtain ⟨m, hm⟩ := e.pre
  refine ⟨⟨m ++ [p], by simp [hm]⟩, e.keep, fun a o n h => ⟨(e.hid a o n h).1, fun z => ?_⟩, e.tups, e.frzs, e.free, e.mono⟩
  rcases List.mem_append.mp z with z | z
  · exact (e.hid a o n h).2 z
  · rw [List.mem_singleton] at z
    rw [z, hp] at h
    cases h
/-- the last cell is as told -/
theorem Rel.last (R : Rel g θ μ H) {p : Addr} : Rp g (θ.more p) H (.r μ.length) (.ref p) := by
  unfold Rp
  exact ⟨p, by show (θ.at_ ++ [p])[μ.length]? = some p; rw [← R.len]; simp, rfl⟩
theorem finM_ok : FinOk g finM := fun {W θ1 θ' H1 H' σ Q L μ' acc vs'} hL nL e2 hn ha hv ra rl2 p3 =>
  p3 (θ'.more L) (.ref L) H' (e2.more hL) (rl2.more hn ha ⟨vs', hv, ra⟩) rl2.last
/-- a new cell, made at once -/
theorem new_cell {W : WX} {Q : VK} {c : Cell} {p : Addr} {o : HO} (R : Rel g θ μ H) (hp : H p = none) (ok : CellOk g (θ.hide p) (upd H p o) c p) (h : Post g W θ H σ (Rp g) Q (newc c μ)) : Q (.ref p) (upd H p o) := by
  have n1 : ¬ θ.no p := fun z => R.so p z hp
  have n2 : p ∉ θ.at_ := fun z => n1 (R.sub p z)
  exact h ((θ.hide p).more p) (.ref p) _ ((Ext.hide hp).more hp) ((R.hide hp).more (.inr rfl) n2 ok) (R.hide hp).last
theorem RpL.laid {p : Addr} {o : HO} {ds : List D} {us : List V} (hp : H p = none) (h : RpL g θ H ds us) : RpL g (θ.hide p) (upd H p o) ds us :=
  (h.hide hp).at_hidden (show (θ.hide p).no p from Or.inr rfl) (fun xs z => by rw [hp] at z; cases z) (fun o u z => by rw [hp] at z; cases z)
/-- a cell's content is put anew -/
theorem Rel.cell (R : Rel g θ μ H) {n : Nat} {p : Addr} {o o' : HO} (hp : θ.at_[n]? = some p) (ho : H p = some o') (nt : ∀ xs, o' ≠ .tup xs := by exact fun _ z => by cases z) (nf : ∀ a b, o' ≠ .frz a b := by exact fun _ _ z => by cases z) : Ext θ H θ (upd H p o) := by
  have hm : p ∈ θ.at_ := List.mem_of_getElem? hp
  have hno := R.sub p hm
  refine ⟨⟨[], by simp⟩, fun a o2 n h => ⟨?_, n⟩, fun a o2 n h => ⟨?_, n⟩, fun a xs h => ?_, fun a b u h => ?_, fun a h => ?_, fun _ h => h⟩
  · rw [upd_ne fun z => n (by rw [z]; exact hno)]; exact h
  · rw [upd_ne fun z => n (by rw [z]; exact hm)]; exact h
  · rw [upd_ne fun z => ?_]
    · exact h
    · rw [z, ho] at h; exact nt xs (Option.some.inj h)
  · rw [upd_ne fun z => ?_]
    · exact h
    · rw [z, ho] at h; exact nf b u (Option.some.inj h)
  · by_cases z : a = p
    · rw [z, upd_same] at h; cases h
    · rw [upd_ne z] at h; exact h
theorem Rel.put (R : Rel g θ μ H) {n : Nat} {p : Addr} {o : HO} {c : Cell} (hp : θ.at_[n]? = some p) (e : Ext θ H θ (upd H p o)) (ok : CellOk g θ (upd H p o) c p) : Rel g θ (μ.set n c) (upd H p o) := by
  refine ⟨by simpa using R.len, R.nd, R.sub, fun a h => ?_, fun m c' q => ?_⟩
  · by_cases z : a = p
    · rw [z, upd_same]; exact fun z => by cases z
    · rw [upd_ne z]; exact R.so a h
  · by_cases hmn : n = m
    · subst hmn
      rw [List.getElem?_set_self (by have z := (List.getElem?_eq_some_iff.mp q).1; simpa using z)] at q
      cases q
      exact ⟨p, hp, ok⟩
    · rw [List.getElem?_set_ne hmn] at q
      obtain ⟨b, h1, h2⟩ := R.ok m c' q
      refine ⟨b, h1, h2.ext e (upd_ne fun z => hmn ?_)⟩
      rw [z] at h1
      obtain ⟨l1, e1⟩ := List.getElem?_eq_some_iff.mp hp
      obtain ⟨l2, e2⟩ := List.getElem?_eq_some_iff.mp h1
      exact (List.getElem_inj R.nd (h₀ := l1) (h₁ := l2)).mp (by rw [e1, e2])
end
section
variable {X : Cx} {LO : LOs} {W : WX} {e o : Expr} {es : List Expr} {fa fo : FE} {fs : List FE} {pos : Pos} {g : G}
/-- [x, ..], a cell -/
def fLstM (fs : List FE) : FE := fun ρ => bnd (fAll fs ρ) fun ds => newc (.lst ds)
theorem de_lstM (h : DA X LO W es (fAll fs)) (hl : fs.length ≤ 1000 := by first | decide | exact Nat.le_of_ble_eq_true rfl) : DE X LO W (.List es pos) (fLstM fs) := pe_imp (pe_lst h) fun σ H Q ⟨θ, ρ, μ, re, rl, p⟩ =>
  ⟨θ, ρ, μ, re, rl, post_all p fun ds μ1 θ1 us H1 hd e1 rl1 r1 p1 => ⟨by rw [← r1.len, hd]; exact Nat.le_trans hl (by decide), fun a ha => new_cell (c := .lst ds) rl1 ha ⟨us, upd_same, r1.laid ha⟩ p1⟩⟩
/-! ### methods of list cells -/
abbrev OpL := List D → List D → Option (D × List D)
def opL (f : OpL) (n : Nat) (ds : List D) : M D := fun μ => match μ[n]? with
  | some (.lst xs) => match f xs ds with
    | some (d, xs') => some (.ok d (μ.set n (.lst xs')))
    | none => none
  | _ => none
def isLst (μ : Mu) (n : Nat) : Bool := match μ[n]? with
  | some (.lst _) => true
  | _ => false
def fMl (f : OpL) (fo : FE) (fs : List FE) : FE := fun ρ => bnd (fo ρ) fun d => match d with
  | .r n => fun μ => if isLst μ n = true then bnd (fAll fs ρ) (opL f n) μ else none
  | _ => no
def rML (g : G) (f : OpL) : V → List V → Hp → VK → Prop := fun x xs H Q => ∃ θ μ n p ds xs0 d xs', x = .ref p ∧ θ.at_[n]? = some p ∧ RpL g θ H ds xs ∧ Rel g θ μ H ∧ μ[n]? = some (.lst xs0) ∧ f xs0 ds = some (d, xs') ∧
  ∀ θ' u H', Ext θ H θ' H' → Rel g θ' (μ.set n (.lst xs')) H' → Rp g θ' H' d u → Q u H'
theorem isLst_some {μ : Mu} {n : Nat} (h : isLst μ n = true) : ∃ xs, μ[n]? = some (.lst xs) := by
  unfold isLst at h
  split at h
  · rename_i xs h'; exact ⟨xs, h'⟩
  · cases h
theorem ml_imp {f : OpL} {σ : L2.St} {H : Hp} {Q : VK} {g : G} (h : lE g W (fMl f fo fs) σ H Q) : tBM g.K "list" (rML g f) (lE g W fo) (lA g W (fAll fs)) σ H Q := by
  obtain ⟨θ, ρ, μ, re, rl, p⟩ := h
  refine ⟨θ, ρ, μ, re, rl, post_bnd p fun d μ1 θ1 u H1 e1 rl1 r1 p1 => ?_⟩
  split at p1
  · rename_i n
    split at p1
    · rename_i hl
      obtain ⟨xs, hx⟩ := isLst_some hl
      unfold Rp at r1
      obtain ⟨q, h1, rfl⟩ := r1
      obtain ⟨q', h2, vs, h3, h4⟩ := rl1.ok n _ hx
      rw [h1] at h2
      cases h2
      refine ⟨.inl ⟨rfl, vs, .inl (.inl h3)⟩, θ1, ρ, μ1, re.ext e1, rl1, post_bnd p1 fun ds μ2 θ2 us H2 e2 rl2 r2 p2 => ?_⟩
      unfold opL at p2
      split at p2
      · rename_i xs2 hx2
        split at p2
        · rename_i d xs' hf
          exact ⟨θ2, μ2, n, q, ds, xs2, d, xs', rfl, e2.get h1, r2, rl2, hx2, hf, p2⟩
        · exact p2.elim
      · exact p2.elim
    · exact p1.elim
  · exact p1.elim
theorem de_ml {f : OpL} {id : String} {name : Str} {apos pos : Pos} (slot : Slot "list" name id) (ty : typeOf (.builtin id) = pure (.type "method_descriptor")) (rule : MtR X id (rML (gX X LO) f)) (ho : DE X LO W o fo) (he : DA X LO W (e :: es) (fAll fs))
    (hbase : attributeBase o name X.env (eval o X.env) = eval o X.env := by rfl)
    (hfew : ((backTo pos (starEach (e :: es) X.env)).all (fun x => !x.1) && (backToKw pos (keywordEach [] X.env)).all (fun x => x.1.isSome)
      && decide ((e :: es).length + ([] : List Keyword).length + (if ([] : List Keyword).isEmpty then 0 else 1) < 30)) = true := by rfl)
    (hline : (apos.endLine == pos.line) = true := by rfl) (hs : starEach (e :: es) X.env = (false, eval e X.env) :: starEach es X.env := by rfl) (hplain : (backTo pos (starEach es X.env)).any (·.1) = false := by rfl) :
    DE X LO W (.Call (.Attribute o name apos) (e :: es) [] pos) (fMl f fo fs) :=
  pe_imp (pe_bm PySem.F.plainAttrs_list slot ty rule ho he hbase hfew hline hs hplain) fun σ H Q h => ml_imp h
def lApp : OpL := fun xs ds => match ds with
  | [y] => if xs.length < 16777216 then some (.v .non, xs ++ [y]) else none
  | _ => none
theorem mt_appD : MtR X "list.append" (rML (gX X LO) lApp) := by
  intro pins s σ H x xs v us Q I rx rs hh
  obtain ⟨θ, μ, n, p, ds, xs0, d, xs', rfl, hp, r, rl, hx, hf, k⟩ := hh
  unfold lApp at hf
  split at hf
  · rename_i y
    split at hf
    · rename_i hlt
      cases hf
      obtain ⟨w, rfl, rw'⟩ := rpL_1 r
      obtain ⟨p', hp', vs, h3, h4⟩ := rl.ok n _ hx
      rw [hp] at hp'
      cases hp'
      have e2 := rl.cell (o := .lst (vs ++ [w])) hp h3
      have rl2 := rl.put (c := .lst (xs0 ++ [y])) hp e2 ⟨vs ++ [w], upd_same, (h4.append (rpL_one rw')).ext e2⟩
      exact mt_append pins s σ H _ [w] v us Q I rx rs ⟨p, vs, w, rfl, rfl, h3, by rw [← h4.len, sizeLine_eq]; exact hlt, k θ _ _ e2 rl2 (rp_v trivial)⟩
    · cases hf
  · cases hf
theorem RpL.eraseIdx {θ : Cs} {H : Hp} : ∀ {ds : List D} {us : List V} (n : Nat), RpL g θ H ds us → RpL g θ H (ds.eraseIdx n) (us.eraseIdx n)
  | [], us, n, h => by
    rw [rpL_nil h]
    simpa using (show RpL g θ H [] [] from by unfold RpL; rfl)
  | d :: ds, us, 0, h => by
    obtain ⟨u, r, rfl, h1, h2⟩ := rpL_cons h
    exact h2
  | d :: ds, us, n + 1, h => by
    obtain ⟨u, r, rfl, h1, h2⟩ := rpL_cons h
    show RpL g θ H (d :: ds.eraseIdx n) (u :: r.eraseIdx n)
    unfold RpL
    exact ⟨u, _, rfl, h1, h2.eraseIdx n⟩
def lPop : OpL := fun xs ds => match ds with
  | [.v (.int i)] => if small62 i = true then match seqIndex? i xs.length with
    | some k => match xs[k]? with
      | some y => some (y, xs.eraseIdx k)
      | none => none
    | none => none
    else none
  | _ => none
theorem mt_popD : MtR X "list.pop" (rML (gX X LO) lPop) := by
  intro pins s σ H x xs v us Q I rx rs hh
  obtain ⟨θ, μ, n, p, ds, xs0, d, xs', rfl, hp, r, rl, hx, hf, k⟩ := hh
  unfold lPop at hf
  split at hf
  · rename_i i
    split at hf
    · rename_i hs
      split at hf
      · rename_i j hj
        split at hf
        · rename_i y hy
          cases hf
          obtain ⟨w, rfl, rw'⟩ := rpL_1 r
          obtain ⟨p', hp', vs, h3, h4⟩ := rl.ok n _ hx
          rw [hp] at hp'
          cases hp'
          have e2 := rl.cell (o := .lst (vs.eraseIdx j)) hp h3
          have rl2 := rl.put (c := .lst (xs0.eraseIdx j)) hp e2 ⟨vs.eraseIdx j, upd_same, (h4.eraseIdx j).ext e2⟩
          obtain ⟨u, hu, ru⟩ := h4.get hy
          obtain ⟨i1, i2⟩ := small62_iff hs
          have hw := rp_int rw'
          subst hw
          exact mt_popAt pins s σ H _ [.int i] v us Q I rx rs ⟨p, vs, i, j, u, rfl, rfl, h3, by omega, by omega, by rw [← h4.len]; exact hj, hu, k θ _ _ e2 rl2 (ru.ext e2)⟩
        · cases hf
      · cases hf
    · cases hf
  · cases hf
/-! ### dicts with texts for keys -/
def valD (kvs : List (Key × D)) (k : Key) : Option D := (kvs.find? fun kv => decide (kv.1 = k)).map (·.2)
def putD (kvs : List (Key × D)) (k : Key) (v : D) : List (Key × D) := if (kvs.any fun kv => decide (kv.1 = k)) = true then kvs.map (fun kv => if kv.1 = k then (kv.1, v) else kv) else kvs ++ [(k, v)]
theorem RpK.val {θ : Cs} {H : Hp} {k : Key} {d : D} : ∀ {ds : List (Key × D)} {us : List (Key × V)}, RpK g θ H ds us → valD ds k = some d → ∃ u, valV us k = some u ∧ Rp g θ H d u
  | [], _, _, e => by cases e
  | x :: ds, _, ⟨v, r, rfl, h2, h3⟩, e => by
    by_cases z : x.1 = k
    · unfold valD at e
      rw [List.find?_cons, decide_eq_true z] at e
      cases e
      exact ⟨v, by simp [valV, List.find?_cons, z], h2⟩
    · unfold valD at e
      rw [List.find?_cons, decide_eq_false z] at e
      obtain ⟨u, h4, h5⟩ := RpK.val h3 e
      exact ⟨u, by simpa [valV, List.find?_cons, z] using h4, h5⟩
theorem RpK.keys {θ : Cs} {H : Hp} : ∀ {ds : List (Key × D)} {us : List (Key × V)}, RpK g θ H ds us → us.map (·.1) = ds.map (·.1)
  | [], _, h => by cases h; rfl
  | x :: ds, _, ⟨v, r, rfl, h2, h3⟩ => by
    show x.1 :: r.map (·.1) = x.1 :: ds.map (·.1)
    rw [RpK.keys h3]
theorem any_keys {α β : Type} {k : Key} : ∀ {as : List (Key × α)} {bs : List (Key × β)}, as.map (·.1) = bs.map (·.1) → (as.any fun kv => decide (kv.1 = k)) = (bs.any fun kv => decide (kv.1 = k))
  | [], [], _ => rfl
  | a :: as, b :: bs, h => by
    simp only [List.map_cons, List.cons.injEq] at h
    simp only [List.any_cons, h.1, any_keys h.2]
theorem RpK.app {θ : Cs} {H : Hp} {d : D} {u : V} {k : Key} (r : Rp g θ H d u) : ∀ {ds : List (Key × D)} {us : List (Key × V)}, RpK g θ H ds us → RpK g θ H (ds ++ [(k, d)]) (us ++ [(k, u)])
  | [], _, h => by
    cases h
    exact ⟨u, [], rfl, r, rfl⟩
  | x :: ds, _, ⟨v, r', rfl, h2, h3⟩ => ⟨v, _, rfl, h2, h3.app r⟩
theorem RpK.sub {θ : Cs} {H : Hp} {d : D} {u : V} {k : Key} (r : Rp g θ H d u) : ∀ {ds : List (Key × D)} {us : List (Key × V)}, RpK g θ H ds us → RpK g θ H (ds.map fun kv => if kv.1 = k then (kv.1, d) else kv) (us.map fun kv => if kv.1 = k then (kv.1, u) else kv)
  | [], _, h => by
    cases h
    exact rfl
  | x :: ds, _, ⟨v, r', rfl, h2, h3⟩ => by
    by_cases z : x.1 = k
    · simp only [List.map_cons, z, if_true]
      exact ⟨u, _, by simp, r, h3.sub r⟩
    · simp only [List.map_cons, z, if_false]
      exact ⟨v, _, rfl, h2, h3.sub r⟩
theorem RpK.put {θ : Cs} {H : Hp} {d : D} {u : V} {k : Key} {ds : List (Key × D)} {us : List (Key × V)} (h : RpK g θ H ds us) (r : Rp g θ H d u) : RpK g θ H (putD ds k d) (putK us k u) := by
  unfold putD putK
  rw [any_keys h.keys]
  split
  · exact h.sub r
  · exact h.app r
theorem RpK.len {θ : Cs} {H : Hp} : ∀ {ds : List (Key × D)} {us : List (Key × V)}, RpK g θ H ds us → ds.length = us.length
  | [], _, h => by cases h; rfl
  | x :: ds, _, ⟨v, r, rfl, h2, h3⟩ => by
    show ds.length + 1 = r.length + 1
    rw [RpK.len h3]
/-- o["key"] -/
def fGet (k : Str) (fo : FE) : FE := fun ρ => bnd (fo ρ) fun d => lif fun μ => match d with
  | .r n => match μ[n]? with
    | some (.dic kvs) => valD kvs (.inr k)
    | _ => none
  | _ => none
theorem noSl_str {k : Str} {j} {p : Pos} : NoSl (.Constant (.str k) j p) := fun _ _ => rfl
theorem de_get {k : Str} {j} {p2 : Pos} {kk : Nat} (hr : Rm kk X.A) (ho : DE X LO W o fo) : DE X LO W (.Subscript o (.Constant (.str k) j p2) pos) (fGet k fo) :=
  pe_imp (pe_dget (hu_of hr.room) ho pe_str noSl_str) fun σ H Q ⟨θ, ρ, μ, re, rl, p⟩ => ⟨θ, ρ, μ, re, rl, post_bnd p fun d μ1 θ1 u H1 e1 rl1 r1 p1 => by
    obtain ⟨d', h1, h2⟩ := post_lif p1
    split at h1
    · rename_i n
      split at h1
      · rename_i kvs hk
        unfold Rp at r1
        obtain ⟨q, h3, rfl⟩ := r1
        obtain ⟨q', h4, vs, h5, h6⟩ := rl1.ok n _ hk
        rw [h3] at h4
        cases h4
        obtain ⟨u, h7, h8⟩ := h6.val h1
        exact ⟨q, u, rfl, .inl ⟨vs, .inr k, .inl h5, rfl, h7.symm⟩, h2 θ1 u H1 (Ext.refl _ _) rl1 h8⟩
      · cases h1
    · cases h1⟩
/-- o["key"] = v -/
def fPut (k : Str) (fo fa : FE) : FS := fun ρ => bnd (fa ρ) fun d => bnd (fo ρ) fun o => fun μ => match o with
  | .r n => match μ[n]? with
    | some (.dic kvs) => if kvs.length ≤ 1000 then some (.ok (.nx ρ) (μ.set n (.dic (putD kvs (.inr k) d)))) else none
    | _ => none
  | _ => none
theorem ds_put {k : Str} {j} {p2 pos' : Pos} {kk : Nat} (hW : Flat W) (hr : Rm kk X.A) (ho : DE X LO W o fo) (ha : DE X LO W e fa) (hs : swapsWith e (some (.Subscript o (.Constant (.str k) j p2) pos')) pos.line X.env = pure false := by rfl) :
    DS X LO W (.Assign [.Subscript o (.Constant (.str k) j p2) pos'] e pos) (fPut k fo fa) :=
  ps_imp (ps_dput (hu_of hr.room) ho pe_str ha hs) fun d σ H ⟨θ, ρ, μ, re, rl, p⟩ => ⟨θ, ρ, μ, re, rl, post_bndS p hW fun x μ1 θ1 u H1 e1 rl1 r1 p1 => ⟨θ1, ρ, μ1, re.ext e1, rl1, post_bndS p1 hW fun y μ2 θ2 w H2 e2 rl2 r2 p2 => by
    split at p2
    · rename_i n
      split at p2
      · rename_i kvs hk
        split at p2
        · rename_i hz
          unfold Rp at r2
          obtain ⟨q, h3, rfl⟩ := r2
          obtain ⟨q', h4, vs, h5, h6⟩ := rl2.ok n _ hk
          rw [h3] at h4
          cases h4
          have e3 := rl2.cell (o := .dK (putK vs (.inr k) u)) h3 h5
          have rl3 := rl2.put (c := .dic (putD kvs (.inr k) x)) h3 e3 ⟨_, upd_same, (h6.put (r1.ext e2)).ext e3⟩
          exact ⟨q, _, rfl, .inl ⟨vs, .inr k, h5, rfl, by rw [← h6.len, sizeLine_eq]; omega, rfl⟩, p2 θ2 σ _ e3 rl3 (re.ext ((e1.trans e2).trans e3))⟩
        · exact p2.elim
      · exact p2.elim
    · exact p2.elim⟩⟩
end
end Tr
/-! ## TrI -/
set_option Elab.async false
set_option linter.all false
set_option maxRecDepth 100000
set_option maxHeartbeats 2000000
namespace Tr
open PySem PySem.Spec PyProof.Rows L2
/-! ### a dict display, texts for keys: a cell -/
def zipK : List Str → List D → List (Key × D)
  | k :: ks, d :: ds => (.inr k, d) :: zipK ks ds
  | _, _ => []
def fDic (ks : List Str) (fs : List FE) : FE := fun ρ => bnd (fAll fs ρ) fun ds => newc (.dic (zipK ks ds))
section
variable {X : Cx} {LO : LOs} {W : WX} {e o : Expr} {es : List Expr} {fa fo : FE} {fs : List FE} {pos : Pos} {g : G}
/-- pairs: the keys are written texts -/
def lP (g : G) (W : WX) (ks : List Str) (fs : List FE) : L2.St → Hp → (List (V × V) → Hp → Prop) → Prop := fun σ H Q => ∃ θ ρ μ, REnv g θ H σ ρ ∧ Rel g θ μ H ∧ Post g W θ H σ (RpL g) (fun us H' => Q ((ks.map V.str).zip us) H') (fAll fs ρ μ)
structure DP (X : Cx) (LO : LOs) (W : WX) (pos : Pos) (keys : List (Option Expr)) (es : List Expr) (ks : List Str) (fs : List FE) : Prop where
  ex : ∃ trs, PPs X pos keys es trs ∧ ∀ σ H Q, lP (gX X LO) W ks fs σ H Q → tPairs trs σ H Q
theorem dp_nil : DP X LO W pos [] [] [] [] := ⟨[], pps_nil, fun σ H Q ⟨θ, ρ, μ, re, rl, p⟩ => by
  have z : (fun us H' => Q ((([] : List Str).map V.str).zip us) H') [] H := post_ret (rp := RpL (gX X LO)) p rl (show RpL (gX X LO) θ H [] [] from by unfold RpL; rfl)
  exact z⟩
theorem dp_cons {k : Str} {j} {p2 : Pos} {keys : List (Option Expr)} {ks : List Str} (h1 : DE X LO W e fa) (h2 : DP X LO W pos keys es ks fs) : DP X LO W pos (some (.Constant (.str k) j p2) :: keys) (e :: es) (k :: ks) (fa :: fs) := by
  obtain ⟨trs, h3, h4⟩ := h2.ex
  refine ⟨_, pps_cons pe_str h1 h3, fun σ H Q ⟨θ, ρ, μ, re, rl, p⟩ => ?_⟩
  show lE (gX X LO) W fa σ H _
  refine ⟨θ, ρ, μ, re, rl, post_bnd p fun x μ1 θ1 u H1 e1 rl1 r1 p1 => h4 _ _ _ ⟨θ1, ρ, μ1, re.ext e1, rl1, post_bnd p1 fun xs μ2 θ2 us H2 e2 rl2 r2 p2 => ?_⟩⟩
  exact post_ret (rp := RpL (gX X LO)) p2 rl2 (show RpL (gX X LO) θ2 H2 (x :: xs) (u :: us) from by unfold RpL; exact ⟨u, us, rfl, r1.ext e2, r2⟩)
theorem zipK_rel {θ : Cs} {H : Hp} : ∀ {ks : List Str} {ds : List D} {us : List V}, RpL g θ H ds us → ds.length = ks.length → ∃ kvs : List (Key × V), (ks.map V.str).zip us = kvs.map (fun kv => (kV kv.1, kv.2)) ∧ kvs.map (·.1) = ks.map (fun k => (.inr k : Key)) ∧ RpK g θ H (zipK ks ds) kvs
  | [], [], us, h, _ => by
    rw [rpL_nil h]
    exact ⟨[], rfl, rfl, rfl⟩
  | k :: ks, d :: ds, us, h, e => by
    obtain ⟨u, r, rfl, h1, h2⟩ := rpL_cons h
    obtain ⟨kvs, h3, h4, h5⟩ := zipK_rel (ks := ks) h2 (by simpa using e)
    exact ⟨(.inr k, u) :: kvs, by simp [h3, kV], by simp [h4], u, kvs, rfl, h1, h5⟩
  | [], d :: ds, us, _, e => by simp at e
  | k :: ks, [], us, _, e => by simp at e
theorem mergeK_app : ∀ (kvs acc : List (Key × V)), ((acc ++ kvs).map (·.1)).Nodup → mergeK acc kvs = acc ++ kvs
  | [], acc, _ => by simp [mergeK]
  | kv :: kvs, acc, h => by
    have hn : (acc.any fun q => decide (q.1 = kv.1)) = false := by
      rw [List.any_eq_false]
      intro q hq z
      have z := of_decide_eq_true z
      simp only [List.map_append, List.map_cons] at h
      exact (List.nodup_append.mp h).2.2 q.1 (List.mem_map_of_mem hq) kv.1 (by simp) z
    have e : putK acc kv.1 kv.2 = acc ++ [kv] := by
      unfold putK
      rw [if_neg (by rw [hn]; simp)]
    show mergeK (putK acc kv.1 kv.2) kvs = _
    rw [e, mergeK_app kvs (acc ++ [kv]) (by simpa using h)]
    simp
theorem de_dic {keys : List (Option Expr)} {ks : List Str} (h : DP X LO W pos keys es ks fs) (hall : keys.all (·.isSome) = true := by rfl) (hl : keys.length = es.length := by rfl) (h0 : keys ≠ [] := by exact fun z => by cases z) (h15 : keys.length ≤ 15 := by decide) (hk : ks.length ≤ 15 := by decide) (hf : fs.length = ks.length := by rfl) (hd : ks.Nodup := by decide) :
    DE X LO W (.Dict keys es pos) (fDic ks fs) := by
  obtain ⟨trs, h3, h4⟩ := h.ex
  refine pe_imp (pe_disp h3 hall hl h0 h15) fun σ H Q ⟨θ, ρ, μ, re, rl, p⟩ q hq => h4 _ _ _ ?_
  have nq : ¬ θ.no q := fun z => rl.so q z hq
  have nA : q ∉ θ.at_ := fun z => nq (rl.sub q z)
  refine ⟨θ.hide q, ρ, μ, (re.hide hq).at_hidden (show (θ.hide q).no q from Or.inr rfl) (fun xs z => by rw [hq] at z; cases z) (fun o u z => by rw [hq] at z; cases z), rl.hide hq, ?_⟩
  show Post (gX X LO) W (θ.hide q) (upd H q (.dK [])) σ (RpL (gX X LO)) _ (fAll fs ρ μ)
  unfold fDic bnd at p
  cases hF : fAll fs ρ μ with
  | none => rw [hF] at p; exact p
  | some r =>
  rw [hF] at p
  cases r with
  | ex c m => exact fun θ' H' C e1 rl1 hm => p θ' H' C ((Ext.hide hq).trans e1) rl1 hm
  | ok ds μ1 =>
  have hdl := fAll_len fs hF
  intro θ1 us H1 e1 rl1 r1
  obtain ⟨kvs, k1, k2, k3⟩ := zipK_rel (ks := ks) r1 (by rw [hdl, hf])
  have h1 := e1.hid q _ nA upd_same
  have hn1 := e1.mono q (.inr rfl)
  refine ⟨h1.1, kvs, k1, ?_, ?_⟩
  · have z := congrArg List.length k2
    simp only [List.length_map] at z
    omega
  · have hm : mergeK [] kvs = kvs := by
      have z := mergeK_app kvs [] (by
        simp only [List.nil_append]
        rw [k2]
        exact List.Pairwise.map _ (fun a b n z => n (by injection z)) hd)
      simpa using z
    rw [hm]
    have nt : ∀ xs, H1 q ≠ some (.tup xs) := fun xs z => by rw [h1.1] at z; cases z
    have nf : ∀ o u, H1 q ≠ some (.frz o u) := fun o u z => by rw [h1.1] at z; cases z
    have e2 : Ext θ H θ1 (upd H1 q (.dK kvs)) := ((Ext.hide hq).trans e1).put hq
    have rl2 := rl1.at_hidden (o := .dK kvs) hn1 h1.2 nt nf
    have k4 := k3.at_hidden (o := .dK kvs) hn1 nt nf
    exact p (θ1.more q) (.ref q) _ (e2.more hq) (rl2.more hn1 h1.2 ⟨kvs, upd_same, k4⟩) rl2.last
end
/-! ### a def's own cells end with it -/
mutual
def lowD (k : Nat) : D → Bool
  | .tup xs => lowDs k xs
  | .lst xs => lowDs k xs
  | .r n => decide (n < k)
  | _ => true
def lowDs (k : Nat) : List D → Bool
  | [] => true
  | d :: ds => lowD k d && lowDs k ds
end
def lowK (k : Nat) : List (Key × D) → Bool
  | [] => true
  | d :: ds => lowD k d.2 && lowK k ds
def lowC (k : Nat) : Cell → Bool
  | .lst xs => lowDs k xs
  | .dic kvs => lowK k kvs
  | .tab _ => true
mutual
/-- the def's own list cells seen by value -/
def frzD (k : Nat) (μ : Mu) : D → Option D
  | .tup xs => (frzDs k μ xs).map .tup
  | .lst xs => (frzDs k μ xs).map .lst
  | .r n => if n < k then some (.r n) else match μ[n]? with
    | some (.lst xs) => if lowDs k xs = true then some (.lst xs) else none
    | _ => none
  | d => some d
def frzDs (k : Nat) (μ : Mu) : List D → Option (List D)
  | [] => some []
  | d :: ds => (frzD k μ d).bind fun x => (frzDs k μ ds).map fun xs => x :: xs
end
def lowMu (k : Nat) (μ : Mu) : Bool := (μ.take k).all (lowC k)
def closeR (k : Nat) : Option (R D) → Option (R D)
  | some (.ok d μ) => if lowMu k μ = true then (frzD k μ d).map fun d' => .ok d' (μ.take k) else none
  | some (.ex c μ) => if lowMu k μ = true then some (.ex c (μ.take k)) else none
  | none => none
/-- the same, where nothing new is handed out -/
def closeF (F : List D → M D) : List D → M D := fun ds μ => closeR μ.length (F ds μ)
/-- a pair, the second a cell of the def: this cell lives on -/
def keepR (k : Nat) : Option (R D) → Option (R D)
  | some (.ok (.tup [x, .r n]) μ) => if lowMu k μ = true ∧ k ≤ n ∧ lowD k x = true then match μ[n]? with
    | some (.lst xs) => if lowDs k xs = true then some (.ok (.tup [x, .r k]) (μ.take k ++ [.lst xs])) else none
    | _ => none
    else none
  | some (.ex c μ) => if lowMu k μ = true then some (.ex c (μ.take k)) else none
  | _ => none
def keepF (F : List D → M D) : List D → M D := fun ds μ => keepR μ.length (F ds μ)
section
variable {g : G} {θ θ' : Cs} {H H' : Hp} {k : Nat} {μ μ' : Mu}
/-- the cells from k on end; those of no are seen by value -/
abbrev Cs.cut (θ : Cs) (k : Nat) (N : Addr → Prop) : Cs := ⟨θ.at_.take k, fun a => θ.no a ∧ N a⟩
variable {N : Addr → Prop}
theorem cut_get {n : Nat} {q : Addr} (h : θ.at_[n]? = some q) (hn : n < k) : (θ.at_.take k)[n]? = some q := by
  rw [List.getElem?_take_of_lt hn]
  exact h
mutual
theorem Rp.cut : ∀ {d : D} {u : V}, lowD k d = true → Rp g θ H d u → Rp g (θ.cut k N) H d u
  | .v _, _, _, h => by
    unfold Rp at h ⊢
    exact h
  | .tup xs, u, l, h => by
    unfold Rp at h ⊢
    unfold lowD at l
    obtain ⟨q, vs, h1, h2, h3⟩ := h
    exact ⟨q, vs, h1, h2, RpL.cut l h3⟩
  | .lst xs, u, l, h => by
    unfold Rp at h ⊢
    unfold lowD at l
    obtain ⟨q, vs, h1, h2, h3⟩ := h
    exact ⟨q, vs, h1, h2.less fun a z => z.1, RpL.cut l h3⟩
  | .r n, u, l, h => by
    unfold Rp at h ⊢
    unfold lowD at l
    obtain ⟨q, h1, h2⟩ := h
    exact ⟨q, cut_get h1 (of_decide_eq_true l), h2⟩
  | .exn c, u, l, h => by
    unfold Rp at h ⊢
    obtain ⟨q, C, h1, n, h2⟩ := h
    exact ⟨q, C, h1, fun z => n z.1, h2⟩
  | .lam k, u, l, h => by
    unfold Rp at h ⊢
    obtain ⟨q, c, h1, n, h2, n2, h3⟩ := h
    exact ⟨q, c, h1, fun z => n z.1, h2, fun z => n2 z.1, h3⟩
theorem RpL.cut : ∀ {ds : List D} {us : List V}, lowDs k ds = true → RpL g θ H ds us → RpL g (θ.cut k N) H ds us
  | [], _, _, h => by
    unfold RpL at h ⊢
    exact h
  | d :: ds, _, l, h => by
    unfold RpL at h ⊢
    unfold lowDs at l
    obtain ⟨v, r, h1, h2, h3⟩ := h
    obtain ⟨l1, l2⟩ := Bool.and_eq_true_iff.mp l
    exact ⟨v, r, h1, Rp.cut l1 h2, RpL.cut l2 h3⟩
end
theorem RpK.cut : ∀ {ds : List (Key × D)} {us : List (Key × V)}, lowK k ds = true → RpK g θ H ds us → RpK g (θ.cut k N) H ds us
  | [], _, _, h => h
  | d :: ds, _, l, ⟨v, r, h1, h2, h3⟩ => by
    unfold lowK at l
    obtain ⟨l1, l2⟩ := Bool.and_eq_true_iff.mp l
    exact ⟨v, r, h1, h2.cut l1, RpK.cut l2 h3⟩
theorem CellOk.cut {c : Cell} {p : Addr} (l : lowC k c = true) (h : CellOk g θ H c p) : CellOk g (θ.cut k N) H c p := by
  cases c with
  | lst xs =>
    obtain ⟨vs, h1, h2⟩ := h
    exact ⟨vs, h1, h2.cut l⟩
  | dic xs =>
    obtain ⟨vs, h1, h2⟩ := h
    exact ⟨vs, h1, h2.cut l⟩
  | tab q =>
    obtain ⟨ht, ps, h1, h2, h3⟩ := h
    refine ⟨ht, ps, h1, h2, fun pos cv e => ?_⟩
    obtain ⟨c, e1, e2, e3⟩ := h3 pos cv e
    exact ⟨c, e1, fun z => e2 z.1, e3⟩
mutual
theorem Rp.frz (R : Rel g θ μ H) (hN : ∀ a ∈ θ.at_.drop k, ¬ N a) : ∀ {d d' : D} {u : V}, frzD k μ d = some d' → Rp g θ H d u → Rp g (θ.cut k N) H d' u
  | .v _, _, _, e, h => by
    unfold frzD at e
    cases e
    unfold Rp at h ⊢
    exact h
  | .tup xs, d', u, e, h => by
    unfold frzD at e
    cases ex : frzDs k μ xs with
    | none => rw [ex] at e; cases e
    | some ys =>
      rw [ex] at e
      cases e
      unfold Rp at h ⊢
      obtain ⟨q, vs, h1, h2, h3⟩ := h
      exact ⟨q, vs, h1, h2, RpL.frz R hN ex h3⟩
  | .lst xs, d', u, e, h => by
    unfold frzD at e
    cases ex : frzDs k μ xs with
    | none => rw [ex] at e; cases e
    | some ys =>
      rw [ex] at e
      cases e
      unfold Rp at h ⊢
      obtain ⟨q, vs, h1, h2, h3⟩ := h
      exact ⟨q, vs, h1, h2.less fun a z => z.1, RpL.frz R hN ex h3⟩
  | .r n, d', u, e, h => by
    unfold frzD at e
    unfold Rp at h
    obtain ⟨q, h1, rfl⟩ := h
    split at e
    · rename_i hn
      cases e
      unfold Rp
      exact ⟨q, cut_get h1 hn, rfl⟩
    · rename_i hn
      split at e
      · rename_i xs hx
        split at e
        · rename_i hl
          cases e
          obtain ⟨q', h2, vs, h3, h4⟩ := R.ok n _ hx
          rw [h1] at h2
          cases h2
          refine rp_mklst (.inl ⟨fun z => hN q ?_ z.2, .inl h3⟩) (h4.cut hl)
          refine List.mem_of_getElem? (i := n - k) ?_
          rw [List.getElem?_drop, Nat.add_sub_of_le (by omega)]
          exact h1
        · cases e
      · cases e
  | .exn c, d', u, e, h => by
    unfold frzD at e
    cases e
    unfold Rp at h ⊢
    obtain ⟨q, C, h1, n, h2⟩ := h
    exact ⟨q, C, h1, fun z => n z.1, h2⟩
  | .lam j, d', u, e, h => by
    unfold frzD at e
    cases e
    unfold Rp at h ⊢
    obtain ⟨q, c, h1, n, h2, n2, h3⟩ := h
    exact ⟨q, c, h1, fun z => n z.1, h2, fun z => n2 z.1, h3⟩
theorem RpL.frz (R : Rel g θ μ H) (hN : ∀ a ∈ θ.at_.drop k, ¬ N a) : ∀ {ds ds' : List D} {us : List V}, frzDs k μ ds = some ds' → RpL g θ H ds us → RpL g (θ.cut k N) H ds' us
  | [], _, _, e, h => by
    unfold frzDs at e
    cases e
    unfold RpL at h ⊢
    exact h
  | d :: ds, ds', _, e, h => by
    unfold frzDs at e
    unfold RpL at h
    obtain ⟨v, r, h1, h2, h3⟩ := h
    cases e1 : frzD k μ d with
    | none => rw [e1] at e; cases e
    | some x =>
      rw [e1] at e
      cases e2 : frzDs k μ ds with
      | none => rw [e2] at e; cases e
      | some xs =>
        rw [e2] at e
        cases e
        unfold RpL
        exact ⟨v, r, h1, Rp.frz R hN e1 h2, RpL.frz R hN e2 h3⟩
end
/-- the cells below k, behind a cut -/
theorem Rel.cut (R : Rel g θ μ H) (l : lowMu k μ = true) (hN : ∀ a ∈ θ.at_.take k, N a) : Rel g (θ.cut k N) (μ.take k) H := by
  refine ⟨by simp [R.len], R.nd.sublist (List.take_sublist _ _), fun a h => ⟨R.sub a (List.mem_of_mem_take h), hN a h⟩, fun a h => R.so a h.1, fun n c q => ?_⟩
  have hn : n < k := by
    have z := (List.getElem?_eq_some_iff.mp q).1
    simp at z
    omega
  have hc : lowC k c = true := by
    unfold lowMu at l
    exact List.all_eq_true.mp l c (List.mem_of_getElem? q)
  rw [List.getElem?_take_of_lt hn] at q
  obtain ⟨p, h1, h2⟩ := R.ok n c q
  exact ⟨p, cut_get h1 hn, h2.cut hc⟩
theorem Ext.cut (e : Ext θ H θ' H') (hk : θ.at_.length = k) (hN : ∀ a, θ.no a → N a) : Ext θ H (θ'.cut k N) H' := by
  obtain ⟨m, hm⟩ := e.pre
  have ht : θ'.at_.take k = θ.at_ := by rw [hm, ← hk]; simp
  exact ⟨⟨[], by simp [ht]⟩, fun a o n h => ⟨(e.keep a o n h).1, fun z => (e.keep a o n h).2 z.1⟩, fun a o n h => ⟨(e.hid a o n h).1, fun z => n (by rw [← ht]; exact z)⟩, e.tups, e.frzs, e.free, fun a h => ⟨e.mono a h, hN a h⟩⟩
/-- what ended was new -/
theorem ended_new {μ0 : Mu} (R0 : Rel g θ μ0 H) (R : Rel g θ' μ' H') (e : Ext θ H θ' H') (hk : θ.at_.length = k) : ∀ a, θ.no a → a ∉ θ'.at_.drop k := fun a ha hm => by
  obtain ⟨m, hp⟩ := e.pre
  have hd : θ'.at_.drop k = m := by rw [hp, ← hk]; simp
  rw [hd] at hm
  cases ho : H a with
  | none => exact R0.so a ha ho
  | some o =>
    have nd := R.nd
    rw [hp] at nd
    have na : a ∉ θ.at_ := fun z => (List.nodup_append.mp nd).2.2 a z a hm rfl
    exact (e.hid a o na ho).2 (by rw [hp]; exact List.mem_append_right _ hm)
theorem close_post {W : WX} {σ : L2.St} {Q : VK} (R0 : Rel g θ μ H) : ∀ {r : Option (R D)}, Post g W θ H σ (Rp g) Q (closeR μ.length r) → Post g W θ H σ (Rp g) Q r
  | none, p => p
  | some (.ex c m), p => fun θ' H' C e rl hm => by
    by_cases hl : lowMu μ.length m = true
    · have p : Post g W θ H σ (Rp g) Q (some (.ex c (m.take μ.length))) := by
        rw [closeR, if_pos hl] at p
        exact p
      exact p (θ'.cut μ.length fun a => a ∉ θ'.at_.drop μ.length) H' C (e.cut R0.len fun a ha => ended_new R0 rl e R0.len a ha) (rl.cut hl fun a h1 h2 => by
        have nd := rl.nd
        rw [← List.take_append_drop μ.length θ'.at_] at nd
        exact (List.nodup_append.mp nd).2.2 a h1 a h2 rfl) hm
    · rw [closeR, if_neg hl] at p
      exact p.elim
  | some (.ok d m), p => fun θ' u H' e rl rp => by
    by_cases hl : lowMu μ.length m = true
    · rw [closeR, if_pos hl] at p
      cases hf : frzD μ.length m d with
      | none => rw [hf] at p; exact p.elim
      | some d' =>
        rw [hf] at p
        exact p (θ'.cut μ.length fun a => a ∉ θ'.at_.drop μ.length) u H' (e.cut R0.len fun a ha => ended_new R0 rl e R0.len a ha) (rl.cut hl fun a h1 h2 => by
          have nd := rl.nd
          rw [← List.take_append_drop μ.length θ'.at_] at nd
          exact (List.nodup_append.mp nd).2.2 a h1 a h2 rfl) (rp.frz rl (fun a h z => z h) hf)
    · rw [closeR, if_neg hl] at p
      exact p.elim
theorem keep_post {W : WX} {σ : L2.St} {Q : VK} (R0 : Rel g θ μ H) {r : Option (R D)} (p : Post g W θ H σ (Rp g) Q (keepR μ.length r)) : Post g W θ H σ (Rp g) Q r := by
  cases r with
  | none => exact p
  | some r =>
  cases r with
  | ex c m =>
    intro θ' H' C e rl hm
    by_cases hl : lowMu μ.length m = true
    · rw [keepR, if_pos hl] at p
      exact p (θ'.cut μ.length fun a => True) H' C (e.cut R0.len fun a ha => trivial) (rl.cut hl fun a h1 => trivial) hm
    · rw [keepR, if_neg hl] at p
      exact p.elim
  | ok d m =>
    unfold keepR at p
    split at p
    · rename_i x n m' he
      cases he
      split at p
      · rename_i hl
        obtain ⟨l1, l2, l3⟩ := hl
        split at p
        · rename_i xs hx
          split at p
          · rename_i hlx
            intro θ' u H' e rl rp
            obtain ⟨q, vs, rfl, h2, h3⟩ := rp_tup rp
            obtain ⟨w1, w2, rfl, r1, r2⟩ := rpL_2 h3
            unfold Rp at r2
            obtain ⟨a, ha, rfl⟩ := r2
            obtain ⟨a', ha', vs, h4, h5⟩ := rl.ok n _ hx
            rw [ha] at ha'
            cases ha'
            have hm : a ∈ θ'.at_ := List.mem_of_getElem? ha
            have hc : a ∉ θ'.at_.take μ.length := fun z => by
              have nd := rl.nd
              rw [← List.take_append_drop μ.length θ'.at_] at nd
              refine (List.nodup_append.mp nd).2.2 a z a (List.mem_of_getElem? (i := n - μ.length) ?_) rfl
              rw [List.getElem?_drop, Nat.add_sub_of_le l2]
              exact ha
            have rlc := rl.cut l1 (N := fun _ => True) fun a h1 => trivial
            have rl2 := rlc.more (p := a) (c := .lst xs) ⟨rl.sub a hm, trivial⟩ hc ⟨vs, h4, h5.cut hlx⟩
            have e2 : Ext θ H ((θ'.cut μ.length fun a => True).more a) H' := by
              have ec := e.cut (k := μ.length) (N := fun _ => True) R0.len fun a ha => trivial
              have na : H a = none := by
                cases ho : H a with
                | none => rfl
                | some o =>
                  have na : a ∉ θ.at_ := fun z => hc (by
                    obtain ⟨m, hp⟩ := e.pre
                    rw [hp, ← R0.len]
                    simpa using z)
                  exact absurd hm (e.hid a o na ho).2
              exact ec.more na
            refine p _ (.ref q) H' e2 rl2 (rp_mktup h2 ?_)
            unfold RpL RpL RpL
            refine ⟨w1, _, rfl, (r1.cut l3).more, .ref a, [], rfl, ?_, rfl⟩
            have z := rlc.last (p := a)
            have hlen : (m.take μ.length).length = μ.length := by
              have := rl.len
              have := (List.getElem?_eq_some_iff.mp hx).1
              rw [List.length_take]
              omega
            rw [hlen] at z
            exact z
          · exact p.elim
        · exact p.elim
      · exact p.elim
    · rename_i he
      cases he
    · exact p.elim
end
section
variable {P : Program} {w : World} {K : PySem.W.Frag} {mg : Str → Option Value} {base : Heap} {k : Nat} {f : Addr} {fd : FuncData} {ps : List Str} {x : Str} {F F' : List D → M D}
theorem FnAt.imp (h : FnAt P w K mg base k f fd ps x F) (i : ∀ vs H Q E, spD K mg F' vs H Q E → spD K mg F vs H Q E) : FnAt P w K mg base k f fd ps x F' :=
  ⟨⟨fun vs H Q E q => h.ok.len vs H Q E (i vs H Q E q), fun A outer s H args us vs Q E hr e0 hb hv q => h.ok.go A outer s H args us vs Q E hr e0 hb hv (i vs H Q E q)⟩, h.gm, h.kp, h.bd⟩
theorem FnAt.close (h : FnAt P w K mg base k f fd ps x F) : FnAt P w K mg base k f fd ps x (closeF F) := h.imp fun _ _ _ _ ⟨LO, θ, μ, ds, r, rl, p⟩ => ⟨LO, θ, μ, ds, r, rl, close_post rl p⟩
theorem FnAt.keep (h : FnAt P w K mg base k f fd ps x F) : FnAt P w K mg base k f fd ps x (keepF F) := h.imp fun _ _ _ _ ⟨LO, θ, μ, ds, r, rl, p⟩ => ⟨LO, θ, μ, ds, r, rl, keep_post rl p⟩
end
/-! ### keyword calls -/
def permL {α : Type} (perm : List Nat) (xs : List α) : List α := perm.filterMap fun i => xs[i]?
structure KB (K : PySem.W.Frag) (fd : FuncData) (ps : List Str) (n : Nat) (ks : List Str) (perm : List Nat) : Prop where
  to : ∀ (s : Shared) (us ws : List Value), K.In s.heap → us.length = n → ws.length = ks.length → BindsTo s fd ⟨us, ks.zip ws⟩ (ps.zip (permL perm (us ++ ws)))
def FnKw (P : Program) (w : World) (K : PySem.W.Frag) (mg : Str → Option Value) (base : Heap) (k : Nat) (x : Str) (F : List D → M D) (n : Nat) (ks : List Str) (perm : List Nat) : Prop := ∃ f fd ps, FnAt P w K mg base k f fd ps x F ∧ KB K fd ps n ks perm
theorem RpL.perm {g : G} {θ : Cs} {H : Hp} {ds : List D} {us : List V} (h : RpL g θ H ds us) : ∀ perm : List Nat, RpL g θ H (permL perm ds) (permL perm us)
  | [] => by unfold RpL permL; rfl
  | i :: perm => by
    unfold permL
    rw [List.filterMap_cons, List.filterMap_cons]
    cases hd : ds[i]? with
    | none =>
      have hn : us[i]? = none := by
        rw [List.getElem?_eq_none_iff] at hd ⊢
        rw [← h.len]
        exact hd
      rw [hn]
      exact h.perm perm
    | some d =>
      obtain ⟨u, h1, h2⟩ := h.get hd
      rw [h1]
      dsimp only
      have z := h.perm perm
      unfold RpL
      exact ⟨u, _, rfl, h2, z⟩
theorem Vals.perm {xs : List V} {us : List Value} (h : Vals xs us) : ∀ perm : List Nat, Vals (permL perm xs) (permL perm us)
  | [] => .nil
  | i :: perm => by
    unfold permL
    rw [List.filterMap_cons, List.filterMap_cons]
    cases hd : xs[i]? with
    | none =>
      have hn : us[i]? = none := by
        rw [List.getElem?_eq_none_iff] at hd ⊢
        rw [← h.length]
        exact hd
      rw [hn]
      exact Vals.perm h perm
    | some d =>
      obtain ⟨u, h1, h2⟩ := h.get hd
      rw [h1]
      exact .cons h2 (Vals.perm h perm)
def fCallK (F : List D → M D) (fs kfs : List FE) (perm : List Nat) : FE := fun ρ => bnd (fAll fs ρ) fun ds => bnd (fAll kfs ρ) fun zs => F (permL perm (ds ++ zs))
section
variable {X : Cx} {LO : LOs} {W : WX} {e o : Expr} {es : List Expr} {fa fo : FE} {fs kfs : List FE} {pos : Pos} {kws : List Keyword}
structure DK (X : Cx) (LO : LOs) (W : WX) (kws : List Keyword) (f : FA) : Prop where
  pk : PK X kws (lA (gX X LO) W f)
theorem dk_nil : DK X LO W [] (fAll []) := ⟨⟨fun pos pins s σ H Q I ⟨θ, ρ, μ, re, rl, p⟩ => pk_nil.run pos pins s σ H Q I (post_ret p rl (by unfold RpL; rfl))⟩⟩
theorem dk_cons {nm : Option Str} {kpos : Pos} (h1 : DE X LO W e fa) (h2 : DK X LO W kws (fAll kfs)) : DK X LO W (⟨nm, e, kpos⟩ :: kws) (fAll (fa :: kfs)) :=
  ⟨⟨fun pos pins s σ H Q I ⟨θ, ρ, μ, re, rl, p⟩ => (pk_cons h1 h2.pk).run pos pins s σ H Q I ⟨θ, ρ, μ, re, rl, post_bnd p fun x μ1 θ1 u H1 e1 rl1 r1 p1 => ⟨θ1, ρ, μ1, re.ext e1, rl1, post_bnd p1 fun xs μ2 θ2 us H2 e2 rl2 r2 p2 => post_ret p2 rl2 (by unfold RpL; exact ⟨u, us, rfl, r1.ext e2, r2⟩)⟩⟩⟩⟩
theorem go_fnK {k n : Nat} {f : Addr} {fd : FuncData} {ps ks : List Str} {perm : List Nat} {sp : Sp} {pins : List (Addr × Obj)} {σ : L2.St} {H : Hp} {s : Shared} {Q : VK} {us ws : List Value} {vs zs : List V} {E : XK} (F : FnG X.prog X.w X.K X.mg X.base k f fd ps sp) (hr : Rm k X.A) (hb : KB X.K fd ps n ks perm)
    (hx : PassesAt (L2.CX X.prog X.w) X σ E) (I : Inv X pins σ H s) (r : Vals vs us) (rz : Vals zs ws) (l1 : us.length = n) (l2 : ws.length = ks.length) (h : sp (permL perm (vs ++ zs)) H Q E) : wpAny (model X.prog X.w) X.A (call (.ref f) us (ks.zip ws)) (EP X pins σ Q) X.xe s := by
  have run := F.go X.A X.stack s H ⟨us, ks.zip ws⟩ _ _ Q E hr I.env0 (hb.to s us ws I.kIn l1 l2) (Vals.perm (r.append rz) perm) h
  refine wpAny_call (codeAny_mono run fun o s' ho => ?_)
  match o, ho with
  | .error e, ho => exact hx pins H s e s' I ho
  | .ok (.ret u), ho => exact I.after ho
theorem de_callK {k : Nat} {x : Str} {F : List D → M D} {p : Pos} {ks : List Str} {perm : List Nat} (h : FnKw X.prog X.w X.K X.mg X.base k x F fs.length ks perm) (tk : Takes X W) (hr : Rm k X.A) (ha : DA X LO W (e :: es) (fAll fs)) (hkw : DK X LO W kws (fAll kfs)) (hkl : kfs.length = ks.length := by rfl) (hg : Gl X x := by rfl) (hdb : (x == ("__debug__" : Str)) = false := by decide)
    (hall : (backToKw pos (keywordEach kws X.env)).all (·.1.isSome) = true := by rfl) (hks : (backToKw pos (keywordEach kws X.env)).filterMap (·.1) = ks := by rfl)
    (he : starEach (e :: es) X.env = (false, eval e X.env) :: starEach es X.env := by rfl) (hpl : ((backTo pos (starEach (e :: es) X.env)).any (·.1) || (backToKw pos (keywordEach kws X.env)).any (·.1.isNone)) = false := by rfl) : DE X LO W (.Call (.Name x p) (e :: es) kws pos) (fCallK F fs kfs perm) := by
  obtain ⟨f, fd, ps, h, kb⟩ := h
  refine ⟨fun pins s σ H Q I hl => ?_⟩
  obtain ⟨θ, ρ, μ, re, rl, q⟩ := hl
  refine wpAny_Call_Name_kw (ld_glob I hg h.gm ?_ hdb)
  refine PySem.W.callWith_KW (h₀ := X.base) I.ok.mod.kin h.kp hall (thn (PA.run ha pos pins s σ H (fun vs H1 => vs.length = fs.length ∧ lA (gX X LO) W (fAll kfs) σ H1 fun zs H2 => zs.length = kfs.length ∧ spD X.K X.mg F (permL perm (vs ++ zs)) H2 Q (WE W σ)) I
    ⟨θ, ρ, μ, re, rl, post_all q fun ds μ1 θ1 us H1 hd e1 rl1 r1 p1 => ⟨by rw [← r1.len, hd], θ1, ρ, μ1, re.ext e1, rl1, post_all p1 fun zs μ2 θ2 ws H2 hz e2 rl2 r2 p2 => ⟨by rw [← r2.len, hz], LO, θ2, μ2, _, ((r1.ext e2).append r2).perm perm, rl2, p2.wish fun _ _ _ z => z⟩⟩⟩) fun us s1 ⟨vs, H1, I1, r, hlv, q⟩ => ?_) hpl he
  refine thn (hkw.pk.run pos pins s1 σ H1 _ I1 q) fun ws s2 ⟨zs, H2, I2, rz, hlz, q2⟩ => ⟨I2.kIn, ?_⟩
  rw [hks]
  have hus : ([] ++ us).length = fs.length := by rw [List.nil_append, ← r.length, hlv]
  exact go_fnK (us := [] ++ us) h.ok hr kb (passAt tk σ) I2 r rz hus (by rw [← rz.length, hlz, hkl]) q2
theorem de_callK0 {k : Nat} {x : Str} {F : List D → M D} {p : Pos} {ks : List Str} {perm : List Nat} (h : FnKw X.prog X.w X.K X.mg X.base k x F 0 ks perm) (tk : Takes X W) (hr : Rm k X.A) (hkw : DK X LO W kws (fAll kfs)) (hkl : kfs.length = ks.length := by rfl) (hg : Gl X x := by rfl) (hdb : (x == ("__debug__" : Str)) = false := by decide)
    (hall : (backToKw pos (keywordEach kws X.env)).all (·.1.isSome) = true := by rfl) (hks : (backToKw pos (keywordEach kws X.env)).filterMap (·.1) = ks := by rfl)
    (hpl : ((backTo pos (starEach [] X.env)).any (·.1) || (backToKw pos (keywordEach kws X.env)).any (·.1.isNone)) = false := by rfl) : DE X LO W (.Call (.Name x p) [] kws pos) (fCallK F [] kfs perm) := by
  obtain ⟨f, fd, ps, h, kb⟩ := h
  refine ⟨fun pins s σ H Q I hl => ?_⟩
  obtain ⟨θ, ρ, μ, re, rl, q⟩ := hl
  refine wpAny_Call_Name_kw (ld_glob I hg h.gm ?_ hdb)
  have q : Post (gX X LO) W θ H σ (Rp (gX X LO)) Q (bnd (fAll kfs ρ) (fun zs => F (permL perm ([] ++ zs))) μ) := q
  refine PySem.W.callWith_KW0 (h₀ := X.base) I.ok.mod.kin h.kp hall ?_ hpl
  refine thn (hkw.pk.run pos pins s σ H (fun zs H2 => zs.length = kfs.length ∧ spD X.K X.mg F (permL perm ([] ++ zs)) H2 Q (WE W σ)) I ⟨θ, ρ, μ, re, rl, post_all q fun zs μ2 θ2 ws H2 hz e2 rl2 r2 p2 => ⟨by rw [← r2.len, hz], LO, θ2, μ2, _, RpL.perm (by rw [List.nil_append, List.nil_append]; exact r2) perm, rl2, p2.wish fun _ _ _ z => z⟩⟩) fun ws s2 ⟨zs, H2, I2, rz, hlz, q2⟩ => ⟨I2.kIn, ?_⟩
  rw [hks]
  exact go_fnK (us := []) (vs := []) h.ok hr kb (passAt tk σ) I2 .nil rz rfl (by rw [← rz.length, hlz, hkl]) q2
end
end Tr
/-! ## TrJ -/
set_option Elab.async false
set_option linter.all false
set_option maxRecDepth 100000
set_option maxHeartbeats 2000000
namespace Tr
open PySem PySem.Spec PyProof.Rows L2
section
variable {X : Cx} {LO : LOs} {W : WX} {a e o : Expr} {es : List Expr} {fa fo : FE} {fs kfs : List FE} {pos : Pos}
/-! ### abs, min, max, int, str -/
def dAbs : OpN
  | [.v (.int i)], _ => some (.v (.int (if i < 0 then -i else i)))
  | _, _ => none
theorem call_absD : CallR X (.builtin "abs") (rDn (gX X LO) dAbs) := by
  intro pins s σ H xs us Q I r hh
  obtain ⟨θ, μ, ds, d, h1, rl, e, k⟩ := hh
  unfold dAbs at e
  split at e
  · cases e
    obtain ⟨x, rfl, h2⟩ := rpL_1 h1
    exact call_abs pins s σ H _ us Q I r ⟨_, by rw [rp_int h2], k θ _ H (Ext.refl _ _) rl (rp_v trivial)⟩
  · cases e
def dMin2 : OpN
  | [.v (.int i), .v (.int j)], _ => some (.v (.int (if j < i then j else i)))
  | _, _ => none
theorem call_min2D (hc : X.calm = true) : CallR X (.builtin "min") (rDn (gX X LO) dMin2) := by
  intro pins s σ H xs us Q I r hh
  obtain ⟨θ, μ, ds, d, h1, rl, e, k⟩ := hh
  unfold dMin2 at e
  split at e
  · cases e
    obtain ⟨x, y, rfl, h2, h3⟩ := rpL_2 h1
    exact call_min2 hc pins s σ H _ us Q I r ⟨_, _, by rw [rp_int h2, rp_int h3], k θ _ H (Ext.refl _ _) rl (rp_v trivial)⟩
  · cases e
def dMax2 : OpN
  | [.v (.int i), .v (.int j)], _ => some (.v (.int (if j > i then j else i)))
  | _, _ => none
theorem call_max2D (hc : X.calm = true) : CallR X (.builtin "max") (rDn (gX X LO) dMax2) := by
  intro pins s σ H xs us Q I r hh
  obtain ⟨θ, μ, ds, d, h1, rl, e, k⟩ := hh
  unfold dMax2 at e
  split at e
  · cases e
    obtain ⟨x, y, rfl, h2, h3⟩ := rpL_2 h1
    exact call_max2 hc pins s σ H _ us Q I r ⟨_, _, by rw [rp_int h2, rp_int h3], k θ _ H (Ext.refl _ _) rl (rp_v trivial)⟩
  · cases e
def dIntOf : OpN
  | [.v (.int i)], _ => some (.v (.int i))
  | [.v (.bl b)], _ => some (.v (.int (if b then 1 else 0)))
  | _, _ => none
theorem call_intD : CallR X (.type "int") (rDn (gX X LO) dIntOf) := by
  intro pins s σ H xs us Q I r hh
  obtain ⟨θ, μ, ds, d, h1, rl, e, k⟩ := hh
  unfold dIntOf at e
  split at e
  · cases e
    obtain ⟨x, rfl, h2⟩ := rpL_1 h1
    exact call_int1 pins s σ H _ us Q I r (.inl ⟨_, by rw [rp_int h2], k θ _ H (Ext.refl _ _) rl (rp_v trivial)⟩)
  · cases e
    obtain ⟨x, rfl, h2⟩ := rpL_1 h1
    exact call_int1 pins s σ H _ us Q I r (.inr ⟨_, by rw [rp_bl h2], k θ _ H (Ext.refl _ _) rl (rp_v trivial)⟩)
  · cases e
def dStrOf : OpN
  | [.v (.int i)], _ => if i.natAbs.log2 < 1920 ∧ (toString i : Str).length ≤ 16777216 then some (.v (.str (toString i))) else none
  | [.v (.str z)], _ => some (.v (.str z))
  | _, _ => none
theorem call_strD : CallR X (.type "str") (rDn (gX X LO) dStrOf) := by
  intro pins s σ H xs us Q I r hh
  obtain ⟨θ, μ, ds, d, h1, rl, e, k⟩ := hh
  unfold dStrOf at e
  split at e
  · split at e
    · rename_i hz
      cases e
      obtain ⟨x, rfl, h2⟩ := rpL_1 h1
      refine call_str_int pins s σ H _ us Q I r ⟨_, by rw [rp_int h2], hz.1, k θ _ H (Ext.refl _ _) rl (rp_v ?_)⟩
      exact okV_of hz.2
    · cases e
  · cases e
    obtain ⟨x, rfl, h2⟩ := rpL_1 h1
    exact SkE.call_str_str pins s σ H _ us Q I r ⟨_, by rw [(rp_str h2).1], k θ _ H (Ext.refl _ _) rl (rp_v (rp_str h2).2)⟩
  · cases e
/-! ### * -/
theorem rmul_any (a : Int) (t : Tok) (l : Addr) (items : Array Value) (n : Nat) (dd : Option Addr) (sl : Array (Option Value)) : Meets (Builtin.«int.__rmul__» ⟨[.int a t, .ref l], []⟩)
    (fun _ R s => s.heap.get? l = some { cls := .type "list", dict := dd, data := .seq items n, slots := sl } ∧ R (.ok (.ret Value.notImplemented)) s) := .of_wp fun prog w A R s h => by
  obtain ⟨hp, g, d, tk, os⟩ := s
  obtain ⟨hl, h⟩ := h
  wp_walk using wpAny_loadPart' hl
  exact ⟨_, rfl, h⟩
theorem mul_any (l : Addr) (items : Array Value) (n : Nat) (x : Int) (u : Tok) (dd : Option Addr) (sl : Array (Option Value)) (h0 : ¬(!Builtin.List.listFitsIndex x) = true) (h1 : ¬items.size * x.toNat > (2 ^ 63 - 1) / 8) (h2 : ¬Builtin.List.listTooLong (items.size * x.toNat) = true) :
    Meets (Builtin.«list.__mul__» ⟨[.ref l, .int x u], []⟩) (fun _ R s => s.heap.get? l = some { cls := .type "list", dict := dd, data := .seq items n, slots := sl } ∧
      R (.ok (.ret (Value.ref s.heap.objs.size))) { s with heap := s.heap.push { cls := Value.type "list", data := Data.seq (List.foldl (fun x1 x2 => x1 ++ x2) #[] (List.replicate (if items.isEmpty = true then 0 else x.toNat) items)) }, toks := s.toks }) := .of_wp fun prog w A R s h => by
  obtain ⟨hp, g, d, tk, os⟩ := s
  obtain ⟨hl, h⟩ := h
  have fits := PySem.AutoListH.joined_fits h2
  wp_walk using wpAny_loadPart' hl
  refine wpAny_ite_false (decide_eq_false (Nat.not_lt.mpr fits)) ?_
  wp_walk
  exact ⟨_, rfl, h⟩
theorem op_repR : OpR X (binaryOp .Mult) (fun x y H Q => ∃ l k xs, x = .ref l ∧ y = .int k ∧ SqL X.K H l xs ∧ -(2 ^ 63) ≤ k ∧ k < 2 ^ 63 ∧ xs.length * k.toNat ≤ sizeLine ∧ ∀ p, H p = none → Q (.ref p) (upd H p (.lst (List.replicate k.toNat xs).flatten))) := by
  intro pins s σ H x y v u Q I rx ry h
  obtain ⟨p, n, zs, rfl, rfl, hp, lo, up, hs, go⟩ := h
  cases rx
  obtain ⟨t, rfl⟩ := ry
  obtain ⟨ws, rv, ⟨⟨c0, d1, e0, t0⟩, m, hg, a0, b0, k0⟩, _⟩ := I.list hp
  simp only at a0 b0 k0
  subst a0 b0 k0
  have hn : ws.toArray.size * n.toNat ≤ sizeLine := by rw [List.size_toArray, ← rv.length]; exact hs
  have w1 : ¬ ws.toArray.size * n.toNat > (2 ^ 63 - 1) / 8 := fun z => absurd (Nat.le_trans hn (show sizeLine ≤ (2 ^ 63 - 1) / 8 by decide)) (Nat.not_le.mpr z)
  have w2 : ¬ (!Builtin.List.listFitsIndex n) = true := by rw [fitsIndex_both lo up]; simp
  have w3 : ¬ Builtin.List.listTooLong (ws.toArray.size * n.toNat) = true := by rw [notLongL hn]; simp
  have flat : ∀ m : Nat, List.foldl (fun x1 x2 => x1 ++ x2) #[] (List.replicate m ws.toArray) = (List.replicate m ws).flatten.toArray := fun m => by
    have e := foldl_rep ws m []
    rwa [List.nil_append] at e
  have made : List.foldl (fun x1 x2 => x1 ++ x2) #[] (List.replicate (if ws.toArray.isEmpty = true then 0 else n.toNat) ws.toArray) = (List.replicate n.toNat ws).flatten.toArray := by
    rw [flat]
    cases ws with
    | nil => simp
    | cons b bs => rw [if_neg (by simp)]
  have tp : s.TypeIs (.ref p) "list" := ⟨_, hg, rfl⟩
  have ti : s.TypeIs (.int n t) "int" := typeIs_int s n t
  have step2 := call_meets (prog := X.prog) (w := X.w) (A := X.A) (E := X.xe) (Q := EP X pins σ Q) F.slot_list_mul tp F.entry_list_mul (F.args_list_mul_2 _ _) (mul_any p ws.toArray m n t none t0 w2 w1 w3) ⟨hg, by
    rw [made]
    exact ⟨.ref _, _, I.lnew (t' := s.toks) (rv.rep n.toNat) (by rw [PyProof.Rows.lm_len_rep_flat, Nat.mul_comm]; exact hs), rfl, go _ I.fresh⟩⟩
  exact wpAny_binaryOp_repeat_ref (T := "list") (U := "int") (by decide) tp (fun s' => typeIs_int s' n t) noFill_list_mul F.fills_int_mul F.slot_int_rmul repeat_list F.slot_int_index.lookup
    (call_meets F.slot_int_rmul ti F.entry_int_rmul (F.args_int_rmul_2 _ _) (rmul_any n t p ws.toArray m none t0) ⟨hg, rfl, tp, step2⟩)
def repD (k : Nat) (xs : List D) : List D := (List.replicate k xs).flatten
theorem RpL.rep {g : G} {θ : Cs} {H : Hp} {ds : List D} {us : List V} (h : RpL g θ H ds us) : ∀ k, RpL g θ H (repD k ds) ((List.replicate k us).flatten)
  | 0 => by unfold repD; simp only [List.replicate_zero, List.flatten_nil]; unfold RpL; rfl
  | k + 1 => by
    unfold repD
    simp only [List.replicate_succ, List.flatten_cons]
    exact h.append (h.rep k)
def dMul : Op2
  | .v (.int i), .v (.int j), _ => (iMul i j).map fun n => .v (.int n)
  | .lst xs, .v (.int j), _ => if 0 ≤ j ∧ j ≤ 1000 ∧ xs.length ≤ 1000 then some (.lst (repD j.toNat xs)) else none
  | .tup xs, .v (.int j), _ => if xs ≠ [] ∧ 2 ≤ j ∧ j ≤ 1000 ∧ xs.length ≤ 1000 then some (.tup (repD j.toNat xs)) else none
  | _, _, _ => none
theorem op_mulD : OpR X (binaryOp .Mult) (rD2 (gX X LO) dMul) := by
  intro pins s σ H x y v u Q I rx ry h
  obtain ⟨θ, μ, d1, d2, d, h1, h2, rl, e, k⟩ := h
  unfold dMul at e
  split at e
  · unfold iMul at e
    split at e
    · rename_i hc
      cases e
      exact op_mul pins s σ H x y v u Q I rx ry ⟨_, _, rp_int h1, rp_int h2, hc, k θ _ H (Ext.refl _ _) rl (rp_v trivial)⟩
    · cases e
  · split at e
    · rename_i hc
      cases e
      obtain ⟨p, vs, z1, r1, q1⟩ := rp_lst h1
      refine op_repR pins s σ H x y v u Q I rx ry ⟨p, _, vs, z1, rp_int h2, r1.sq, by omega, by omega, ?_, fun a ha => new_lst rl (q1.rep _) ha k⟩
      rw [← q1.len, sizeLine_eq]
      exact Nat.le_trans (Nat.mul_le_mul hc.2.2 (show _ ≤ 1000 by omega)) (by decide)
    · cases e
  · split at e
    · rename_i hc
      cases e
      obtain ⟨p, vs, z1, r1, q1⟩ := rp_tup h1
      refine op_repT pins s σ H x y v u Q I rx ry ⟨p, _, vs, z1, rp_int h2, r1, fun z => hc.1 ?_, hc.2.1, hc.2.2.1, by rw [← q1.len]; exact hc.2.2.2, fun a ha => new_tup rl (q1.rep _) ha k⟩
      have l := q1.len
      rw [z] at l
      exact List.eq_nil_of_length_eq_zero l
    · cases e
  · cases e
/-! ### list(range(..)), list(x), as a value or a cell -/
def rgLs (lo hi : Int) : Option (List D) := if small62 lo = true ∧ small62 hi = true ∧ (hi - lo).toNat ≤ 16777216 then some (rngD lo (hi - lo).toNat) else none
def rgL1 : D → Option (List D)
  | .v (.int j) => rgLs 0 j
  | _ => none
def fListRgG (fin : List D → M D) (fa : FE) : FE := fun ρ => bnd (fa ρ) fun d => bnd (lif fun _ => rgL1 d) fin
abbrev fListRg := fListRgG finL
abbrev fListRgM := fListRgG finM
/-- what a new list's end must bring -/
def NewOk (g : G) (fin : List D → M D) : Prop := ∀ {W : WX} {θ : Cs} {H : Hp} {σ : L2.St} {Q : VK} {p : Addr} {μ : Mu} {xs : List D} {vs : List V}, Rel g θ μ H → RpL g θ H xs vs → H p = none → Post g W θ H σ (Rp g) Q (fin xs μ) → Q (.ref p) (upd H p (.lst vs))
theorem finL_new {g : G} : NewOk g finL := fun rl r hp p => new_lst rl r hp fun θ' u H' e1 rl1 r1 => p θ' u H' e1 rl1 r1
theorem finM_new {g : G} : NewOk g finM := fun {W θ H σ Q p μ xs vs} rl r hp q => new_cell (c := .lst xs) rl hp ⟨vs, upd_same, r.laid hp⟩ q
theorem rng_rel {g : G} {θ : Cs} {H : Hp} {lo : Int} {n : Nat} : RpL g θ H (rngD lo n) ((List.range n).map fun i => V.int (lo + (i : Nat))) := by
  unfold rngD
  have z : ∀ l : List Nat, RpL g θ H (l.map fun i => D.v (.int (lo + (i : Nat)))) (l.map fun i => V.int (lo + (i : Nat))) := fun l => by
    induction l with
    | nil => unfold RpL; rfl
    | cons i l ih => rw [List.map_cons, List.map_cons]; unfold RpL; exact ⟨_, _, rfl, rp_v trivial, ih⟩
  exact z _
theorem rgLs_ok {lo hi : Int} {xs : List D} (h : rgLs lo hi = some xs) : RgOk lo hi ∧ xs = rngD lo (hi - lo).toNat := by
  unfold rgLs at h
  split at h
  · rename_i hc
    cases h
    obtain ⟨a1, a2⟩ := small62_iff hc.1
    obtain ⟨b1, b2⟩ := small62_iff hc.2.1
    exact ⟨⟨a1, a2, b1, b2, hc.2.2⟩, rfl⟩
  · cases h
theorem de_listRgG {fin : List D → M D} (hfin : NewOk (gX X LO) fin) {p p2 pos2 : Pos} (hc : X.calm = true) (hm : X.mg "list" = none) (hm2 : X.mg "range" = none) (he : DE X LO W a fa) (hg : Gl X "list" := by rfl) (hg2 : Gl X "range" := by rfl)
    (na : starEach [a] X.env = (false, eval a X.env) :: starEach [] X.env := by rfl) (nb : starEach [Expr.Call (.Name "range" p2) [a] [] pos2] X.env = (false, eval (.Call (.Name "range" p2) [a] [] pos2) X.env) :: starEach [] X.env := by rfl) :
    DE X LO W (.Call (.Name "list" p) [.Call (.Name "range" p2) [a] [] pos2] [] pos) (fListRgG fin fa) := by
  refine pe_imp (pe_listRg hc hg hm (prg_1 hg2 hm2 he na) nb) fun σ H Q ⟨θ, ρ, μ, re, rl, q⟩ => ⟨θ, ρ, μ, re, rl, post_bnd q fun d μ1 θ1 u H1 e1 rl1 r1 q1 => ?_⟩
  unfold bnd lif at q1
  cases hr : rgL1 d with
  | none => rw [hr] at q1; exact q1.elim
  | some xs =>
    rw [hr] at q1
    unfold rgL1 at hr
    split at hr
    · rename_i j
      obtain ⟨ok, rfl⟩ := rgLs_ok hr
      exact ⟨j, rp_int r1, ok, fun a ha => hfin rl1 rng_rel ha q1⟩
    · cases hr
/-- list(x), as a cell -/
def fListM (fa : FE) : FE := fun ρ => bnd (fa ρ) fun d => fun μ => match dList [d] μ with
  | some (.lst xs) => newc (.lst xs) μ
  | _ => none
def rListM (g : G) : List V → Hp → VK → Prop := fun us H Q => ∃ θ μ d u xs, us = [u] ∧ Rp g θ H d u ∧ Rel g θ μ H ∧ dList [d] μ = some (.lst xs) ∧ ∀ θ' u H', Ext θ H θ' H' → Rel g θ' (μ ++ [.lst xs]) H' → Rp g θ' H' (.r μ.length) u → Q u H'
theorem call_listM (hc : X.calm = true) : CallR X (.type "list") (rListM (gX X LO)) := by
  intro pins s σ H xs us Q I r hh
  obtain ⟨θ, μ, d, u, ys, rfl, h2, rl, e, k⟩ := hh
  have fin : ∀ {vs : List V}, RpL (gX X LO) θ H ys vs → ∀ a, H a = none → Q (.ref a) (upd H a (.lst vs)) := fun {vs} q2 a ha => new_cell (W := W0) (σ := []) (c := .lst ys) rl ha ⟨vs, upd_same, q2.laid ha⟩ (show Post (gX X LO) W0 θ H [] (Rp (gX X LO)) Q (newc (.lst ys) μ) from k)
  unfold dList at e
  dsimp only at e
  split at e
  · rename_i zs hv
    cases e
    obtain ⟨p, vs, z1, q1, q2⟩ := rp_view rl h2 hv
    exact call_list_of pins s σ H _ us Q I r ⟨p, vs, by rw [z1], .inl q1, fun a ha => fin q2 a ha⟩
  · rename_i zs hv
    cases e
    have hv := view_tup hv
    subst hv
    obtain ⟨p, vs, z1, q1, q2⟩ := rp_tup h2
    exact call_list_of pins s σ H _ us Q I r ⟨p, vs, by rw [z1], .inr q1, fun a ha => fin q2 a ha⟩
  · rename_i z hv
    cases e
    have hv := view_v hv
    subst hv
    obtain ⟨e1, hz⟩ := rp_str h2
    exact call_listS hc pins s σ H _ us Q I r ⟨z, by rw [e1], hz, fun a ha => fin (chars_rel _) a ha⟩
  · cases e
theorem de_listM {p : Pos} (hc : X.calm = true) (hm : X.mg "list" = none) (he : DE X LO W a fa) (hg : Gl X "list" := by rfl) (na : starEach [a] X.env = (false, eval a X.env) :: starEach [] X.env := by rfl) (hpl : (backTo pos (starEach [] X.env)).any (·.1) = false := by rfl) : DE X LO W (.Call (.Name "list" p) [a] [] pos) (fListM fa) :=
  pe_imp (pe_callTy (call_listM hc) hg hm (by decide +kernel) (da_cons he da_nil na) (by decide) (by decide) na hpl) fun σ H Q ⟨θ, ρ, μ, re, rl, q⟩ => by
    unfold fListM bnd at q
    refine ⟨θ, ρ, μ, re, rl, ?_⟩
    unfold fAll bnd
    cases hf : fa ρ μ with
    | none => rw [hf] at q; exact q
    | some r =>
      rw [hf] at q
      cases r with
      | ex c m => exact q
      | ok d m =>
        intro θ1 us H1 e1 rl1 r1
        obtain ⟨u, rfl, r2⟩ := rpL_1 r1
        dsimp only at q
        split at q
        · rename_i xs hx
          exact ⟨θ1, m, d, u, xs, rfl, r2, rl1, hx, fun θ2 w H2 e2 => q θ2 w H2 (e1.trans e2)⟩
        · exact q.elim
/-! ### repr -/
def shownD (p : PyData) : Option D := if SeqAt.shaped p = true ∧ p.showable = true ∧ p.shown.length ≤ 16777216 then some (.v (.str p.shown)) else none
mutual
/-- as data, cells seen as they stand -/
def toQ (μ : Mu) : D → Option PyData
  | .tup xs => (toQs μ xs).map .tuple
  | .lst xs => (toQs μ xs).map .list
  | .r n => toP (view μ (.r n))
  | .v x => toP (.v x)
  | _ => none
def toQs (μ : Mu) : List D → Option (List PyData)
  | [] => some []
  | x :: xs => (toQ μ x).bind fun p => (toQs μ xs).map fun ps => p :: ps
end
mutual
theorem dq_of {g : G} {θ : Cs} {H : Hp} {μ : Mu} (rl : Rel g θ μ H) : ∀ {d : D} {u : V} {p : PyData}, Rp g θ H d u → toQ μ d = some p → Dp g.K H u p
  | .v x, u, p, h, e => by
    unfold toQ at e
    exact dp_of h e
  | .tup xs, u, p, h, e => by
    unfold toQ at e
    obtain ⟨q, vs, rfl, h2, h3⟩ := rp_tup h
    cases e2 : toQs μ xs with
    | none => rw [e2] at e; cases e
    | some ps =>
      rw [e2] at e
      cases e
      exact .tup h2 (dqs_of rl h3 e2)
  | .lst xs, u, p, h, e => by
    unfold toQ at e
    obtain ⟨q, vs, rfl, h2, h3⟩ := rp_lst h
    cases e2 : toQs μ xs with
    | none => rw [e2] at e; cases e
    | some ps =>
      rw [e2] at e
      cases e
      exact .lst h2.sq (dqs_of rl h3 e2)
  | .r n, u, p, h, e => by
    unfold toQ at e
    exact dp_view rl h e
  | .exn n, u, p, h, e => by unfold toQ at e; cases e
  | .lam n, u, p, h, e => by unfold toQ at e; cases e
theorem dqs_of {g : G} {θ : Cs} {H : Hp} {μ : Mu} (rl : Rel g θ μ H) : ∀ {ds : List D} {us : List V} {ps : List PyData}, RpL g θ H ds us → toQs μ ds = some ps → DpAll g.K H us ps
  | [], us, ps, h, e => by
    unfold RpL at h
    subst h
    unfold toQs at e
    cases e
    exact .nil
  | d :: ds, us, ps, h, e => by
    unfold RpL at h
    obtain ⟨v, r, rfl, h2, h3⟩ := h
    unfold toQs at e
    cases e1 : toQ μ d with
    | none => rw [e1] at e; cases e
    | some p =>
      rw [e1] at e
      cases e2 : toQs μ ds with
      | none => rw [e2] at e; cases e
      | some qs =>
        rw [e2] at e
        cases e
        exact .cons (dq_of rl h2 e1) (dqs_of rl h3 e2)
end
def dRepr : OpN
  | [d], μ => (toQ μ d).bind shownD
  | _, _ => none
theorem call_reprD {k : Nat} (hr : Rm k X.A) : CallR X (.builtin "repr") (rDn (gX X LO) dRepr) := by
  intro pins s σ H xs us Q I r hh
  obtain ⟨θ, μ, ds, d', h1, rl, e, k⟩ := hh
  unfold dRepr at e
  split at e
  · rename_i d
    obtain ⟨x, rfl, h2⟩ := rpL_1 h1
    obtain ⟨u, rfl, ru⟩ := vals1 r
    cases hp : toQ μ d with
    | none => rw [hp] at e; cases e
    | some p =>
      rw [hp] at e
      have e : shownD p = some d' := e
      unfold shownD at e
      split at e
      · rename_i hc
        cases e
        obtain ⟨c1, c2, c3⟩ := hc
        obtain ⟨as, rd⟩ := Dp.reads I p _ u (dq_of rl h2 hp) ru
        have fin : ∀ (h' : Heap) (w : Tok) (tk : Nat), (∀ b o, s.heap.get? b = some o → h'.get? b = some o) → EP X pins σ Q (.str p.shown w) { s with heap := h', toks := tk } := fun h' w tk hk =>
          ⟨.str p.shown, H, I.kept hk, ⟨_, rfl⟩, k θ _ H (Ext.refl _ _) rl (rp_v (okV_of c3))⟩
        cases rd with
        | none => exact PySem.P.repr_of_none (fin s.heap _ _ fun _ _ z => z)
        | bool b => exact PySem.P.repr_of_bool (fin s.heap _ _ fun _ _ z => z)
        | int i t =>
          refine PySem.P.repr_of_int ?_ (fin s.heap _ _ fun _ _ z => z)
          unfold PyData.showable at c2
          exact of_decide_eq_true c2
        | str z t => exact PySem.P.repr_of_str (fin s.heap _ _ fun _ _ z => z) (line_of c3)
        | list a1 a2 a3 a4 =>
          exact repr_of_reads' (Reads.list a1 a2 a3 a4) c2 (PyData.noDict_hsm (PyData.hasDict_of_canLay _ (SeqAt.canLay_of_shaped c1))) hr.gd (by have := SeqAt.depth_of_shaped c1; have := hr.room.un; omega) (fun _ _ z => z) (fun h' w tk hk => fin h' w tk hk) (line_of c3)
        | tuple a1 a2 a3 a4 =>
          exact repr_of_reads' (Reads.tuple a1 a2 a3 a4) c2 (PyData.noDict_hsm (PyData.hasDict_of_canLay _ (SeqAt.canLay_of_shaped c1))) hr.gd (by have := SeqAt.depth_of_shaped c1; have := hr.room.un; omega) (fun _ _ z => z) (fun h' w tk hk => fin h' w tk hk) (line_of c3)
        | dict a1 a2 a3 a4 a5 =>
          have := SeqAt.canLay_of_shaped c1
          exact repr_of_reads' (Reads.dict a1 a2 a3 a4 a5) c2 (PyData.noDict_hsm (PyData.hasDict_of_canLay _ this)) hr.gd (by have := SeqAt.depth_of_shaped c1; have := hr.room.un; omega) (fun _ _ z => z) (fun h' w tk hk => fin h' w tk hk) (line_of c3)
      · cases e
  · cases e
/-! ### len(set(xs)), ints -/
def lenSetB (ns : List Int) : Nat := (PyProof.Rows.firstMet (fun i => ns.getD i 0) ns.length).length
def fLenSet (fa : FE) : FE := fun ρ => bnd (fa ρ) fun d => lif fun μ => match view μ d with
  | .lst xs => (intsB xs).bind fun ns => if ns.length ≤ 4000 then some (.v (.int (lenSetB ns : Nat))) else none
  | _ => none
theorem de_lenSet {p p2 q : Pos} (hm : X.mg "len" = none) (hm2 : X.mg "set" = none) (hc : X.calm = true) (ha : DE X LO W a fa) (hg : Gl X "len" := by rfl) (hg2 : Gl X "set" := by rfl)
    (na : starEach [a] X.env = (false, eval a X.env) :: starEach [] X.env := by rfl) : DE X LO W (.Call (.Name "len" p) [.Call (.Name "set" p2) [a] [] q] [] pos) (fLenSet fa) := by
  refine ⟨fun pins s σ H Q I h => ?_⟩
  obtain ⟨θ, ρ, μ, re, rl, h⟩ := h
  have h' : lE (gX X LO) W fa σ H fun x H1 => ∃ (l : Addr) (ns : List Int), x = .ref l ∧ SqL X.K H1 l (ns.map V.int) ∧ ns.length ≤ 4000 ∧ Q (.int (lenSetB ns : Nat)) H1 := ⟨θ, ρ, μ, re, rl, post_bnd h fun d μ1 θ1 u H1 e1 rl1 r1 q1 => by
    obtain ⟨d', h1, h2⟩ := post_lif q1
    split at h1
    · rename_i xs hv
      cases hi : intsB xs with
      | none => rw [hi] at h1; cases h1
      | some ns =>
        rw [hi] at h1
        have h1 : (if ns.length ≤ 4000 then some (D.v (.int (lenSetB ns : Nat))) else none) = some d' := h1
        split at h1
        · rename_i hl
          cases h1
          obtain ⟨p, vs, z1, q1, q2⟩ := rp_view rl1 r1 hv
          have hvs := intsB_of q2 hi
          rw [hvs] at q1
          exact ⟨p, ns, z1, q1, hl, h2 θ1 _ H1 (Ext.refl _ _) rl1 (rp_v trivial)⟩
        · cases h1
    · cases h1⟩
  refine Call_ (ld_blt I hg hm boot_len ?_)
  refine PyProof.Rows.callWith_builtin1 (PyProof.Rows.args_cons ?_ rfl) rfl rfl
  refine Call_ (ld_blt I hg2 hm2 boot_set ?_)
  refine PyProof.Rows.callWith_type1 (PyProof.Rows.args_cons (thn (PE.run ha pins s σ H _ I h') fun v s1 ⟨x, H1, I1, r1, l, ns, ex, hq, hl, q1⟩ => PyProof.Rows.args_nil ?_) na) na rfl
  subst ex
  cases r1
  obtain ⟨its, r, pl, hz⟩ := I1.list hq
  have hlen : its.toArray.size = ns.length := by rw [List.size_toArray, ← r.length, List.length_map]
  refine call_set_list (I1.ok.hd hc) pl.isList (by simpa using RZ.intsAre_vals r) (by rw [hlen]; unfold scanBound; omega) fun h' tk hS hk => PyProof.Rows.args_nil ?_
  rw [hlen] at hS
  obtain ⟨o, es, ep, t, ho, hex, hd, _, _, _, hf, hn⟩ := hS
  have hle : lenSetB ns ≤ ns.length := PyProof.Rows.firstMet_length_le _ _
  have I2 : Inv X pins σ H1 { s1 with heap := h', toks := tk } := I1.kept fun b o e => hk b o (Heap.lt_size e) e
  exact call_len_set ho hex hd hf (by rw [hn]; unfold lenSetB at hle; omega) ⟨.int (lenSetB ns : Nat), H1, I2.tok _, ⟨_, by rw [hn]; rfl⟩, q1⟩
end
end Tr
/-! ## TrK -/
set_option Elab.async false
set_option linter.all false
set_option maxRecDepth 100000
set_option maxHeartbeats 2000000
namespace Tr
open PySem PySem.Spec PyProof.Rows L2
/-! ### t[::-1] -/
theorem adjust_back (n : Nat) : Builtin.Slice.sliceAdjust none none (-1) (n : Int) = ((n : Int) - 1, -1) := by
  unfold Builtin.Slice.sliceAdjust
  simp
theorem places_back (n : Nat) : Builtin.Slice.slicePlaces ((n : Int) - 1) (-1) (-1) = n := by
  unfold Builtin.Slice.slicePlaces
  simp
  split <;> omega
theorem filterMap_all {α β : Type} {f : α → Option β} {g : α → β} : ∀ {l : List α}, (∀ m ∈ l, f m = some (g m)) → l.filterMap f = l.map g
  | [], _ => rfl
  | a :: l, h => by
    rw [List.filterMap_cons, h a List.mem_cons_self]
    show g a :: l.filterMap f = g a :: l.map g
    rw [filterMap_all fun m hm => h m (List.mem_cons_of_mem _ hm)]
theorem pick_back (xs : Array Value) : ((List.range xs.size).filterMap fun (m : Nat) => xs[(((xs.size : Nat) : Int) - 1 + (m : Int) * (-1)).toNat]?).toArray = xs.toList.reverse.toArray := by
  have e : (List.range xs.size).filterMap (fun (m : Nat) => xs[(((xs.size : Nat) : Int) - 1 + (m : Int) * (-1)).toNat]?) = xs.toList.reverse := by
    apply List.ext_getElem?
    intro i
    have h1 : (List.range xs.size).filterMap (fun (m : Nat) => xs[(((xs.size : Nat) : Int) - 1 + (m : Int) * (-1)).toNat]?) = (List.range xs.size).map fun m => xs.toList.reverse.getD m .none := by
      refine filterMap_all fun m hm => ?_
      have hm : m < xs.size := List.mem_range.mp hm
      have e1 : ((((xs.size : Nat) : Int) - 1 + (m : Int) * (-1)).toNat) = xs.size - 1 - m := by omega
      rw [e1]
      have hl : m < xs.toList.reverse.length := by simpa using hm
      rw [List.getD_eq_getElem?_getD, List.getElem?_eq_getElem hl]
      simp
    rw [h1]
    by_cases hi : i < xs.size
    · rw [List.getElem?_map, List.getElem?_range hi]
      have hl : i < xs.toList.reverse.length := by simpa using hi
      rw [List.getElem?_eq_getElem hl]
      simp [List.getD_eq_getElem?_getD]
      simp [hi]
    · rw [List.getElem?_eq_none (by simpa using hi), List.getElem?_eq_none (by simpa using hi)]
  rw [e]
theorem getItem_tuple_back {prog : Program} {w : World} {A : Around} {E : Value → Shared → Prop} {s : Shared} {t sl : Addr} {items : Array Value} {vs : Value} {Q : Value → Shared → Prop} (ht : IsTup s.heap t items) (hs : s.heap.IsSliceOf sl .none .none vs) (pl : IsPart vs (some (-1)))
    (h : Q (.ref s.heap.objs.size) { s with heap := s.heap.push { cls := .type "tuple", data := .seq items.toList.reverse.toArray } }) (hsz : items.size ≤ sizeLine) : wpAny (model prog w) A (getItem (.ref t) (.ref sl)) Q E s := by
  have hfit : sizeOk (.seq items.toList.reverse.toArray) := by
    show items.toList.reverse.toArray.size ≤ sizeLine
    rw [List.size_toArray, List.length_reverse, Array.length_toList]
    exact hsz
  obtain ⟨os, hos, hcs, hds⟩ := id hs
  have hTs : s.TypeIs (.ref sl) "slice" := ⟨os, hos, hcs⟩
  unfold getItem
  try with_reducible refine wpAny_holding ?_
  first | refine wpAny_bind (wpAny_pure ?_) | skip
  refine wpAny_bind (wpAny_sequenceKey ht.typeIs (by decide) ?_)
  refine wpAny_bind (wpAny_callSpecial?_slot (name := Str.ofString "__getitem__") ht.typeIs PyProof.Rows.slot_tuple_getitem
    (wpAny_call_entry PyProof.Rows.slot_tuple_getitem ht.typeIs entry_tuple_getitem ?_ (args_tuple_getitem _ _)))
  show wpAny _ _ (Builtin.Tuple.tupleItemsOf (.ref t) >>= _) _ _ s
  refine wpAny_bind (tupleItemsOf_ ht ?_)
  refine wpAny_bind (wpAny_typeOf hTs ?_)
  rw [if_pos (by decide)]
  have applied : ∀ {A' : Around} {E' : Value → Shared → Prop} {Q' : Int × Int × Nat → Shared → Prop}, Q' (((items.size : Nat) : Int) - 1, -1, items.size) s → wpAny (model prog w) A' (Builtin.Slice.sliceApplied (.ref sl) (pure ((items.size : Nat) : Int))) Q' E' s := fun {A' E' Q'} hq => by
    unfold Builtin.Slice.sliceApplied Builtin.Slice.sliceFields
    refine wpAny_bind (wpAny_bind (wpAny_field hos hds (x := .none) rfl (wpAny_bind (wpAny_field hos hds (x := .none) rfl (wpAny_bind (wpAny_field hos hds (x := vs) rfl (wpAny_pure ?_)))))))
    refine wpAny_bind (HT.slicePart_ pl ?_)
    show wpAny _ _ (if ((-1 : Int) == 0) = true then _ else _) _ _ s
    rw [if_neg (by decide)]
    refine wpAny_bind (slicePart_none (wpAny_bind (slicePart_none (wpAny_bind (wpAny_pure ?_)))))
    show wpAny _ _ (match Builtin.Slice.sliceAdjust none none (-1) ((items.size : Nat) : Int) with | (lo, hi) => pure (lo, (-1 : Int), Builtin.Slice.slicePlaces lo hi (-1))) _ _ s
    rw [adjust_back]
    show wpAny _ _ (pure (((items.size : Nat) : Int) - 1, (-1 : Int), Builtin.Slice.slicePlaces (((items.size : Nat) : Int) - 1) (-1) (-1))) _ _ s
    rw [places_back]
    exact wpAny_pure hq
  refine wpAny_bind (applied ?_)
  show wpAny _ _ (if ((((items.size : Nat) : Int) - 1) == 0 && (-1 : Int) == 1 && items.size == items.size) = true then _ else _) _ _ s
  rw [if_neg (by simp), pick_back]
  first
    | exact wpAny_bind (m := Builtin.Tuple.tupleExact _) (wpAny_newObj_type (wpAny_pure ⟨_, rfl, wpAny_pure h⟩) hfit)
    | exact wpAny_bind (m := Builtin.Tuple.tupleExact _) (wpAny_newObj_type (wpAny_bind (wpAny_pure (wpAny_pure ⟨_, rfl, wpAny_pure h⟩))) hfit)
    | exact wpAny_bind (wpAny_bind (m := Builtin.Tuple.tupleExact _) (wpAny_newObj_type (wpAny_pure (wpAny_pure ⟨_, rfl, wpAny_pure h⟩)) hfit))
    | exact wpAny_bind (wpAny_bind (m := Builtin.Tuple.tupleExact _) (wpAny_newObj_type (wpAny_pure ⟨_, rfl, wpAny_pure h⟩) hfit))
section
variable {X : Cx} {LO : LOs} {W : WX} {a e o : Expr} {es : List Expr} {fa fo : FE} {fs kfs : List FE} {pos : Pos}
def tRevT (K : PySem.W.Frag) (te : TE) : TE := fun σ H Q => te σ H fun x H1 => ∃ a xs, x = .ref a ∧ SqT K H1 a xs ∧ xs.length ≤ sizeLine ∧ ∀ p, H1 p = none → Q (.ref p) (upd H1 p (.tup xs.reverse))
theorem pe_revT {te : TE} {k : Nat} {p1 p2 p3 : Pos} (he : PE X e te) : PE X (.Subscript e (.Slice none none (some (.UnaryOp .USub (.Constant (.int 1) k p1) p2)) p3) pos) (tRevT X.K te) := by
  refine ⟨fun pins s σ H Q I h => Subscript_ (thn (he.run pins s σ H _ I h) fun v s1 ⟨x, H1, I1, r1, q1⟩ => ?_)⟩
  obtain ⟨a, xs, ex, hx, hsz, q⟩ := q1
  subst ex
  cases r1
  have back : PO X (some (.UnaryOp .USub (.Constant (.int 1) k p1) p2)) (tPart (tUn (rU fun i => .int (-i)) (tC (.int 1)))) := po_some (pe_un un_neg pe_int)
  refine wpAny_Slice (thn (po_none.run pins s1 σ H1 (fun o H2 => o = none ∧ H2 = H1) I1 ⟨rfl, rfl⟩) fun vl s2 ⟨l, H2, I2, pl, el, e2⟩ => ?_)
  subst el e2
  refine thn (po_none.run pins s2 σ H2 (fun o H3 => o = none ∧ H3 = H2) I2 ⟨rfl, rfl⟩) fun vu s3 ⟨u, H3, I3, pu, eu, e3⟩ => ?_
  subst eu e3
  refine thn (back.run pins s3 σ H3 (fun o H4 => o = some (-1) ∧ H4 = H3) I3 ⟨1, rfl, -1, rfl, rfl, rfl⟩) fun vs s4 ⟨o, H4, I4, ps, eo, e4⟩ => ?_
  subst eo e4
  cases pl
  cases pu
  have I5 : Inv X pins σ H4 { s4 with heap := s4.heap.push { cls := .type "slice", data := .fields #[.none, .none, vs] } } := I4.kept (t' := s4.toks) fun b ob z => Heap.get?_push_of_some _ z
  obtain ⟨its, r, ht, _⟩ := I5.tuple hx
  have hlen := r.length
  show wpAny (model X.prog X.w) X.A (subscriptTail e (.Slice none none (some (.UnaryOp .USub (.Constant (.int 1) k p1) p2)) p3) (.ref a) (.ref s4.heap.objs.size)) (EP X pins σ Q) X.xe { s4 with heap := s4.heap.push { cls := .type "slice", data := .fields #[.none, .none, vs] } }
  refine tail_any (ops := [.ref a, .ref s4.heap.objs.size]) ht.typeIs PyProof.Rows.slot_tuple_getitem.lookup ?_ (by with_unfolding_all rfl)
  refine getItem_tuple_back ht (Heap.IsSliceOf.new _ .none .none vs) ps ?_ (by rw [List.size_toArray, ← hlen]; exact hsz)
  refine ⟨.ref _, _, I5.laid (t' := s4.toks) (o := .tup xs.reverse) (fun b ob z => Heap.get?_push_of_some _ z) (Nat.le_refl _) ?_, rfl, q _ (I5.hok.fresh (Nat.le_refl _))⟩
  exact ⟨by rw [List.length_reverse]; exact hsz, its.reverse, r.reverse, IsTup.new _ _⟩
theorem RpL.reverse {g : G} {θ : Cs} {H : Hp} : ∀ {ds : List D} {us : List V}, RpL g θ H ds us → RpL g θ H ds.reverse us.reverse
  | [], us, h => by
    rw [rpL_nil h]
    unfold RpL
    rfl
  | d :: ds, us, h => by
    obtain ⟨u, r, rfl, h1, h2⟩ := rpL_cons h
    rw [List.reverse_cons, List.reverse_cons]
    exact h2.reverse.append (rpL_one h1)
def fRev (fa : FE) : FE := fun ρ => bnd (fa ρ) fun d => lif fun _ => match d with
  | .tup xs => if xs.length ≤ 16777216 then some (.tup xs.reverse) else none
  | _ => none
theorem de_rev {k : Nat} {p1 p2 p3 : Pos} (he : DE X LO W e fa) : DE X LO W (.Subscript e (.Slice none none (some (.UnaryOp .USub (.Constant (.int 1) k p1) p2)) p3) pos) (fRev fa) :=
  pe_imp (pe_revT he) fun σ H Q ⟨θ, ρ, μ, re, rl, q⟩ => ⟨θ, ρ, μ, re, rl, post_bnd q fun d μ1 θ1 u H1 e1 rl1 r1 q1 => by
    obtain ⟨d', h1, h2⟩ := post_lif q1
    split at h1
    · split at h1
      · rename_i hz
        cases h1
        obtain ⟨p, vs, z1, k1, k2⟩ := rp_tup r1
        exact ⟨p, vs, z1, k1, by rw [← k2.len]; exact line_of hz, fun a ha => new_tup rl1 k2.reverse ha h2⟩
      · cases h1
    · cases h1⟩
end
end Tr
/-! ## TrL -/
set_option Elab.async false
set_option linter.all false
set_option maxRecDepth 100000
set_option maxHeartbeats 2000000
namespace Tr
open PySem PySem.Spec PyProof.Rows L2
/-! ### a caught error that lives on -/
theorem errO_ok {P : Program} {w : World} {H : Hp} {h : Heap} {a : Addr} {cls : Value} {oe : Obj} {vs : Array Value} (g : h.get? a = some oe) (z : Zc cls none oe) (d : oe.data = .fields vs) : ObjOk P w H h a (ErrO cls a) :=
  ⟨⟨oe, vs, g, z, d⟩, ⟨oe, g⟩, fun h1 h2 ⟨oe, vs, a, b, c⟩ st => ⟨oe, vs, st _ a, b, c⟩⟩
/-- a new error is tracked from now on -/
theorem Inv.err {X : Cx} {pins : List (Addr × Obj)} {σ : L2.St} {H : Hp} {s : Shared} {a : Addr} {oe : Obj} {vs : Array Value} {cls : Value} (I : Inv X pins σ H s) (n0 : X.s_0.heap.get? a = none) (na : H a = none) (nL : a ≠ X.env.locals) (hp : ∀ p ∈ X.pn ++ pins, p.1 ≠ a)
    (g : s.heap.get? a = some oe) (z : Zc cls none oe) (d : oe.data = .fields vs) : Inv X pins σ (upd H a (ErrO cls a)) s := by
  have ne : ∀ b o, H b = some o → b ≠ a := fun b o e q => by rw [q, na] at e; cases e
  have ne0 : ∀ b o, X.s_0.heap.get? b = some o → b ≠ a := fun b o e q => by rw [q, n0] at e; cases e
  have neC : ∀ x c, X.env.cells.lookup x = some c → c ≠ a := fun x c e q => by
    obtain ⟨v, o, ho, hd⟩ := I.cell x c e
    rw [q, g] at ho
    cases ho
    rw [d] at hd
    cases hd
  refine ⟨I.ok, I.os, I.bare, ⟨I.base.keep, I.base.slot, fun b o e n hx => ?_, I.base.there, fun b xs e => ?_, fun b o u e => ?_, fun b ps e => ?_⟩, I.loc, I.cell, ?_, fun x c e => ?_, fun p q => ?_, ?_, I.len⟩
  · rw [upd_ne (ne0 b o e)]
    exact I.base.free b o e n hx
  · have q := I.base.tups b xs e
    rw [upd_ne (ne b _ q)]
    exact q
  · have q := I.base.frzs b o u e
    rw [upd_ne (ne b _ q)]
    exact q
  · obtain ⟨m, q⟩ := I.base.tbls b ps e
    exact ⟨m, by rw [upd_ne (ne b _ q)]; exact q⟩
  · rw [upd_ne (Ne.symm nL)]
    exact I.free
  · rw [upd_ne (neC x c e)]
    exact I.freeC x c e
  · obtain ⟨k1, k2, k3⟩ := I.pin p q
    exact ⟨k1, by rw [upd_ne (hp p q)]; exact k2, k3⟩
  · intro b ob e
    by_cases q : b = a
    · rw [q, upd_same] at e
      cases e
      rw [q]
      exact errO_ok g z d
    · rw [upd_ne q] at e
      refine (I.hok b ob e).stay (fun c v hc q => q) (fun c q => ?_) fun c xs q => ?_
      · rw [upd_ne (ne c _ q)]; exact q
      · rw [upd_ne (ne c _ q)]; exact q
/-- what the clause 'except x as n' wishes of an error of the body; behind the clause the error is tracked -/
def wAsT (K : PySem.W.Frag) (c : Value) (i : Nat) (ts : Addr → Value → TS) (Wout : WX) (D : Ends) : WX := fun cls d σ H =>
  d = none ∧ ∃ b, PySem.W.exmOne K cls c = some b ∧ (b = true → ∀ a, H a = none → ts a cls { nx := fun σ' H' => D.nx (σ'.set i none) (upd H' a (ErrO cls a)), rt := fun _ _ => False } (σ.set i (some (.ref a))) H) ∧ (b = false → Wout cls d σ H)
section
variable {X : Cx} {x n : Str} {c : Value} {i : Nat} {body suite : List Stmt} {b₀ : Stmt} {np pos pos' : Pos} {tb : WX → TS} {ts : Addr → Value → TS} {Wout : WX}
theorem ps_try_track (hs : X.stack = X.env :: X.outer) (hf : X.env.frame = some X.env.locals) (hex : X.ex = []) (hN : X.N.Nodup) (hi : X.N[i]? = some n) (hln : X.env.kindOf n = some .local) (hc : Names X x c) (tk : Takes X Wout)
    (hb : ∀ (W : WX) (pn : List (Addr × Obj)) (xe : Value → Shared → Prop), Takes (X.tr pn xe) W → PassesOwn (model X.prog X.w) X.A X.env xe → PSs (X.tr pn xe) body (tb W))
    (hsu : ∀ (a : Addr) (oe : Obj) (cls : Value) (pn : List (Addr × Obj)), Zc cls none oe → (∃ vs, oe.data = .fields vs) → PSs (X.suite a ((a, oe) :: pn)) (b₀ :: suite) (ts a cls)) :
    PS X (.Try body [.ExceptHandler (some (.Name x np)) (some n) (b₀ :: suite) pos'] [] [] pos) (fun D σ H => tb (wAsT X.K c i ts Wout D) D σ H) := by
  refine ⟨fun pins s σ H D I h => ?_⟩
  have ok := I.ok
  have frames : X.A.frames = some (X.env :: X.outer) := by rw [ok.frames, hs]
  refine wpAny_Try_except ?_
  refine wpAny_mono ((hb (wAsT X.K c i ts Wout D) (X.pn ++ pins) (fun e t => wpAny (model X.prog X.w) X.A (noteFrame e X.env) (fun _ t2 => wpAny (model X.prog X.w) X.A (setFlight e none) (fun _ t3 =>
    wpAny (model X.prog X.w) X.A (handleBy e X.env [.ExceptHandler (some (.Name x np)) (some n) (b₀ :: suite) pos']) (SP X pins D) X.xe t3) X.xe t2) X.xe t) (fun u t air => ?_) PassesOwn.looking).run [] s σ H D (I.toTry _) h) (fun f t he => ?_) (fun _ _ q => q)
  rotate_left
  · cases f with
    | next =>
      obtain ⟨τ, H1, J, q⟩ := he
      exact wpAny_execs_nil ⟨τ, H1, J.ofTry ok, q⟩
    | brk =>
      obtain ⟨τ, H1, J, q⟩ := he
      exact ⟨τ, H1, J.ofTry ok, q⟩
    | cont =>
      obtain ⟨τ, H1, J, q⟩ := he
      exact ⟨τ, H1, J.ofTry ok, q⟩
    | ret u =>
      obtain ⟨v, τ, H1, J, r, q⟩ := he
      exact ⟨v, τ, H1, J.ofTry ok, r, q⟩
  obtain ⟨a, B, sI, pins', τ, H1, cls, d, rfl, Jt, nb, up, sky, na, os, ag, hd0, b, hb1, yes, nope⟩ := air
  subst hd0
  have J : Inv X pins τ H1 sI := Jt.ofTry ok
  have Bn : B.get? a = none := by
    rcases sky with z | z | z
    · exact z.2.1
    · exact z.2.1
    · exact z.2.1
  have sky2 : Sky B (X.env :: X.outer) a (Zc cls none) X.env.locals t.heap := by rw [← hs]; exact sky
  show wpAny (model X.prog X.w) X.A (noteFrame (.ref a) X.env) _ _ _
  refine Sky.land Zc.steady frames hf sky2 fun h3 fl up3 => ?_
  have J3 : Inv X pins τ H1 { t with heap := h3 } := J.landed nb fl.1 (up.trans up3) os ag
  obtain ⟨o3, vs3, g3, z3, d3⟩ := fl.there
  have noframe : ∀ {h : Heap} {o : Obj} {vs : Array Value}, h.FunFrames B (X.env :: X.outer) → h.get? a = some o → o.data = .fields vs → a ∉ frs (X.env :: X.outer) := fun {h o vs} ff e dd hm => by
    obtain ⟨_, o', e', hnf⟩ := ff.mem hm
    rw [e] at e'
    cases e'
    exact hnf _ dd
  have nfr := noframe fl.2.2.1 g3 d3
  have nL : a ≠ X.env.locals := fun z => nfr (List.mem_filterMap.mpr ⟨X.env, List.mem_cons_self, by rw [hf, z]⟩)
  have nF : a ∉ X.fs := fun hm => by
    obtain ⟨e, he, q⟩ := List.mem_filterMap.mp hm
    exact nfr (List.mem_filterMap.mpr ⟨e, List.mem_cons_of_mem _ he, q⟩)
  have nI : sI.heap.get? a = none := by
    cases q : sI.heap.get? a with
    | none => rfl
    | some o =>
      have z := nb a o q (by rw [hs]; exact nfr)
      rw [Bn] at z
      cases z
  have n0 : X.s_0.heap.get? a = none := by
    cases q : X.s_0.heap.get? a with
    | none => rfl
    | some o =>
      obtain ⟨o', z⟩ := J.base.there a o q (by rw [hex]; exact fun z => by cases z)
      rw [nI] at z
      cases z
  have nopin : ∀ p ∈ X.pn ++ pins, p.1 ≠ a := fun p hp z => by
    have q := (J.pin p hp).1
    rw [z, nI] at q
    cases q
  have S3 := J3.suite g3 d3 na nL nF
  refine wpAny_handleBy_cons (codeAny_handlers_test ?_) (by intro q; cases q)
  have LT : PySem.W.Looks (model X.prog X.w) h3 (typeOf (.ref a)) cls := fun A Q E s k q => wpAny_typeOf_ref (k _ _ g3) (by rw [z3.1]; exact q)
  have LM := PySem.W.exm_one (M := model X.prog X.w) (J3.kIn) LT hb1
  have test : ∀ {Q : Value → Shared → Prop} {E : Value → Shared → Prop}, Q c { t with heap := h3 } → wpAny (model X.prog X.w) (X.A.mark (some (.ref a))) (eval (.Name x np) X.env) Q E { t with heap := h3 } := fun {Q E} q => by
    obtain ⟨hg, hdbg, hm | ⟨hm, hv, hnn⟩⟩ := hc
    · exact ld_glob (X := X.suite a ((a, o3) :: (X.pn ++ pins))) S3 hg hm q hdbg
    · exact ld_blt (X := X.suite a ((a, o3) :: (X.pn ++ pins))) S3 hg hm hv q hnn hdbg
  refine test (LM.here ?_)
  cases b with
  | false =>
    show wpAny _ X.A (handleBy (.ref a) X.env []) _ _ _
    refine wpAny_handleBy_nil ?_
    obtain ⟨k1, k2, k3, oe, vs, T, oT, ts', he, hz, hd, h1, hr⟩ := id fl
    unfold PySem.passOn
    refine wpAny_bind (wpAny_field he hd h1 ?_)
    rw [if_neg (show ¬ ((Value.ref T == Value.none) = true) from by simp)]
    have last : wpAny (model X.prog X.w) X.A (setFlight (.ref a) X.env.frame) (fun _ t4 => wpAny (model X.prog X.w) X.A (throw (.ref a) : Sem Flow) (SP X pins D) X.xe t4) X.xe { t with heap := h3 } := by
      rw [hf]
      exact HandSPX.setFlight_upZ fl fun h4 hh up4 => wpAny_throw (tk _ _ ⟨a, B, sI, pins, τ, H1, cls, none, rfl, J, nb, (up.trans up3).trans up4, .inr (.inr (by rw [hs]; exact hh)), na, os, ag, nope rfl⟩)
    first
      | exact wpAny_bind (wpAny_pure (wpAny_bind last))
      | exact wpAny_bind last
  | true =>
    refine codeAny_handlers_suite_as ?_
    refine HandSPX.lands_againZ fl fun h4 fl4 up4 => ?_
    have J4 : Inv X pins τ H1 { t with heap := h4 } := J.landed nb fl4.1 ((up.trans up3).trans up4) os ag
    obtain ⟨o4, vs4, g4, z4, d4⟩ := fl4.there
    have S4 := J4.suite g4 d4 na nL nF
    refine store_ok (X := X.suite a ((a, o4) :: (X.pn ++ pins))) (v := .ref a) S4 hN hi (.inl hln) rfl (fun s5 S5 => ?_) (.inr hln)
    refine wpAny_mono ((hsu a o4 cls (X.pn ++ pins) z4 ⟨_, d4⟩).run [] s5 _ H1 _ S5 (yes rfl a na)) (fun f s6 hq => ?_) (fun _ _ z => False.elim z)
    cases f with
    | next =>
      obtain ⟨σ6, H6, S6, q6⟩ := hq
      have pn6 := S6.pin (a, o4) (List.mem_append.mpr (.inl List.mem_cons_self))
      have J6 : Inv X ((a, o4) :: pins) σ6 H6 s6 := (S6.unsuite ok).pins_of fun p hp => by
        rcases List.mem_cons.mp hp with e | hp
        · rw [e]; exact pn6
        · exact (S6.unsuite ok).pin p (List.mem_append_right _ hp)
      refine gone_ok J6 hN hi hln fun s7 J7 => ?_
      have pn7 := J7.pin (a, o4) (List.mem_append.mpr (.inr List.mem_cons_self))
      have J8 : Inv X pins (σ6.set i none) H6 s7 := J7.pins_of fun p hp => J7.pin p (List.mem_append.mpr (.inr (List.mem_cons_of_mem _ hp)))
      exact ⟨_, _, Inv.err J8 n0 pn7.2.1 nL nopin pn7.1 z4 d4, q6⟩
    | brk =>
      obtain ⟨_, _, _, q6⟩ := hq
      exact q6.elim
    | cont =>
      obtain ⟨_, _, _, q6⟩ := hq
      exact q6.elim
    | ret u =>
      obtain ⟨_, _, _, _, _, q6⟩ := hq
      exact q6.elim
end
end Tr
/-! ## TrM -/
set_option Elab.async false
set_option linter.all false
set_option maxRecDepth 100000
set_option maxHeartbeats 2000000
namespace Tr
open PySem PySem.Spec PyProof.Rows L2
/-! ### isinstance of a caught error -/
/-- the own error classes: what is a kind of what -/
def IsaOk (K : PySem.W.Frag) (mg : Str → Option Value) (T : Str → Str → Option Bool) : Prop := ∀ c d b, T c d = some b → ∃ C D, mg c = some (.ref C) ∧ mg d = some (.ref D) ∧ ExcC K C ∧ PySem.W.kitOne K (.ref C) (.ref D) = some b
def fIsExn (T : Str → Str → Option Bool) (cls : Str) (fa : FE) : FE := fun ρ => bnd (fa ρ) fun d => lif fun _ => match d with
  | .exn c => (T c cls).map fun b => .v (.bl b)
  | _ => none
section
variable {X : Cx} {LO : LOs} {W : WX} {a e o : Expr} {es : List Expr} {fa fo : FE} {fs kfs : List FE} {pos : Pos}
def rIsX (K : PySem.W.Frag) : List V → Hp → VK → Prop := fun xs H Q => ∃ a C D b, xs = [.ref a, .ref D] ∧ H a = some (ErrO (.ref C) a) ∧ ExcC K C ∧ PySem.W.kitOne K (.ref C) (.ref D) = some b ∧ Q (.bl b) H
theorem call_isX : CallR X (.builtin "isinstance") (rIsX X.K) := by
  intro pins s σ H xs us Q I r h
  obtain ⟨a, C, D, b, rfl, hH, hC, e, q⟩ := h
  cases r with
  | cons rx rr =>
    cases rr with
    | cons ry rr =>
      cases rr
      cases rx
      cases ry
      obtain ⟨⟨oe, vs, hget, hz, hv⟩, _⟩ := I.hok a _ hH
      have J : PySem.W.InstAt s.heap a oe C none := by
        obtain ⟨k1, k2, k3, k4⟩ := oe
        obtain ⟨z1, z2⟩ := hz
        dsimp only at z1 z2 hv
        subst z1 z2 hv
        exact ⟨hget, rfl, rfl, trivial⟩
      exact PySem.W.kia_one (PySem.W.handS_kitx_exc hC.hg hC.hk hC.hs hC.hd hC.ha hC.hn hC.ht hC.hm) I.kIn J e (fun z => nomatch z) fun tk => ⟨.bl b, H, I.kept (t' := tk) fun _ _ z => z, rfl, q⟩
theorem de_isExn {T : Str → Str → Option Bool} {cls : Str} {p p2 : Pos} (hT : IsaOk X.K X.mg T) (hm : X.mg "isinstance" = none) (he : DE X LO W e fa) (hcl : ∃ D, X.mg cls = some (.ref D)) (hg : Gl X "isinstance" := by rfl) (hg2 : Gl X cls := by rfl) (hdb : (cls == ("__debug__" : Str)) = false := by decide)
    (hs : starEach [e, .Name cls p2] X.env = (false, eval e X.env) :: starEach [.Name cls p2] X.env := by rfl) (hs2 : starEach [Expr.Name cls p2] X.env = (false, eval (.Name cls p2) X.env) :: starEach [] X.env := by rfl) (hpl : (backTo pos (starEach [Expr.Name cls p2] X.env)).any (·.1) = false := by rfl) :
    DE X LO W (.Call (.Name "isinstance" p) [e, .Name cls p2] [] pos) (fIsExn T cls fa) := by
  obtain ⟨D, hD⟩ := hcl
  refine pe_imp (pe_callB call_isX hg hm (by decide +kernel) (pa_cons he (pa_cons (pe_glob (v := V.ref D) hg2 hD rfl hdb) pa_nil hs2) hs) (by decide) (by decide) hs hpl) fun σ H Q ⟨θ, ρ, μ, re, rl, q⟩ => ⟨θ, ρ, μ, re, rl, post_bnd q fun d μ1 θ1 u H1 e1 rl1 r1 q1 => ?_⟩
  obtain ⟨d', h1, h2⟩ := post_lif q1
  split at h1
  · rename_i c
    cases hc : T c cls with
    | none => rw [hc] at h1; cases h1
    | some b =>
      rw [hc] at h1
      cases h1
      obtain ⟨C, D', k1, k2, k3, k4⟩ := hT _ _ _ hc
      rw [hD] at k2
      cases k2
      unfold Rp at r1
      obtain ⟨p, C', rfl, n, k5, k6⟩ := r1
      have k5 : X.mg c = some (.ref C') := k5
      rw [k1] at k5
      cases k5
      exact ⟨p, C, D, b, rfl, k6, k3, k4, h2 θ1 _ H1 (Ext.refl _ _) rl1 (rp_v trivial)⟩
  · cases h1
end
/-! ### lambdas -/
/-- the n-th lambda's object -/
def LamO (qual : Str) (cells : List (Str × Addr)) (params : Arguments) (body : Expr) (scope : Scope) (f c' : Addr) : HO := .ext fun h => ∃ pm ctv, h.get? f = some (PySem.W.kla_obj "<lambda>" (qual ++ "<lambda>") params body scope (cloFrom cells scope.names []) pm c' ctv)
theorem lamO_ok {P : Program} {w : World} {H : Hp} {h : Heap} {f c' : Addr} {qual : Str} {cells : List (Str × Addr)} {params : Arguments} {body : Expr} {scope : Scope} {pm ctv : Value} (g : h.get? f = some (PySem.W.kla_obj "<lambda>" (qual ++ "<lambda>") params body scope (cloFrom cells scope.names []) pm c' ctv)) :
    ObjOk P w H h f (LamO qual cells params body scope f c') := ⟨⟨pm, ctv, g⟩, ⟨_, g⟩, fun h1 h2 ⟨pm, ctv, a⟩ st => ⟨pm, ctv, st _ a⟩⟩
def isTab (μ : Mu) (t : Nat) (q : Str) : Bool := match μ[t]? with
  | some (.tab q') => decide (q' = q)
  | _ => false
/-- the n-th lambda; the table stands as the t-th cell -/
def fLam (t : Nat) (x : Str) (n : Nat) : FE := fun _ μ => if isTab μ t x = true then some (.ok (.lam n) μ) else none
section
variable {X : Cx} {LO : LOs} {W : WX}
theorem de_lam {t n : Nat} {x q : Str} {c P : Addr} {params : Arguments} {body : Expr} {scope : Scope} {pos : Pos} (TB : LamX.TabB X.base X.mg c P) (hcode : X.env.code = .ref c) (hq : X.env.qual ++ "<lambda>" = q) (hxq : lamQual x = q) (htb : PySem.W.tabIn X.K x = some (c, P)) (L : LamX.LamS X.env.scope scope)
    (hfn : ∀ f c', LO.fn n f c' = LamO X.env.qual X.env.cells params body scope f c') (hco : ∀ c', LO.co c' = LamX.CodeO c' q) (hdef : defaultsOf params X.env = ([], []) := by rfl) : DE X LO W (.Lambda params body scope pos) (fLam t x n) := by
  subst hq
  refine ⟨fun pins s σ H Q I ⟨θ, ρ, μ, re, rl, p⟩ => ?_⟩
  unfold fLam at p
  split at p
  · rename_i ht
    unfold isTab at ht
    split at ht
    · rename_i q' hq'
      have ht := of_decide_eq_true ht
      subst ht
      obtain ⟨P', hP', hcell⟩ := rl.ok t _ hq'
      obtain ⟨e1, ps, hP, htr, ha⟩ := hcell
      have e1' : ∃ c, PySem.W.tabIn X.K q' = some (c, P') := e1
      have e1 : P' = P := by
        obtain ⟨c2, z⟩ := e1
        have z : PySem.W.tabIn X.K q' = some (c2, P') := z
        rw [htb] at z
        cases z
        rfl
      subst e1
      rw [hxq] at ha
      have hfree := L.has I.ok
      refine PySem.W.kla_eval hdef ?_
      have bP : s.heap.BuiltinsAt X.mg P' := TB.bm.keeps I.bk
      have hP2 : s.heap.get? P' = some { cls := .none, data := .fields ps } := I.hok P' _ hP
      have noP : θ.no P' := rl.sub P' (List.mem_of_getElem? hP')
      cases hc : codeAmong pos ps.toList with
      | some cv =>
        obtain ⟨c', e, hn, hcode'⟩ := ha pos cv hc
        subst e
        refine PySem.W.kla_makeFunctionHit (mg := X.mg) (c := c) (P := P') (ps := ps) (closure_ok hfree) I.ok.glob (I.mod.glob.keeps I.bk) hcode (TB.code.keeps I.bk) hP2 htr hc bP fun ctv h' tk hx hsz => ?_
        have hf := I.hok.fresh hsz
        have I1 := I.laid (t' := tk) (a := h'.objs.size) (o := LamO X.env.qual X.env.cells params body scope h'.objs.size c') (h' := h'.push (PySem.W.kla_obj "<lambda>" (X.env.qual ++ "<lambda>") params body scope (cloFrom X.env.cells scope.names []) ((X.mg "__name__").getD .none) c' ctv))
          (fun b o e => Heap.get?_push_of_some _ (hx b o e)) hsz (lamO_ok (Heap.get?_push_size _ rfl))
        obtain ⟨e2, rl2, n2⟩ := rl.new (o := LamO X.env.qual X.env.cells params body scope h'.objs.size c') hf
        refine ⟨.ref h'.objs.size, _, I1, rfl, p θ _ _ e2 rl2 ?_⟩
        unfold Rp
        refine ⟨_, c', rfl, n2, ?_, hn, ?_⟩
        · rw [upd_same]
          exact congrArg some (hfn _ _).symm
        · rw [upd_ne (ne_of_none hcode' hf), hcode']
          exact congrArg some (hco _).symm
      | none =>
        refine PySem.W.kla_makeFunction (mg := X.mg) (c := c) (P := P') (ps := ps) (closure_ok hfree) I.ok.glob (I.mod.glob.keeps I.bk) hcode (TB.code.keeps I.bk) hP2 htr hc TB.gP bP fun c' ctv h' tk hx hge hlt hrec htb' => ?_
        obtain ⟨c2, oc, vs, t2, e2, hoc, hd, hv⟩ := hrec
        cases e2
        have I1 := LamX.inv_table (t' := tk) (q := X.env.qual ++ "<lambda>") (more := #[rawInt pos.line, rawInt pos.col, .ref c']) (h' := h') I hP hx htb' hge ⟨oc, vs, t2, hoc, hd, hv⟩
        have I2 := I1.laid (t' := tk) (a := h'.objs.size) (o := LamO X.env.qual X.env.cells params body scope h'.objs.size c') (h' := h'.push (PySem.W.kla_obj "<lambda>" (X.env.qual ++ "<lambda>") params body scope (cloFrom X.env.cells scope.names []) ((X.mg "__name__").getD .none) c' ctv))
          (fun b o e => Heap.get?_push_of_some _ e) (Nat.le_refl _) (lamO_ok (Heap.get?_push_size _ rfl))
        have nC : H c' = none := I.hok.fresh hge
        have neq : P' ≠ c' := ne_of_none hP nC
        have com : upd (upd H P' (.tbl (ps ++ #[rawInt pos.line, rawInt pos.col, .ref c']))) c' (LamX.CodeO c' (X.env.qual ++ "<lambda>")) = upd (upd H c' (LamX.CodeO c' (X.env.qual ++ "<lambda>"))) P' (.tbl (ps ++ #[rawInt pos.line, rawInt pos.col, .ref c'])) := by
          funext b
          by_cases hb : b = c'
          · rw [hb, upd_same, upd_ne (Ne.symm neq), upd_same]
          · by_cases hb2 : b = P'
            · rw [hb2, upd_same, upd_ne neq, upd_same]
            · rw [upd_ne hb, upd_ne hb2, upd_ne hb2, upd_ne hb]
        rw [com] at I2
        obtain ⟨eA, rlA, nA⟩ := rl.new (o := LamX.CodeO c' (X.env.qual ++ "<lambda>")) nC
        have hPA : upd H c' (LamX.CodeO c' (X.env.qual ++ "<lambda>")) P' = some (.tbl ps) := by rw [upd_ne neq]; exact hP
        have eB := rlA.cell (o := .tbl (ps ++ #[rawInt pos.line, rawInt pos.col, .ref c'])) hP' hPA
        have eL : (ps ++ #[rawInt pos.line, rawInt pos.col, .ref c']).toList = ps.toList ++ [rawInt pos.line, rawInt pos.col, .ref c'] := by simp
        have keepC : ∀ b q, ¬ θ.no b → H b = some (LamX.CodeO b q) → upd (upd H c' (LamX.CodeO c' (X.env.qual ++ "<lambda>"))) P' (.tbl (ps ++ #[rawInt pos.line, rawInt pos.col, .ref c'])) b = some (LamX.CodeO b q) := fun b q nb hb =>
          (eB.keep b _ nb (eA.keep b _ nb hb).1).1
        have tabNew : TabT θ (upd (upd H c' (LamX.CodeO c' (X.env.qual ++ "<lambda>"))) P' (.tbl (ps ++ #[rawInt pos.line, rawInt pos.col, .ref c']))) P' (X.env.qual ++ "<lambda>") := ⟨_, upd_same, by rw [eL]; exact PySem.TriplesOk_snoc _ _ _ _ htr, fun p' cv hcv => by
          rw [eL] at hcv
          rcases LamX.among_app (pos := pos) _ htr hcv with z | z
          · obtain ⟨c0, k1, k2, k3⟩ := ha p' cv z
            exact ⟨c0, k1, k2, keepC c0 _ k2 k3⟩
          · exact ⟨c', z, nA, by rw [upd_ne (Ne.symm neq), upd_same]⟩⟩
        have rlB := rlA.put (c := .tab q') hP' eB ⟨e1', by rw [hxq]; exact tabNew⟩
        have same : μ.set t (.tab q') = μ := by
          apply List.ext_getElem?
          intro i
          by_cases hi : t = i
          · subst hi
            rw [List.getElem?_set_self (List.getElem?_eq_some_iff.mp hq').1, hq']
          · rw [List.getElem?_set_ne hi]
        rw [same] at rlB
        have fB : upd (upd H c' (LamX.CodeO c' (X.env.qual ++ "<lambda>"))) P' (.tbl (ps ++ #[rawInt pos.line, rawInt pos.col, .ref c'])) h'.objs.size = none := by
          have z := I1.hok.fresh (Nat.le_refl h'.objs.size)
          rw [com] at z
          exact z
        obtain ⟨eC, rlC, nF⟩ := rlB.new (o := LamO X.env.qual X.env.cells params body scope h'.objs.size c') fB
        refine ⟨.ref h'.objs.size, _, I2, rfl, p θ _ _ ((eA.trans eB).trans eC) rlC ?_⟩
        unfold Rp
        refine ⟨_, c', rfl, nF, ?_, nA, ?_⟩
        · rw [upd_same]
          exact congrArg some (hfn _ _).symm
        · rw [upd_ne (fun z => by rw [← z] at fB; rw [upd_ne (Ne.symm neq), upd_same] at fB; cases fB), upd_ne (Ne.symm neq), upd_same]
          exact congrArg some (hco _).symm
    · cases ht
  · exact p.elim
end
section
variable {X : Cx} {pins : List (Addr × Obj)} {σ : L2.St} {H : Hp} {s : Shared}
/-- a(), in the def that got the lambda as a; Z is that def's context, entered at s; the frame of the lambda's maker is X's -/
theorem act {qg a : Str} {sg : Scope} {g f c' : Addr} {cdg : Value} {Ng : List Str} {params : Arguments} {body : Expr} {scope : Scope} {k i : Nat} {pn : List (Addr × Obj)} {xe : Value → Shared → Prop} {W : WX} {Eg : XK} {tb : XK → TE} {p1 p2 : Pos}
    (I : Inv X pins σ H s) (L : LamX.LamS X.env.scope scope) (hbind : ∀ pm ctv, bindArgs (PySem.W.kla_fn "<lambda>" (X.env.qual ++ "<lambda>") params body scope (cloFrom X.env.cells scope.names []) pm (.ref c') ctv) ⟨[], []⟩ = pure [])
    (tk : Takes ((cxOf (L2.CX X.prog X.w) X.prog X.w X.K X.mg X.base Ng qg sg g cdg X.A X.stack s H Eg).tr pn xe) W) (hr : Rm (k + 1) (X.A.deeper (envOfC qg sg s.heap.objs.size g cdg)))
    (hbody : ∀ (A : Around) (outer : List Env) (s : Shared) (H : Hp) (E : XK), Rm k (A.deeper (LamX.lamEnv X scope s.heap.objs.size f c')) → PE (LamX.lamCx X A outer s H E scope f c') body (tb E))
    (hN : Ng[i]? = some a) (hv : Vis sg a) (hd : (a == ("__debug__" : Str)) = false) (hcd : (a == ("__classdict__" : Str)) = false) :
    PE ((cxOf (L2.CX X.prog X.w) X.prog X.w X.K X.mg X.base Ng qg sg g cdg X.A X.stack s H Eg).tr pn xe) (.Call (.Name a p1) [] [] p2)
      (fun τ G Q => τ[i]? = some (some (.ref f)) ∧ G f = some (LamO X.env.qual X.env.cells params body scope f c') ∧ G c' = some (LamX.CodeO c' (X.env.qual ++ "<lambda>")) ∧ tb (WE W τ) σ G Q) := by
  refine ⟨fun qs t τ G Q J ⟨hs, hL, hC, ht⟩ => ?_⟩
  refine wpAny_Call_Name_kw (thn ((pe_var (pos := p1) (i := i) hN hv hd hcd).run qs t τ G (fun v G1 => v = .ref f ∧ G1 = G) J ⟨.ref f, hs, rfl, rfl⟩) fun u t1 ⟨v, G1, J1, r1, q1, q2⟩ => ?_)
  subst q1 q2
  obtain rfl : u = Value.ref f := r1
  obtain ⟨⟨pm, ctv, of1⟩, _⟩ := J1.hok f _ hL
  obtain ⟨⟨oc, vs, tt, hoc, hdc, hvc⟩, _⟩ := J1.hok c' _ hC
  refine PySem.W.callWith_F0 ⟨_, _, _, _, of1⟩ ?_
  have un : Un (frs X.stack) [] H G1 s.heap t1.heap := J1.base
  have run : codeAny (model X.prog X.w) (X.A.deeper (envOfC qg sg s.heap.objs.size g cdg)) (.call (.ref f) ⟨[], []⟩) (CR (L2.CX X.prog X.w) (envOfC qg sg s.heap.objs.size g cdg :: X.stack) X.prog X.w G1 t1 Q (WE W τ)) t1 := by
    refine PySem.W.kla_callFunE hr.room.depth of1 rfl L.co L.gen rfl ⟨c', oc, vs, tt, rfl, hoc, hdc, hvc⟩ ?_
    rw [hbind]
    refine wpAny_pure (wpAny_newFunctionEnv (fun y hy => (L.own y hy).2) (fun y hy => absurd hy (by simp)) (fun h₁ hns hsb => ⟨J1.nolimit.fresh _ hsb, ?_⟩) L.kind)
    show codeAny _ _ (.expr body (LamX.lamEnv X scope t1.heap.objs.size f c')) _ _
    have kp : ∀ b o, t1.heap.get? b = some o → h₁.get? b = some o := fun b o e => hsb.extBut b o (Nat.ne_of_lt (Heap.lt_size e)) (Heap.get?_push_of_some _ e)
    have M : Inv (LamX.lamCx X (X.A.deeper (envOfC qg sg s.heap.objs.size g cdg)) (envOfC qg sg s.heap.objs.size g cdg :: X.stack) t1 G1 (WE W τ) scope f c') [] σ G1 { t1 with heap := h₁, toks := t1.toks + ([] : List (Str × Value)).length } :=
      LamX.lam_start2 I L J1.env0 hr.room.hd un hns kp
    refine PySem.W.kla_codeExpr (wpAny_mono ((hbody _ _ t1 G1 (WE W τ) (hr.deeper _)).run [] _ _ G1 Q M ht) (fun v t2 hq => ?_) fun e t2 hq => hq)
    obtain ⟨w', G2, M2, rv, q⟩ := hq
    exact ⟨w', G2, M2.os, M2.bare, M2.base, M2.hok, rv, q⟩
  have hx := passAt tk τ
  refine wpAny_call (codeAny_mono run fun r t2 hq => ?_)
  cases r with
  | error e => exact hx qs G1 t1 e t2 J1 hq
  | ok fl =>
    cases fl with
    | ret u => exact J1.after hq
    | next => exact False.elim hq
    | brk => exact False.elim hq
    | cont => exact False.elim hq
end
/-- what a lambda of the frame is -/
structure LamD where
  params : Arguments
  body : Expr
  scope : Scope
/-- try: action() / except own error as error: found = error / return found -/
def fCaught (own : Str → Bool) (fb : Nat → FE) (fa : FE) : FE := fun ρ => bnd (fa ρ) fun d => match d with
  | .lam n => fun μ => match fb n ρ μ with
    | some (.ok _ μ') => some (.ok (.v .non) μ')
    | some (.ex c μ') => if own c = true then some (.ok (.exn c) μ') else none
    | none => none
  | _ => no
section
variable {X : Cx} {LO : LOs} {W : WX} {e : Expr} {fa : FE} {pos : Pos}
theorem de_caught {k : Nat} {xg a found err hx : Str} {st : Stmt} {g : Addr} {fd : FuncData} {c : Value} {own : Str → Bool} {fb : Nat → FE} {lams : Nat → LamD} {p pA pB pC p1 p2 p3 np pD pE pF pG pH pT pT' : Pos} {jn : Nat}
    (F : Fun X.K xg xg st g fd) (bd : Binds X.K fd [a] []) (S : FnScope [a, found, err] [a] (defScope st)) (hm : X.mg xg = some (.ref g)) (hr : Rm (k + 2) X.A) (tk : Takes X W) (ha : DE X LO W e fa)
    (hst : defBody st = [.Assign [.Name found pA] (.Constant .none jn pB) pC, .Try [.Expr (.Call (.Name a p1) [] [] p2) p3] [.ExceptHandler (some (.Name hx np)) (some err) [.Assign [.Name found pD] (.Name err pE) pF] pT'] [] [] pT, .Return (some (.Name found pG)) pH])
    (la : (defScope st).names.lookup a = some .local) (lf : (defScope st).names.lookup found = some .local) (le : (defScope st).names.lookup err = some .local) (lh : (defScope st).names.lookup hx = some .globalImplicit)
    (da : (a == ("__debug__" : Str)) = false ∧ (a == ("__classdict__" : Str)) = false) (df : (found == ("__debug__" : Str)) = false ∧ (found == ("__classdict__" : Str)) = false) (de : (err == ("__debug__" : Str)) = false ∧ (err == ("__classdict__" : Str)) = false) (dh : (hx == ("__debug__" : Str)) = false)
    (hmh : X.mg hx = some c) (hown : ∀ n, own n = true → ∀ C, X.mg n = some (.ref C) → PySem.W.exmOne X.K (.ref C) c = some true)
    (hL : ∀ n, LamX.LamS X.env.scope (lams n).scope) (hfn : ∀ n f c', LO.fn n f c' = LamO X.env.qual X.env.cells (lams n).params (lams n).body (lams n).scope f c') (hco : ∀ c', LO.co c' = LamX.CodeO c' (X.env.qual ++ "<lambda>"))
    (hbind : ∀ n (q : Str) (cl : List (Str × Addr)) (pm cv ctv : Value), bindArgs (PySem.W.kla_fn "<lambda>" q (lams n).params (lams n).body (lams n).scope cl pm cv ctv) ⟨[], []⟩ = pure [])
    (hbody : ∀ n (A : Around) (outer : List Env) (s : Shared) (H : Hp) (E : XK) (f c' : Addr), Rm k (A.deeper (LamX.lamEnv X (lams n).scope s.heap.objs.size f c')) → DE (LamX.lamCx X A outer s H E (lams n).scope f c') LO (WD E) (lams n).body (fb n))
    (hs1 : ∀ env : Env, swapsWith (.Constant .none jn pB) (some (.Name found pA)) pC.line env = pure false) (hs2 : ∀ env : Env, env.scope = defScope st → swapsWith (.Name err pE) (some (.Name found pD)) pF.line env = pure false) (hs3 : ∀ env : Env, swapsWith (.Call (.Name a p1) [] [] p2) none p3.line env = pure false)
    (hg : Gl X xg := by rfl) (hdb : (xg == ("__debug__" : Str)) = false := by decide) (he : starEach [e] X.env = (false, eval e X.env) :: starEach [] X.env := by rfl) :
    DE X LO W (.Call (.Name xg p) [e] [] pos) (fCaught own fb fa) := by
  refine ⟨fun pins s σ H Q I hl => ?_⟩
  obtain ⟨θ, ρ, μ, re, rl, pq⟩ := hl
  refine wpAny_Call_Name_kw (ld_glob I hg hm ?_ hdb)
  have pq2 : Post (gX X LO) W θ H σ (RpL (gX X LO)) (fun vs H1 => ∃ θ1 μ1 n f c', vs = [.ref f] ∧ REnv (gX X LO) θ1 H1 σ ρ ∧ Rel (gX X LO) θ1 μ1 H1 ∧ Rp (gX X LO) θ1 H1 (.lam n) (.ref f) ∧ H1 f = some (LO.fn n f c') ∧ H1 c' = some (LO.co c') ∧
      Post (gX X LO) W θ1 H1 σ (Rp (gX X LO)) Q (match fb n ρ μ1 with
        | some (.ok _ μ') => some (.ok (.v .non) μ')
        | some (.ex c μ') => if own c = true then some (.ok (.exn c) μ') else none
        | none => none)) (fAll [fa] ρ μ) := by
    unfold fCaught bnd at pq
    unfold fAll bnd
    cases hf : fa ρ μ with
    | none => rw [hf] at pq; exact pq
    | some r =>
      rw [hf] at pq
      cases r with
      | ex c m => exact pq
      | ok d m =>
        intro θ1 us H1 e1 rl1 r1
        obtain ⟨u, rfl, r2⟩ := rpL_1 r1
        dsimp only at pq
        split at pq
        · rename_i n
          have r3 := r2
          unfold Rp at r3
          obtain ⟨f, c', rfl, n1, h1, n2, h2⟩ := r3
          exact ⟨θ1, m, n, f, c', rfl, re.ext e1, rl1, r2, h1, h2, Post.ext e1 pq⟩
        · exact pq.elim
  refine PySem.W.callWith_K (h₀ := X.base) I.ok.mod.kin F.kp (thn (PA.run (da_cons ha da_nil he) pos pins s σ H _ I ⟨θ, ρ, μ, re, rl, pq2⟩) fun us s1 ⟨vs, H1, I1, r, θ1, μ1, n, f, c', ev, re1, rl1, rf, hLf, hCc, pq3⟩ => ⟨I1.kIn, ?_⟩) he (by rfl)
  subst ev
  obtain ⟨oc, od, kV, doc, pm, an, cdv, ct, osl, rfl, lk, hcd⟩ := F.ex
  have run : codeAny (model X.prog X.w) X.A (.call (.ref g) ⟨us, []⟩) (CR (L2.CX X.prog X.w) X.stack X.prog X.w H1 s1 Q (WE W σ)) s1 := by
    have hus : us.length = 1 := by rw [← r.length]; rfl
    have b := bd s1 us I1.kIn (by rw [List.append_nil, hus]; rfl)
    rw [List.append_nil] at b
    refine LamX.run_ofS (CX := L2.CX X.prog X.w) (N := [a, found, err]) (ps := [a]) (us := us) (vs := [.ref f]) lk hcd S hr.room I1.env0 b r rfl fun hr' => ?_
    have hrZ : Rm (k + 1) (X.A.deeper (envOfC xg (defScope st) s1.heap.objs.size g cdv)) := ⟨hr', hr.gd⟩
    have Nd := S.nd
    have tset := ps_set (X := cxOf (L2.CX X.prog X.w) X.prog X.w X.K X.mg X.base [a, found, err] xg (defScope st) g cdv X.A X.stack s1 H1 (WE W σ)) (i := 1) (x := found) (pos := pC) (pos' := pA) Nd rfl (.inl lf) (pe_non (j := jn) (pos := pB)) (hs1 _) (.inl rfl)
    have tret := ps_ret (X := cxOf (L2.CX X.prog X.w) X.prog X.w X.K X.mg X.base [a, found, err] xg (defScope st) g cdv X.A X.stack s1 H1 (WE W σ)) (pos := pH) (pe_var (i := 1) (x := found) (pos := pG) rfl (.inl lf) df.1 df.2)
    have ttry := ps_try_track (X := cxOf (L2.CX X.prog X.w) X.prog X.w X.K X.mg X.base [a, found, err] xg (defScope st) g cdv X.A X.stack s1 H1 (WE W σ)) (x := hx) (n := err) (c := c) (i := 2) (np := np) (pos := pT) (pos' := pT') (Wout := fun _ _ _ _ => False)
      (tb := fun W' D τ G => τ[0]? = some (some (.ref f)) ∧ G f = some (LamO X.env.qual X.env.cells (lams n).params (lams n).body (lams n).scope f c') ∧ G c' = some (LamX.CodeO c' (X.env.qual ++ "<lambda>")) ∧ lE (gX X LO) (WD (WE W' τ)) (fb n) σ G (fun _ G' => D.nx τ G'))
      (ts := fun a cls D τ G => ∃ u, τ[2]? = some (some u) ∧ D.nx (τ.set 1 (some u)) G) rfl rfl rfl Nd rfl le ⟨lh, dh, .inl hmh⟩ LamX.takes0
      (fun W' pn xe tk' _ => pss_one (ps_expr (pos := p3) (act (tb := fun E => lE (gX X LO) (WD E) (fb n)) (i := 0) I1 (hL n) (fun pm ctv => hbind n _ _ _ _ _) tk' hrZ (fun A outer s H E hrm => hbody n A outer s H E f c' hrm) rfl (.inl la) da.1 da.2) (hs3 _)))
      (fun a' oe cls pn _ _ => pss_one (ps_set (i := 1) (x := found) (pos := pF) (pos' := pD) Nd rfl (.inl lf) (pe_var (i := 2) (x := err) (pos := pE) rfl (.inl le) de.1 de.2) (hs2 _ rfl) (.inl rfl)))
    refine ⟨_, by rw [show defBody st = _ from hst]; exact pss_cons tset (pss_cons ttry (pss_one tret)), ?_⟩
    have hLf : H1 f = some (LamO X.env.qual X.env.cells (lams n).params (lams n).body (lams n).scope f c') := by rw [hLf, hfn]
    have hCc : H1 c' = some (LamX.CodeO c' (X.env.qual ++ "<lambda>")) := by rw [hCc, hco]
    refine ⟨rfl, hLf, hCc, θ1, ρ, μ1, re1, rl1, ?_⟩
    cases hF : fb n ρ μ1 with
    | none => rw [hF] at pq3; exact pq3
    | some r =>
      rw [hF] at pq3
      cases r with
      | ok d μ' => exact fun θ' u H' e1 rl' r' => ⟨.non, rfl, pq3 θ' _ H' e1 rl' (rp_v trivial)⟩
      | ex cn μ' =>
        dsimp only at pq3
        split at pq3
        · rename_i ho
          intro θ' H' C e1 rl' hmC
          refine ⟨rfl, true, hown cn ho C hmC, fun _ a' na => ?_, fun z => by cases z⟩
          obtain ⟨e2, rl2, n2⟩ := rl'.new (o := ErrO (.ref C) a') na
          refine ⟨.ref a', rfl, .ref a', rfl, pq3 θ' _ _ (e1.trans e2) rl2 ?_⟩
          unfold Rp
          exact ⟨a', C, rfl, n2, hmC, upd_same⟩
        · exact pq3.elim
  have hx := passAt tk σ
  refine wpAny_call (codeAny_mono run fun r s2 hq => ?_)
  cases r with
  | error e => exact hx pins H1 s1 e s2 I1 hq
  | ok fl =>
    cases fl with
    | ret u => exact I1.after hq
    | next => exact False.elim hq
    | brk => exact False.elim hq
    | cont => exact False.elim hq
end
end Tr
/-! ## TrN -/
set_option Elab.async false
set_option linter.all false
set_option maxRecDepth 100000
set_option maxHeartbeats 2000000
namespace Tr
open PySem PySem.Spec PyProof.Rows L2
/-! ### parts of a def, by their place -/
def noE : Expr := .Constant .none 0 ⟨0, 0, 0, 0⟩
def noS : Stmt := .Pass ⟨0, 0, 0, 0⟩
def kidS : Stmt → Nat → Stmt
  | .For _ _ b _ _, i => b.getD i noS
  | .If _ b c _, i => if i < 1000 then b.getD i noS else c.getD (i - 1000) noS
  | _, _ => noS
def kidE : Stmt → Expr
  | .For _ it _ _ _ => it
  | .If t _ _ _ => t
  | .Return (some e) _ => e
  | .Assign _ e _ => e
  | .Expr e _ => e
  | _ => noE
def kid : Expr → Nat → Expr
  | .List es _, i => es.getD i noE
  | .Tuple es _ _, i => es.getD i noE
  | .Call _ es _ _, i => es.getD i noE
  | .UnaryOp _ a _, _ => a
  | .BoolOp _ es _, i => es.getD i noE
  | .Compare a _ es _, i => (a :: es).getD i noE
  | .BinOp a _ b _, i => if i = 0 then a else b
  | .ListComp e _ _ _, _ => e
  | _, _ => noE
def lamOf : Expr → LamD
  | .Lambda p b s _ => ⟨p, b, s⟩
  | _ => ⟨{ posonlyargs := [], args := [], vararg := none, kwonlyargs := [], kw_defaults := [], kwarg := none, defaults := [] }, noE, { kind := .function, names := [], isGenerator := false, isCoroutine := false, more := [] }⟩
section
variable {P : Program} {w : World} {K : PySem.W.Frag} {mg : Str → Option Value} {base : Heap}
theorem fn_none {x qual : Str} {st : Stmt} {f : Addr} {fd : FuncData} {ps : List Str} {k : Nat} (F : Fun K x qual st f fd) (gm : mg x = some (.ref f)) (bd : Binds K fd ps []) : FnAt P w K mg base k f fd ps x (fun _ _ => none) :=
  ⟨⟨fun vs H Q E ⟨_, _, _, _, _, _, p⟩ => p.elim, fun A outer s H args us vs Q E hr e0 hb hv ⟨_, _, _, _, _, _, p⟩ => p.elim⟩, gm, F.kp, bd⟩
theorem kb_of {x qual : Str} {st : Stmt} {f : Addr} {fd : FuncData} {ps ks : List Str} {n : Nat} {perm : List Nat} (F : Fun K x qual st f fd)
    (h : ∀ (kV doc pm : Value) (an : Option Addr) (cdv ct : Value) (us ws : List Value), us.length = n → ws.length = ks.length → bindArgs (PySem.W.fnOf x qual (defArgs st) (defBody st) (defScope st) .none kV doc pm an cdv ct) ⟨us, ks.zip ws⟩ = pure (ps.zip (permL perm (us ++ ws)))) : KB K fd ps n ks perm := by
  refine ⟨fun s us ws _ l1 l2 => ?_⟩
  obtain ⟨oc, od, kV, doc, pm, an, cdv, ct, osl, rfl, lk, hcd⟩ := F.ex
  exact .of_eq (h kV doc pm an cdv ct us ws l1 l2)
theorem FnAt.kw {k n : Nat} {f : Addr} {fd : FuncData} {ps ks : List Str} {x : Str} {F : List D → M D} {perm : List Nat} (h : FnAt P w K mg base k f fd ps x F) (b : KB K fd ps n ks perm) : FnKw P w K mg base k x F n ks perm := ⟨f, fd, ps, h, b⟩
theorem FnAt.lift {j k : Nat} {f : Addr} {fd : FuncData} {ps : List Str} {x : Str} {F : List D → M D} (h : FnAt P w K mg base j f fd ps x F) (l : j ≤ k) : FnAt P w K mg base k f fd ps x F :=
  ⟨⟨h.ok.len, fun A outer s H args us vs Q E hr e0 hb hv q => h.ok.go A outer s H args us vs Q E (hr.mono l) e0 hb hv q⟩, h.gm, h.kp, h.bd⟩
end
end Tr
/-! ## TrS0 -/
set_option Elab.async false
set_option linter.all false
set_option maxRecDepth 100000
set_option maxHeartbeats 4000000
/-! Sets of texts, made and sorted. -/
namespace Tr
open PySem PySem.Spec PyProof.Rows L2
/-- the text that an entry holds -/
def txOf (e : Int × Value) : Str := match e.2 with
  | .str k _ => k
  | _ => ⟨#[]⟩
def TxE (P : Program) (w : World) (e : Int × Value) : Prop := ∃ k tk, e.2 = Value.str k tk ∧ e.1 = (PySem.strKind P w).hash k
/-- entries and table of a set that holds just the texts of S -/
structure TxS (P : Program) (w : World) (S : Str → Bool) (es : Array (Int × Value)) (t : SetTable) : Prop where
  good : ∀ e ∈ es.toList, TxE P w e
  nd : (es.toList.map txOf).Nodup
  mem : ∀ k, S k = true ↔ k ∈ es.toList.map txOf
  room : es.size < scanBound
  fit : t.fits es.size = true
  ris : Ris t.place.toList
  led : w.params.followText "set-order" = true ∨ t.led = true
/-- the set's object, not above its texts' number -/
def TxO (P : Program) (w : World) (h : Heap) (a : Addr) (S : Str → Bool) (n : Nat) : Prop := ∃ o es ep t, h.get? a = some o ∧ o.ExactSet ∧ o.data = .set es ep t ∧ es.size ≤ n ∧ TxS P w S es t
section
variable {P : Program} {w : World} {A : Around} {E : Value → Shared → Prop} {s : Shared} {a : Addr} {S : Str → Bool} {n : Nat}
theorem is_tx (k : Str) (tk : Tok) : (PySem.strKind P w).is k (.str k tk) = true := by
  show Value.isStrOf k (.str k tk) = true
  simp [Value.isStrOf]
theorem txE_is {e : Int × Value} (g : TxE P w e) (k : Str) : (PySem.strKind P w).is k e.2 = true ↔ txOf e = k := by
  obtain ⟨k0, tk, h, _⟩ := g
  rw [show txOf e = k0 by unfold txOf; rw [h]]
  constructor
  · intro q
    obtain ⟨t, q2⟩ := Value.isStrOf_shape q
    rw [h] at q2
    cases q2
    rfl
  · rintro rfl
    rw [h]
    exact is_tx _ _
theorem TxS.elems {es : Array (Int × Value)} {t : SetTable} (g : TxS P w S es t) : ElemsOf (PySem.strKind P w) es.toList := fun e he => by
  obtain ⟨k, tk, h, hh⟩ := g.good e he
  refine ⟨⟨k, ?_, hh⟩, ?_⟩ <;> rw [h]
  · exact is_tx k tk
  · rfl
/-- behind the store of a new entry: the table may be laid anew -/
theorem tx_store {gave : Bool → Sem Unit} (hg : ∀ (b : Bool) (s' : Shared) (Q' : Unit → Shared → Prop), Q' () s' → wpAny (model P w) A (gave b) Q' E s')
    {o : Obj} {es0 es : Array (Int × Value)} {ep : Nat} {t0 t : SetTable} (ho : s.heap.get? a = some o) (hx : o.ExactSet) (hd : o.data = .set es0 ep t0) (g : TxS P w S es t) {dummy : Bool} {R : Option Bool → Shared → Prop}
    (hR : ∀ h', Heap.SameBut a s.heap h' → TxO P w h' a S es.size → R (some true) { s with heap := h' }) :
    wpAny (model P w) A (do
        storeSet a es t
        if (!dummy && t.tooFull) = true then
          (do gave (relayAll t es (SetTable.grown es.size)).2.2
              storeSet a (relayAll t es (SetTable.grown es.size)).1 (relayAll t es (SetTable.grown es.size)).2.1
              pure (some true))
        else pure (some true)) R E s := by
  have put : ∀ {h : Heap} {o : Obj} {x : Array (Int × Value)} {e : Nat} {y : SetTable} (x' : Array (Int × Value)) (y' : SetTable), h.get? a = some o → o.data = .set x e y → (h.update a (Obj.putSet x' y')).get? a = some { o with data := .set x' (e + 1) y' } := fun x' y' h1 h2 => by
    have z := Heap.get?_update_self (Obj.putSet x' y') h1 (by rw [putSet_of x' y' h2]; rfl)
    rwa [putSet_of x' y' h2] at z
  refine wpAny_bind (wpAny_storeSet_of ho hd ?_ (fits_of_scanBound g.room))
  have o1 := put es t ho hd
  have b1 := Heap.SameBut.update s.heap a (Obj.putSet es t)
  by_cases hc : (!dummy && t.tooFull) = true
  · rw [if_pos hc]
    have p := relayAll_perm t es (SetTable.grown es.size)
    have f := relayAll_fits t es (SetTable.grown es.size)
    have r := relayAll_ris t es (SetTable.grown es.size)
    have l := relayAll_led t es (SetTable.grown es.size)
    generalize relayAll t es (SetTable.grown es.size) = Z at *
    obtain ⟨es', t', gv⟩ := Z
    have sz : es'.size = es.size := by
      have := p.length_eq
      simpa using this
    have rm : es'.size < scanBound := by rw [sz]; exact g.room
    refine wpAny_bind (hg _ _ _ (wpAny_bind (wpAny_storeSet_of o1 rfl ?_ (fits_of_scanBound rm))))
    have pk := p.map txOf
    exact wpAny_pure (hR _ (b1.trans (Heap.SameBut.update _ a _)) ⟨_, es', _, t', put es' t' o1 rfl, hx, rfl, Nat.le_of_eq sz,
      ⟨fun e he => g.good e (p.mem_iff.mp he), pk.nodup_iff.mpr g.nd, fun k => (g.mem k).trans pk.mem_iff.symm, rm, f, r, g.led.imp_right fun z => by rw [l]; exact z⟩⟩)
  · rw [if_neg hc]
    exact wpAny_pure (hR _ b1 ⟨_, es, _, t, o1, hx, rfl, Nat.le_refl _, g⟩)
/-- a text put in -/
theorem tx_add {k : Str} {tk : Tok} {Q : Bool → Shared → Prop} (O : TxO P w s.heap a S n) (room : n + 1 < scanBound)
    (hQ : ∀ h' b, Heap.SameBut a s.heap h' → TxO P w h' a (fun j => S j || decide (j = k)) (n + 1) → Q b { s with heap := h' }) :
    wpAny (model P w) A (setAddHashed a (.str k tk) ((PySem.strKind P w).hash k)) Q E s := by
  obtain ⟨o, es, ep, t, ho, hx, hd, hn, g⟩ := O
  have kis := is_tx (P := P) (w := w) k tk
  have ksc : (Value.str k tk).scannable = true := rfl
  have el := g.elems
  unfold setAddHashed setAddHashedIn
  refine wpAny_holding (wpAny_bind (wpAny_setState_of ho hd g.fit ?_))
  dsimp only
  rw [byScan_of ksc g.room el]
  simp only [↓reduceIte]
  unfold setAddByScan
  refine wpAny_bind (wpAny_bind (wpAny_rule (wpAny_bind (wpAny_setScan_of kis ho hd g.fit el ?_))))
  cases hf : List.findIdx? (fun e => (PySem.strKind P w).is k e.2) es.toList with
  | some j =>
    dsimp only
    obtain ⟨hj, pj, _⟩ := List.findIdx?_eq_some_iff_getElem.mp hf
    have hm : k ∈ es.toList.map txOf := List.mem_map.mpr ⟨_, List.getElem_mem hj, (txE_is (g.good _ (List.getElem_mem hj)) k).mp pj⟩
    have hS := (g.mem k).mpr hm
    refine wpAny_pure (wpAny_pure (hQ s.heap _ (Heap.SameBut.refl a s.heap) ⟨o, es, ep, t, ho, hx, hd, Nat.le_succ_of_le hn, ⟨g.good, g.nd, fun i => ?_, g.room, g.fit, g.ris, g.led⟩⟩))
    rw [← g.mem i, Bool.or_eq_true, decide_eq_true_eq]
    exact ⟨fun z => z.elim id fun e => by rw [e]; exact hS, Or.inl⟩
  | none =>
    dsimp only
    have hm : k ∉ es.toList.map txOf := fun z => by
      obtain ⟨e, he, q⟩ := List.mem_map.mp z
      have c := List.findIdx?_eq_none_iff.mp hf e he
      rw [(txE_is (g.good e he) k).mpr q] at c
      cases c
    have way : ∀ (b : Bool) (s' : Shared) (Q' : Unit → Shared → Prop), Q' () s' → wpAny (model P w) A (match b with | true => rule "set.scan.the-table-gave-way" | false => pure ()) Q' E s' := fun b s' Q' q => match b with
      | true => wpAny_rule q
      | false => wpAny_pure q
    have p := layNew_perm t es ((PySem.strKind P w).hash k) (.str k tk)
    have f := layNew_fits t es ((PySem.strKind P w).hash k) (.str k tk)
    have r := layNew_ris t es ((PySem.strKind P w).hash k) (.str k tk) g.ris
    have l := layNew_led t es ((PySem.strKind P w).hash k) (.str k tk)
    generalize layNew t es ((PySem.strKind P w).hash k) (.str k tk) = Z at *
    obtain ⟨es1, t1, dummy, gave⟩ := Z
    dsimp only at p f r l ⊢
    rw [Array.toList_push] at p
    have pc := p.trans (List.perm_append_singleton _ _)
    have pk := pc.map txOf
    rw [List.map_cons, show txOf ((PySem.strKind P w).hash k, Value.str k tk) = k from rfl] at pk
    have sz : es1.size = es.size + 1 := by
      have := pc.length_eq
      simpa using this
    have mk : ∀ t2 : SetTable, t2.fits es1.size = true → t2.place = t1.place → t2.led = t1.led → TxS P w (fun j => S j || decide (j = k)) es1 t2 := fun t2 h1 h2 h3 => ⟨fun e he => by
        rcases List.mem_cons.mp (pc.mem_iff.mp he) with z | z
        · rw [z]; exact ⟨k, tk, rfl, rfl⟩
        · exact g.good e z, pk.nodup_iff.mpr (List.nodup_cons.mpr ⟨hm, g.nd⟩), fun i => by
        rw [pk.mem_iff, List.mem_cons, ← g.mem i, Bool.or_eq_true, decide_eq_true_eq]
        exact Or.comm, by omega, h1, by rw [h2]; exact r, g.led.imp_right fun z => by rw [h3, l]; exact z⟩
    have fin : ∀ h', Heap.SameBut a s.heap h' → TxO P w h' a (fun j => S j || decide (j = k)) es1.size → Q true { s with heap := h' } := fun h' sb ⟨o', x, e', y, z1, z2, z3, z4, z5⟩ => hQ h' true sb ⟨o', x, e', y, z1, z2, z3, by omega, z5⟩
    refine wpAny_bind (way _ _ _ ?_)
    split
    · refine wpAny_bind ?_
      rw [hashByValue_scannable 8 ksc]
      refine wpAny_pure (tx_store (fun b s' Q' q => way b s' Q' q) ho hx hd (mk _ ?_ ?_ ?_) fun h' sb z => ?_)
      · split
        · exact SetTable.fits_plain_off f
        · exact f
      · split <;> rfl
      · split <;> rfl
      · dsimp only
        exact wpAny_pure (fin h' sb z)
    · refine wpAny_bind (wpAny_pure ?_)
      simp only [↓reduceIte]
      refine tx_store (fun b s' Q' q => way b s' Q' q) ho hx hd (mk t1 f rfl rfl) fun h' sb z => ?_
      dsimp only
      exact wpAny_pure (fin h' sb z)
end
end Tr
/-! ## TrS1 -/
set_option Elab.async false
set_option linter.all false
set_option maxRecDepth 100000
set_option maxHeartbeats 4000000
namespace Tr
open PySem PySem.Spec PyProof.Rows L2
section
variable {P : Program} {w : World} {A : Around} {R : Result → Shared → Prop} {I : Addr} {fp wr : List Addr} {G : Array GenState → Array GenState → Prop} {n : Nat} {Pv : Nat → Value → Prop} {St : Nat → Shared → Prop}
/-- the texts met below i -/
def metS (val : Nat → Str) (i : Nat) : Str → Bool := fun k => (List.range i).any fun j => decide (k = val j)
theorem metS_succ (val : Nat → Str) (i : Nat) : metS val (i + 1) = fun k => metS val i k || decide (k = val i) := by
  funext k
  unfold metS
  rw [List.range_succ, List.any_append]
  simp
/-- the walk that puts all of an iterator's texts in -/
theorem tx_loop (W : WalksS P w A.in1 I fp wr G n Pv St) (a : Addr) (ha : a ∉ fp) (val : Nat → Str) (hval : ∀ i v, Pv i v → ∃ t, v = .str (val i) t) (hb : n + 1 < scanBound) (hR : ∀ (s0 : Shared), True) :
    ∀ (k i : Nat) (s : Shared), n - i = k → i ≤ n → St i s → TxO P w s.heap a (metS val i) i →
      (∀ s', Moved (a :: wr) G s s' → TxO P w s'.heap a (metS val n) n → R (.ok (.ret .none)) s') → codeAny (model P w) A (.builtin "set.update.loop" ⟨[.ref a, .ref I], []⟩) R s
  | 0, i, s, hk, hi, hst, hO, h => by
    obtain rfl : i = n := by omega
    refine codeAny_builtin PyProof.Rows.F.entry_set_update_loop ?_
    rw [Around.under_plainId PyProof.Rows.F.plain_set_update_loop _]
    refine wpAny_bind (m := pyNext (.ref I)) (W.done s _ _ hst fun s' hm => wpAny_pure (h s' (hm.mono fun b hb => List.mem_cons_of_mem _ hb) ?_))
    obtain ⟨o, es, ep, t, ho, z⟩ := hO
    exact ⟨o, es, ep, t, hm.heap a _ (fun q => ha (W.sub _ q)) ho, z⟩
  | k + 1, i, s, hk, hi, hst, hO, h => by
    have hlt : i < n := by omega
    refine codeAny_builtin PyProof.Rows.F.entry_set_update_loop ?_
    rw [Around.under_plainId PyProof.Rows.F.plain_set_update_loop _]
    refine wpAny_bind (m := pyNext (.ref I)) (W.item i s _ _ hlt hst fun v s1 hP hst1 hm => ?_)
    obtain ⟨t, rfl⟩ := hval i v hP
    have hO1 : TxO P w s1.heap a (metS val i) i := by
      obtain ⟨o, es, ep, tb, ho, z⟩ := hO
      exact ⟨o, es, ep, tb, hm.heap a _ (fun q => ha (W.sub _ q)) ho, z⟩
    refine wpAny_bind (m := holding [Value.str (val i) t] (setAdd a (.str (val i) t))) (wpAny_holding ?_)
    unfold setAdd
    refine wpAny_holding (wpAny_bind ((PySem.strKind P w).pyHash (k := val i) (is_tx _ _) ?_))
    refine tx_add (s := { s1 with toks := s1.toks + 1 }) hO1 (by omega) fun h2 b sb hO2 => ?_
    rw [← metS_succ] at hO2
    have kp : ∀ c ∈ fp, ∀ o, s1.heap.get? c = some o → h2.get? c = some o := fun c hc o e => by
      rw [sb.2 c fun q => ha (q ▸ hc)]
      exact e
    refine wpAny_pure ⟨plainId_quiet PyProof.Rows.F.plain_set_update_loop _, tx_loop W a ha val hval hb hR k (i + 1) _ (by omega) hlt (W.frame _ s1 _ _ hst1 (Nat.le_succ _) kp) hO2 fun s2 hm2 hO3 => h s2 (Moved.trans W.gtrans ((hm.mono fun b hb => List.mem_cons_of_mem _ hb).then_heap (Nat.le_succ _) fun c o hc e => ?_) hm2) hO3⟩
    rw [sb.2 c fun q => hc (by rw [q]; exact List.mem_cons_self)]
    exact e
end
section
variable {P : Program} {w : World} {A : Around} {E : Value → Shared → Prop} {s : Shared}
abbrev led0 (w : World) : Bool := !w.params.followText "set-order"
abbrev emptyS (w : World) : Obj := { cls := .type "set", dict := none, data := .set #[] 0 (.fresh 0 0 (led0 w)) }
theorem code_new_tx (u : Value) {Q1 : Value → Shared → Prop} (h : Q1 (.ref s.heap.objs.size) { s with heap := s.heap.push (emptyS w) }) : codeAny (model P w) A (.call (.builtin "set.__new__") ⟨[.type "set", u], []⟩) (wants Q1 E) s := by
  refine codeAny_of_tree (show wpAny _ A.in1 (do checkBuiltinCall "set.__new__" ⟨[.type "set", u], []⟩; again (.builtin "set.__new__" ⟨[.type "set", u], []⟩)) _ _ s from ?_)
  refine wpAny_bind (wpAny_of_eq (PySem.F.newCall_set_1 u) (wpAny_pure ⟨plainId_quiet F.plain_set_new _, codeAny_builtin F.entry_set_new ?_⟩))
  rw [Around.under_plainId F.plain_set_new _]
  unfold Builtin.«set.__new__» Builtin.Frozenset.newClass
  have hsub := sub_set_self
  obtain ⟨h0, g0, d0, t0, o0⟩ := s
  dsimp only
  wp_walk
  refine wpAny_askSetting (wpAny_pure ?_)
  dsimp only
  simp only [newObj]
  exact wpAny_bind (wpAny_alloc (wpAny_pure (wpAny_pure h)))
end
end Tr
/-! ## TrS2 -/
set_option Elab.async false
set_option linter.all false
set_option maxRecDepth 100000
set_option maxHeartbeats 4000000
namespace Tr
open PySem PySem.Spec PyProof.Rows L2
section
variable {P : Program} {w : World} {A : Around} {E : Value → Shared → Prop} {s : Shared}
abbrev signV (x : Str) (i : Nat) : Str := ⟨#[x.cps.getD i 0]⟩
/-- what set(x) has made -/
def Made1 (P : Program) (w : World) (s : Shared) (x : Str) (h' : Heap) : Prop := TxO P w h' s.heap.objs.size (metS (signV x) x.cps.size) x.cps.size ∧ ∀ b o, b < s.heap.objs.size → s.heap.get? b = some o → h'.get? b = some o
theorem emptyS_ok : TxO P w (s.heap.push (emptyS w)) s.heap.objs.size (metS (signV x) 0) 0 := by
  refine ⟨_, #[], 0, _, Heap.get?_push_size _ rfl, ⟨rfl, rfl, rfl⟩, rfl, Nat.le_refl _, ⟨fun e he => by simp at he, by simp, fun k => by simp [metS], by decide, rfl, List.Pairwise.nil, ?_⟩⟩
  show _ ∨ led0 w = true
  unfold led0
  cases w.params.followText "set-order"
  · exact .inr rfl
  · exact .inl rfl
set_option maxHeartbeats 6400000 in
theorem init_tx {x : Str} {t : Tok} (hh : A.handled = none) (hl : x.cps.size + 1 < scanBound) {Pq : Fin → Shared → Prop} (hR : ∀ h' tk, Made1 P w s x h' → Pq (.done (.ret .none)) { s with heap := h', toks := tk }) :
    wpAny (model P w) A (Builtin.«set.__init__» ⟨[.ref s.heap.objs.size, .str x t], []⟩) Pq E { s with heap := s.heap.push (emptyS w) } := by
  have hsls := F.sub_str_set
  have hslf := F.sub_str_frozenset
  have hne : (Value.type "str" == Value.type "dict") = false := by decide
  have hS : (s.heap.push (emptyS w)).get? s.heap.objs.size = some (emptyS w) := Heap.get?_push_size _ rfl
  unfold Builtin.«set.__init__» noKeywords Builtin.Frozenset.updateFrom
  generalize hPI : pyIter = PI
  wp_walk
  subst hPI
  refine wpAny_pyIter_str fun o St W hst => wpAny_bind (wpAny_runValue ?_)
  have hz : (s.heap.push (emptyS w)).objs.size = s.heap.objs.size + 1 := Heap.size_push _ _
  have hfp : s.heap.objs.size ∉ [(s.heap.push (emptyS w)).objs.size] := fun q => by
    rw [List.mem_singleton, hz] at q
    omega
  have hO : TxO P w ((s.heap.push (emptyS w)).push o) s.heap.objs.size (metS (signV x) 0) 0 := by
    obtain ⟨o', es, ep, tb, ho, z⟩ := emptyS_ok (P := P) (w := w) (s := s) (x := x)
    exact ⟨o', es, ep, tb, Heap.get?_push_of_some _ ho, z⟩
  refine tx_loop ((W A.in1 (by simp [hh])).toS) s.heap.objs.size hfp (signV x) (fun i v ⟨c, u, h1, h2⟩ => ⟨u, by rw [h2]; unfold signV; rw [Array.getD_eq_getD_getElem?, h1]; rfl⟩) hl (fun _ => trivial) (x.cps.size - 0) 0 { s with heap := (s.heap.push (emptyS w)).push o } rfl (Nat.zero_le _) hst hO fun s1 hm hO1 => ?_
  obtain ⟨h1, g1, d1, t1, o1⟩ := s1
  obtain rfl : g1 = s.gens := hm.gens
  obtain rfl : d1 = s.drawn := hm.drawn
  obtain rfl : o1 = s.os := hm.os
  refine wpAny_pure (wpAny_pure (hR h1 t1 ⟨hO1, fun b ob hb e => hm.heap b ob (fun q => ?_) (Heap.get?_push_of_some _ (Heap.get?_push_of_some _ e))⟩))
  rcases List.mem_cons.mp q with q | q
  · exact Nat.ne_of_lt hb q
  · rw [List.mem_singleton, hz] at q
    exact Nat.ne_of_lt (Nat.lt_succ_of_lt hb) q
theorem call_set_tx {x : Str} {t : Tok} {Q : Value → Shared → Prop} (hh : A.handled = none) (hl : x.cps.size + 1 < scanBound) (hQ : ∀ h' tk, Made1 P w s x h' → Q (.ref s.heap.objs.size) { s with heap := h', toks := tk }) : wpAny (model P w) A (call (.type "set") [.str x t]) Q E s := by
  obtain ⟨c, tl, hmro⟩ := F.called_set.mro
  have m1 := F.called_set.made
  have m2 := F.called_set.sub
  refine wpAny_call (codeAny_of_tree (show wpAny _ _ (callAny (.type "set") _) _ _ _ from wpAny_pure ⟨Code.quiet_builtin _ (by decide +kernel), codeAny_builtin F.entry_type_call ?_⟩))
  rw [Around.under_plain (weight_type_call_type "set" [.str x t] []) rfl]
  have m3 := F.called_set.notType
  have m4 := F.called_set.canCreate
  have m5 := F.typeCall_set_1 (.str x t)
  repeat (any_goals (first | assumption | wp_step))
  refine codeAny_mono (code_new_tx (w := w) (.str x t) (E := E) (Q1 := fun obj s1 => obj = .ref s.heap.objs.size ∧ s1 = { s with heap := s.heap.push (emptyS w) }) ⟨rfl, rfl⟩) fun r s1 hr => ?_
  cases r with
  | error e => exact hr
  | ok fl =>
    cases fl with
    | ret obj =>
      obtain ⟨rfl, rfl⟩ := hr
      have hT : Shared.TypeIs { s with heap := s.heap.push (emptyS w) } (.ref s.heap.objs.size) "set" := ⟨_, Heap.get?_push_size _ rfl, rfl⟩
      have m6 := F.called_set.init.lookup
      have m7 := F.called_set.init.bind (.ref s.heap.objs.size)
      repeat (any_goals (first | assumption | wp_step))
      refine codeAny_mono (codeAny_call_builtin (R := wants (fun r s2 => r = .none ∧ ∃ h' tk, s2 = { s with heap := h', toks := tk } ∧ Made1 P w s x h') E) F.called_set.init.plain F.entry_set_init (check_set_init_1 hT ?_)) fun r2 s2 hr2 => ?_
      · exact init_tx (s := s) (t := t) (A := A.in1.in1) (by simp [hh]) hl fun h' tk m => ⟨rfl, h', tk, rfl, m⟩
      · cases r2 with
        | error e => exact hr2
        | ok f2 =>
          cases f2 with
          | ret u =>
            obtain ⟨rfl, h', tk, rfl, m⟩ := hr2
            repeat (any_goals (first | assumption | wp_step))
            exact hQ _ _ m
          | _ => exact hr2.elim
    | _ => exact hr.elim
end
end Tr
/-! ## TrS3 -/
set_option Elab.async false
set_option linter.all false
set_option maxRecDepth 100000
set_option maxHeartbeats 4000000
namespace Tr
open PySem PySem.Spec PyProof.Rows L2
section
variable {P : Program} {w : World} {A : Around} {E : Value → Shared → Prop} {s : Shared}
theorem strs_by : ∀ (l : List Value), (∀ v ∈ l, ∃ k tk, v = Value.str k tk) → StrsAre l (l.map PyProof.Rows.strOf) := strsAre_map
/-- sorted(texts of a set) -/
theorem sorted_tx {a : Addr} {S : Str → Bool} {n : Nat} {Q : Value → Shared → Prop} (O : TxO P w s.heap a S n) (hh : A.handled = none) (h64 : n < 64)
    (hQ : ∀ s' p (out : Array Value) (c : Nat) (ks : List Str), (∀ b o, s.heap.get? b = some o → s'.heap.get? b = some o) → s'.gens = s.gens → s'.os = s.os → s.heap.objs.size ≤ p →
      s'.heap.get? p = some (seqObj "list" out c) → StrsAre out.toList ks → sortedS ks = true → ks.Nodup → (∀ k, k ∈ ks ↔ S k = true) → ks.length ≤ n → Q (.ref p) s') : wpAny (model P w) A (call (.builtin "sorted") [.ref a]) Q E s := by
  obtain ⟨o, es, ep, t, ho, hx, hd, hn, g⟩ := O
  refine Calls.call_function_entry kind_sorted plain_sorted entry_sorted (args_sorted1 _) ?_
  unfold Builtin.«sorted»
  refine wpAny_bind (m := checkCount "sorted" 1 1 _) (wpAny_pure (wpAny_bind (collect_set (A := A.in1) hh ⟨o, ho, hx.1, hd⟩ g.fit g.room g.ris g.led fun s1 vs k1 hz g1 o1 pm => ?_)))
  have lv : vs.length ≤ n := by
    rw [pm.length_eq, List.length_map, Array.length_toList]
    exact hn
  have st : StrsAre vs (vs.map PyProof.Rows.strOf) := strs_by vs fun v hv => by
    obtain ⟨e, he, q⟩ := List.mem_map.mp (pm.mem_iff.mp hv)
    obtain ⟨k, tk, h1, _⟩ := g.good e he
    exact ⟨k, tk, by rw [← q]; exact h1⟩
  have pk : (vs.map PyProof.Rows.strOf).Perm (es.toList.map txOf) := by
    have q := pm.map PyProof.Rows.strOf
    rw [List.map_map] at q
    exact q
  refine wpAny_bind (wpAny_newList ?_ (by rw [sizeLine_eq]; omega))
  have oL : (s1.heap.push (seqObj "list" vs.toArray 0)).get? s1.heap.objs.size = some (seqObj "list" vs.toArray 0) := Heap.get?_push_size _ rfl
  refine wpAny_bind (wpAny_holding (wpAny_call_entry slot_list_sort ⟨_, oL, rfl⟩ entry_list_sort (list_sort_treeK strKind_oneLt oL st.keysOf (fun v1 v2 r e => keyKind_strs (by rw [← e]; exact st)) (by omega) fun st' hp hs => ⟨_, rfl, ?_⟩) (args_list_sort _)))
  obtain ⟨ks, a1, a2, a3⟩ := sorted_out_str st hp hs
  obtain ⟨c, hc⟩ := sortedHeap_at (vs := vs) (out := (arrOf st').map (·.2)) oL
  have pn := a2.trans pk
  refine wpAny_pure ⟨_, rfl, hQ _ s1.heap.objs.size _ c ks (fun b u e => ?_) g1 o1 hz hc a1 a3 (pn.nodup_iff.mpr g.nd) (fun k => by rw [pn.mem_iff, ← g.mem k]) ?_⟩
  · have q := k1 b u e
    have lt := Heap.lt_size q
    show (sortedHeap (s1.heap.push (seqObj "list" vs.toArray 0)) s1.heap.objs.size vs _).get? b = _
    rw [sortedHeap_old (Nat.ne_of_lt lt) (by rw [size_push']; exact Nat.lt_succ_of_lt lt)]
    exact Heap.get?_push_of_some _ q
  · rw [pn.length_eq, List.length_map, Array.length_toList]
    exact hn
end
/-! ### the plain side: sorted signs -/
def insU (x : Nat) : List Nat → List Nat
  | [] => [x]
  | y :: ys => if x < y then x :: y :: ys else if x = y then y :: ys else y :: insU x ys
/-- the signs of a text, each once, rising -/
def sortU (l : List Nat) : List Nat := l.foldr insU []
abbrev UpN (l : List Nat) : Prop := l.Pairwise (· < ·)
theorem insU_in {x y : Nat} : ∀ {l : List Nat}, y ∈ insU x l ↔ y = x ∨ y ∈ l
  | [] => by simp [insU]
  | z :: l => by
    unfold insU
    by_cases h1 : x < z
    · rw [if_pos h1]; simp
    · rw [if_neg h1]
      by_cases h2 : x = z
      · rw [if_pos h2, h2]; simp
      · rw [if_neg h2, List.mem_cons, insU_in (l := l), List.mem_cons]
        constructor
        · rintro (h | h | h)
          · exact .inr (.inl h)
          · exact .inl h
          · exact .inr (.inr h)
        · rintro (h | h | h)
          · exact .inr (.inl h)
          · exact .inl h
          · exact .inr (.inr h)
theorem insU_rise {x : Nat} : ∀ {l : List Nat}, UpN l → UpN (insU x l)
  | [], _ => by simp [insU]
  | z :: l, h => by
    obtain ⟨h1, h2⟩ := List.pairwise_cons.mp h
    unfold insU
    by_cases c1 : x < z
    · rw [if_pos c1]
      exact List.pairwise_cons.mpr ⟨fun y hy => (List.mem_cons.mp hy).elim (fun e => e ▸ c1) fun hy => Nat.lt_trans c1 (h1 y hy), h⟩
    · rw [if_neg c1]
      by_cases c2 : x = z
      · rw [if_pos c2]; exact h
      · rw [if_neg c2]
        refine List.pairwise_cons.mpr ⟨fun y hy => ?_, insU_rise h2⟩
        rcases insU_in.mp hy with e | hy
        · rw [e]; omega
        · exact h1 y hy
theorem sortU_rise : ∀ l : List Nat, UpN (sortU l)
  | [] => List.Pairwise.nil
  | x :: l => insU_rise (sortU_rise l)
theorem sortU_in {y : Nat} : ∀ {l : List Nat}, y ∈ sortU l ↔ y ∈ l
  | [] => Iff.rfl
  | x :: l => by
    show y ∈ insU x (sortU l) ↔ _
    rw [insU_in, sortU_in, List.mem_cons]
/-- rising lists of the same members are the same -/
theorem rise_eq : ∀ {l m : List Nat}, UpN l → UpN m → (∀ x, x ∈ l ↔ x ∈ m) → l = m
  | [], [], _, _, _ => rfl
  | [], y :: m, _, _, h => absurd ((h y).mpr List.mem_cons_self) (List.not_mem_nil)
  | x :: l, [], _, _, h => absurd ((h x).mp List.mem_cons_self) (List.not_mem_nil)
  | x :: l, y :: m, hl, hm, h => by
    obtain ⟨l1, l2⟩ := List.pairwise_cons.mp hl
    obtain ⟨m1, m2⟩ := List.pairwise_cons.mp hm
    have e : x = y := by
      rcases List.mem_cons.mp ((h x).mp List.mem_cons_self) with e | e
      · exact e
      · rcases List.mem_cons.mp ((h y).mpr List.mem_cons_self) with e2 | e2
        · exact e2.symm
        · have := m1 x e
          have := l1 y e2
          omega
    subst e
    rw [rise_eq l2 m2 fun z => ?_]
    constructor
    · intro hz
      rcases List.mem_cons.mp ((h z).mp (List.mem_cons_of_mem _ hz)) with e | e
      · have := l1 z hz
        omega
      · exact e
    · intro hz
      rcases List.mem_cons.mp ((h z).mpr (List.mem_cons_of_mem _ hz)) with e | e
      · have := m1 z hz
        omega
      · exact e
theorem ones_of : ∀ {ks : List Str}, (∀ k ∈ ks, ∃ c : Nat, k = ⟨#[c]⟩) → ∃ cs : List Nat, ks = cs.map fun c => (⟨#[c]⟩ : Str)
  | [], _ => ⟨[], rfl⟩
  | k :: ks, h => by
    obtain ⟨c, rfl⟩ := h k List.mem_cons_self
    obtain ⟨cs, rfl⟩ := ones_of fun x hx => h x (List.mem_cons_of_mem _ hx)
    exact ⟨c :: cs, rfl⟩
theorem rising_ones : ∀ {p : Nat} {cs : List Nat}, risingS ⟨#[p]⟩ (cs.map fun c => ⟨#[c]⟩) = true → (p :: cs).Pairwise (· ≤ ·)
  | p, [], _ => by simp
  | p, c :: cs, h => by
    rw [List.map_cons] at h
    unfold risingS at h
    rw [Bool.and_eq_true] at h
    have ih := rising_ones h.2
    have le : p ≤ c := by
      have h1 := h.1
      rw [ltCps_eq] at h1
      have h1 : (!decide ([c] < [p])) = true := h1
      rw [Bool.not_eq_true', decide_eq_false_iff_not] at h1
      rcases Nat.lt_or_ge c p with q | q
      · exact absurd (List.Lex.rel q) h1
      · exact q
    refine List.pairwise_cons.mpr ⟨fun y hy => ?_, ih⟩
    rcases List.mem_cons.mp hy with e | hy
    · rw [e]; exact le
    · exact Nat.le_trans le ((List.pairwise_cons.mp ih).1 y hy)
theorem sorted_ones {cs : List Nat} (h : sortedS (cs.map fun c => ⟨#[c]⟩) = true) (hn : (cs.map fun c => (⟨#[c]⟩ : Str)).Nodup) : UpN cs := by
  have le : cs.Pairwise (· ≤ ·) := by
    cases cs with
    | nil => exact List.Pairwise.nil
    | cons p cs => exact rising_ones h
  have nd : cs.Nodup := List.Pairwise.of_map (fun c => (⟨#[c]⟩ : Str)) (fun a b hab e => hab (by rw [e])) hn
  refine List.Pairwise.imp ?_ (le.and nd)
  intro a b h
  omega
end Tr
/-! ## TrS -/
set_option Elab.async false
set_option linter.all false
set_option maxRecDepth 100000
set_option maxHeartbeats 4000000
namespace Tr
open PySem PySem.Spec PyProof.Rows L2
/-- sorted(set(text)) -/
def fSortSet (fa : FE) : FE := fun ρ => bnd (fa ρ) fun d => lif fun _ => match d with
  | .v (.str z) => if z.length ≤ 60 then some (.lst ((sortU z.cps.toList).map fun c => .v (.str ⟨#[c]⟩))) else none
  | _ => none
section
variable {X : Cx} {LO : LOs} {W : WX} {a : Expr} {fa : FE} {pos : Pos}
theorem metS_iff {x : Str} {k : Str} : metS (signV x) x.cps.size k = true ↔ ∃ c ∈ x.cps.toList, k = ⟨#[c]⟩ := by
  unfold metS
  rw [List.any_eq_true]
  constructor
  · rintro ⟨i, hi, e⟩
    have hi := List.mem_range.mp hi
    refine ⟨x.cps[i], by simp, ?_⟩
    rw [of_decide_eq_true e]
    unfold signV
    rw [Array.getD_eq_getD_getElem?, Array.getElem?_eq_getElem hi]
    rfl
  · rintro ⟨c, hc, rfl⟩
    obtain ⟨i, hi, e⟩ := List.getElem_of_mem hc
    have hi2 : i < x.cps.size := by simpa using hi
    refine ⟨i, List.mem_range.mpr hi2, decide_eq_true ?_⟩
    unfold signV
    rw [Array.getD_eq_getD_getElem?, Array.getElem?_eq_getElem hi2]
    rw [Array.getElem_toList] at e
    rw [e]
    rfl
/-- what sorted(set(x)) shows -/
theorem sorted_is {x : Str} {ks : List Str} (h1 : sortedS ks = true) (h2 : ks.Nodup) (h3 : ∀ k, k ∈ ks ↔ metS (signV x) x.cps.size k = true) : ks = (sortU x.cps.toList).map fun c => ⟨#[c]⟩ := by
  obtain ⟨cs, rfl⟩ := ones_of (ks := ks) fun k hk => by
    obtain ⟨c, _, e⟩ := metS_iff.mp ((h3 k).mp hk)
    exact ⟨c, e⟩
  congr 1
  refine rise_eq (sorted_ones h1 h2) (sortU_rise _) fun c => ?_
  rw [sortU_in]
  constructor
  · intro hc
    obtain ⟨c', hc', e⟩ := metS_iff.mp ((h3 _).mp (List.mem_map.mpr ⟨c, hc, rfl⟩))
    cases e
    exact hc'
  · intro hc
    obtain ⟨c', hc', e⟩ := List.mem_map.mp ((h3 _).mpr (metS_iff.mpr ⟨c, hc, rfl⟩))
    cases e
    exact hc'
theorem de_sortSet {p p2 q : Pos} (hm : X.mg "sorted" = none) (hm2 : X.mg "set" = none) (hc : X.calm = true) (ha : DE X LO W a fa) (hg : Gl X "sorted" := by rfl) (hg2 : Gl X "set" := by rfl)
    (na : starEach [a] X.env = (false, eval a X.env) :: starEach [] X.env := by rfl) : DE X LO W (.Call (.Name "sorted" p) [.Call (.Name "set" p2) [a] [] q] [] pos) (fSortSet fa) := by
  refine ⟨fun pins s σ H Q I h => ?_⟩
  obtain ⟨θ, ρ, μ, re, rl, h⟩ := h
  have h' : lE (gX X LO) W fa σ H fun x H1 => ∃ z : Str, x = .str z ∧ z.length ≤ 60 ∧ ∀ l, H1 l = none → Q (.ref l) (upd H1 l (.lst ((sortU z.cps.toList).map fun c => V.str ⟨#[c]⟩))) := ⟨θ, ρ, μ, re, rl, post_bnd h fun d μ1 θ1 u H1 e1 rl1 r1 q1 => by
    obtain ⟨d', h1, h2⟩ := post_lif q1
    split at h1
    · rename_i z
      split at h1
      · rename_i hz
        cases h1
        exact ⟨z, (rp_str r1).1, hz, fun l hl => new_lst rl1 (chars_rel _) hl h2⟩
      · cases h1
    · cases h1⟩
  refine Call_ (ld_blt I hg hm (show bootBuiltins "sorted" = some (.builtin "sorted") by decide +kernel) ?_)
  refine PyProof.Rows.callWith_builtin1 (PyProof.Rows.args_cons ?_ rfl) rfl rfl
  refine Call_ (ld_blt I hg2 hm2 boot_set ?_)
  refine PyProof.Rows.callWith_type1 (PyProof.Rows.args_cons (thn (PE.run ha pins s σ H _ I h') fun v s1 ⟨x, H1, I1, r1, z, ex, hz, q1⟩ => PyProof.Rows.args_nil ?_) na) na rfl
  subst ex
  obtain ⟨t, rfl⟩ := r1
  have hz2 : z.cps.size ≤ 60 := hz
  have hs : z.cps.size + 1 < scanBound := by unfold scanBound; omega
  refine call_set_tx (I1.ok.hd hc) hs fun h' tk ⟨hO, hk⟩ => PyProof.Rows.args_nil ?_
  have I2 : Inv X pins σ H1 { s1 with heap := h', toks := tk } := I1.kept fun b o e => hk b o (Heap.lt_size e) e
  have hO : TxO X.prog X.w ({ s1 with heap := h', toks := tk } : Shared).heap s1.heap.objs.size (metS (signV z) z.cps.size) z.cps.size := hO
  generalize ({ s1 with heap := h', toks := tk } : Shared) = s2 at I2 hO ⊢
  refine sorted_tx hO (I2.ok.hd hc) (Nat.lt_of_le_of_lt hz2 (by decide)) fun s' p out c ks k g o hp hget hst hso hnd hmem hle => ?_
  have ek := sorted_is hso hnd hmem
  have hlen : (ks.map V.str).length ≤ sizeLine := by
    rw [List.length_map, sizeLine_eq]
    omega
  have hn : H1 p = none := I2.hok.fresh hp
  have J : Inv X pins σ (upd H1 p (.lst (ks.map V.str))) { s2 with heap := s'.heap, gens := s'.gens, drawn := s'.drawn, toks := s'.toks } := I2.call (ch := []) (Un.laid k hp hn) (I2.hok.laid k hp ⟨hlen, out.toList, c, vals_of_strs hst, hget⟩) (by rw [g]; exact I2.bare) (fun _ z => nomatch z)
  have e : s' = { s2 with heap := s'.heap, gens := s'.gens, drawn := s'.drawn, toks := s'.toks } := by
    obtain ⟨h2, g2, d2, t2, o2⟩ := s'
    obtain rfl : o2 = s2.os := o
    rfl
  rw [e]
  have eq : (ks.map V.str) = (sortU z.cps.toList).map fun c => V.str ⟨#[c]⟩ := by
    rw [ek, List.map_map]
    rfl
  rw [eq] at J
  exact ⟨.ref p, _, J, rfl, q1 p hn⟩
end
end Tr
/-! ## TrO -/
set_option Elab.async false
set_option linter.all false
set_option maxRecDepth 100000
set_option maxHeartbeats 2000000
namespace Tr
open PySem PySem.Spec PyProof.Rows L2
/-! ### the end: a law called with its script, its table of code objects told -/
/-- what the head's heap says of the law: where it stands; cs: the code objects that make lambdas, each with its table -/
structure LawT (P : Program) (w : World) (K : PySem.W.Frag) (mg : Str → Option Value) (fa : Addr) (cs : List (Addr × Addr)) (n : Nat) : Prop where
  run : ∀ (base : Heap) (s : Shared) (H : Hp) (a : Addr) (ns : List Int), K.In base → base.Ns mainGlobals mg → (∀ p ∈ cs, LamX.TabB base mg p.1 p.2) → ns.length ≤ n → Env0 P w K mg base callerA [] s H → SqL K H a (ns.map V.int) → (H a ≠ none → ∀ p ∈ cs, a ≠ p.2) → (∀ p ∈ cs, H p.2 = some (.tbl #[])) →
    codeAny (model P w) callerA (.call (.ref fa) ⟨[.ref a], []⟩) (CR (L2.CX P w) [] P w H s (fun v _ => v = .bl true) fun _ _ _ => False) s
section
variable {P : Program} {w : World} {K : PySem.W.Frag} {mg mb : Str → Option Value} {fa a : Addr} {cs : List (Addr × Addr)} {s : Shared} {vs : List Value} {ns : List Int} {n : Nat}
abbrev tabO : Obj := { cls := .none, data := .fields #[] }
/-- one way of tracking: what the end asks of it -/
theorem law_road {H : Hp} (L : LawT P w K mg fa cs n) (KX : K.In s.heap) (hns : s.heap.Ns mainGlobals mg) (hb : s.heap.Ns builtinsNs mb) (hbb : ∀ x : Str, x ≠ "__name__" → mb x = bootBuiltins x) (hlim : s.heap.NoLimit) (hg : s.gens = #[])
    (tT : ∀ p ∈ cs, s.heap.get? p.2 = some tabO) (nT : ∀ p ∈ cs, K.lookup p.2 = none) (cT : ∀ p ∈ cs, PySem.W.CodeHd s.heap p.1 p.2)
    (hbm : ∃ (bm : Addr) (ob : Obj), mg "__builtins__" = some (.ref bm) ∧ bm ≠ builtinsNs ∧ s.heap.get? bm = some ob ∧ ob.cls = .type "module" ∧ ob.dict = some builtinsNs ∧ ob.data = .plain)
    (ha : s.heap.get? a = some { cls := .type "list", data := .seq vs.toArray }) (hl : ns.length ≤ n) (tH : ∀ p ∈ cs, H p.2 = some (.tbl #[])) (sH : SqL K H a (ns.map V.int)) (ok : HOk P w H s.heap) (only : ∀ b, H b ≠ none → b = a ∨ ∃ p ∈ cs, b = p.2)
    (sa : H a = none ∨ ∃ o xs, H a = some (.frz o (.lst xs))) (ka : H a ≠ none → K.lookup a = none) :
    codeAny (model P w) callerA (.call (.ref fa) ⟨[.ref a], []⟩) (fun r s' => r = .ok (.ret (.bool true)) ∧ OldK s.heap s'.heap ∧ s'.os = s.os ∧ AllBare s'.gens) s := by
  have aT : ∀ p ∈ cs, a ≠ p.2 := fun p hp z => by
    have q := tT p hp
    rw [← z, ha] at q
    have q : Data.seq vs.toArray _ = Data.fields #[] := congrArg Obj.data (Option.some.inj q)
    cases q
  -- an object that is no list and no table is told by the base
  have free : ∀ {b : Addr} {o : Obj}, s.heap.get? b = some o → (∀ ws m, o.data ≠ .seq ws m) → o.data ≠ .fields #[] → H b = none := fun {b o} e h1 h2 => by
    cases q : H b with
    | none => rfl
    | some u =>
      rcases only b (by rw [q]; simp) with z | ⟨p, hp, z⟩
      · rw [z, ha] at e
        cases e
        exact absurd rfl (h1 _ _)
      · rw [z, tT p hp] at e
        cases e
        exact absurd rfl h2
  have down : ∀ {b : Addr} {o : Obj}, s.heap.get? b = some o → (∀ ws m, o.data ≠ .seq ws m) → o.data ≠ .fields #[] → (hidT s.heap H).get? b = some o := fun e h1 h2 => hidT_get e (free e h1 h2)
  have names : ∀ {b : Addr} {m : Str → Option Value}, s.heap.Ns b m → (hidT s.heap H).Ns b m := fun {b m} ⟨o, es, ep, e, d, r⟩ => ⟨o, es, ep, down e (fun ws m z => by rw [d] at z; cases z) (fun z => by rw [d] at z; cases z), d, r⟩
  have KB : K.In (hidT s.heap H) := fun b o e => hidT_get (KX b o e) (by
    cases q : H b with
    | none => rfl
    | some u =>
      rcases only b (by rw [q]; simp) with z | ⟨p, hp, z⟩
      · rw [z] at e q
        have z2 := ka (by rw [q]; simp)
        rw [z2] at e
        cases e
      · rw [z, nT p hp] at e
        cases e)
  have M : L2.Mod K mg (hidT s.heap H) := ⟨KB, names hns, ⟨mb, names hb, hbb⟩, let ⟨mc, h1, h2⟩ := hlim; ⟨mc, names h1, h2⟩⟩
  have TB : ∀ p ∈ cs, LamX.TabB (hidT s.heap H) mg p.1 p.2 := fun p hp => by
    refine ⟨?_, ?_, fun z => ?_⟩
    · obtain ⟨o, us, file, tf, flags, tg, inF, text, tt, e1, r1, r2, r3, r⟩ := cT p hp
      refine ⟨o, us, file, tf, flags, tg, inF, text, tt, down e1 (fun ws m z => ?_) (fun z => ?_), r1, r2, r3, r⟩
      · rw [r2] at z
        cases z
      · rw [r2] at z
        cases z
        simp at r3
    · obtain ⟨bm, ob, b1, b2, b3, b4, b5, b6⟩ := hbm
      have g1 : bm ≠ mainGlobals := fun q => by
        obtain ⟨o, es, ep, e, hd, _⟩ := hns
        rw [q, e] at b3
        cases b3
        rw [hd] at b6
        cases b6
      have g2 : bm ≠ p.2 := fun q => by
        rw [q, tT p hp] at b3
        cases b3
        cases b6
      exact ⟨bm, ob, b1, b2, g1, g2, down b3 (fun ws m z => by rw [b6] at z; cases z) (fun z => by rw [b6] at z; cases z), b4, b5, b6⟩
    · obtain ⟨o, es, ep, e, hd, _⟩ := hns
      rw [z, tT p hp] at e
      cases e
      cases hd
  have e0 : Env0 P w K mg (hidT s.heap H) callerA [] s H := ⟨rfl, M, fun b o e => of_hidT e, Nat.le_of_eq (hidT_size _ _), trivial, fun b hb => absurd (show b ∈ ([] : List Addr) from hb) (by simp), ok, .of_eq hg⟩
  refine codeAny_mono (L.run _ s H a ns KB (names hns) TB hl e0 sH (fun _ => aT) tH) fun r s' h => ?_
  match r, h with
  | .error e, h =>
    obtain ⟨_, _, _, _, _, _, _, _, _, _, _, _, z⟩ := h
    exact z.elim
  | .ok (.ret u), h =>
    obtain ⟨v, H', os, bare, un, ok', rv, q⟩ := h
    subst q
    obtain rfl : u = Value.bool true := rv
    have kept : ∀ b o, (∀ p ∈ cs, b ≠ p.2) → s.heap.get? b = some o → s'.heap.get? b = some o := fun b o nb e => by
      cases q : H b with
      | none => exact un.keep b o e q (fun z => absurd (show b ∈ ([] : List Addr) from z) (by simp)) (by simp)
      | some u =>
        have hba := (only b (by rw [q]; simp)).resolve_right fun ⟨p, hp, z⟩ => nb p hp z
        rcases sa with z | ⟨ob, xs, z⟩
        · rw [hba, z] at q
          cases q
        · rw [← hba] at z
          obtain ⟨k1, _⟩ := ok b _ z
          obtain ⟨k2, _⟩ := ok' b _ (un.frzs b ob _ z)
          rw [e] at k1
          cases k1
          exact k2
    have grown : ∀ p ∈ cs, ∃ more, s'.heap.get? p.2 = some { cls := .none, data := .fields (#[] ++ more) } := fun p hp => by
      obtain ⟨more, hmore⟩ := un.tbls p.2 #[] (tH p hp)
      exact ⟨more, ok' p.2 _ hmore⟩
    refine ⟨rfl, ⟨fun b o e => ?_, fun b o e => ?_⟩, os, bare⟩
    · by_cases hbT : ∃ p ∈ cs, b = p.2
      · obtain ⟨p, hp, rfl⟩ := hbT
        obtain ⟨more, hm⟩ := grown p hp
        have e2 := tT p hp
        rw [e2] at e
        cases e
        exact .inr (.inl ⟨((cT p hp).tab e2).isCodeTable, rfl, #[], more, rfl, hm⟩)
      · exact .inl (kept b o (fun p hp z => hbT ⟨p, hp, z⟩) e)
    · by_cases hbT : ∃ p ∈ cs, b = p.2
      · obtain ⟨p, hp, rfl⟩ := hbT
        obtain ⟨more, hm⟩ := grown p hp
        exact ⟨_, hm⟩
      · exact ⟨o, kept b o (fun p hp z => hbT ⟨p, hp, z⟩) e⟩
/-- the tables, empty -/
def tabH (cs : List (Addr × Addr)) : Hp := fun b => if b ∈ cs.map (·.2) then some (.tbl #[]) else none
theorem tabH_at {p : Addr × Addr} (hp : p ∈ cs) : tabH cs p.2 = some (.tbl #[]) := if_pos (List.mem_map.mpr ⟨p, hp, rfl⟩)
theorem tabH_of {b : Addr} (h : tabH cs b ≠ none) : ∃ p ∈ cs, b = p.2 := by
  unfold tabH at h
  split at h
  · rename_i hm
    obtain ⟨p, hp, e⟩ := List.mem_map.mp hm
    exact ⟨p, hp, e.symm⟩
  · exact absurd rfl h
theorem law_end (L : LawT P w K mg fa cs n) (KX : K.In s.heap) (hns : s.heap.Ns mainGlobals mg) (hb : s.heap.Ns builtinsNs mb) (hbb : ∀ x : Str, x ≠ "__name__" → mb x = bootBuiltins x) (hlim : s.heap.NoLimit) (hg : s.gens = #[])
    (tT : ∀ p ∈ cs, s.heap.get? p.2 = some tabO) (nT : ∀ p ∈ cs, K.lookup p.2 = none) (cT : ∀ p ∈ cs, PySem.W.CodeHd s.heap p.1 p.2)
    (hbm : ∃ (bm : Addr) (ob : Obj), mg "__builtins__" = some (.ref bm) ∧ bm ≠ builtinsNs ∧ s.heap.get? bm = some ob ∧ ob.cls = .type "module" ∧ ob.dict = some builtinsNs ∧ ob.data = .plain)
    (ha : s.heap.get? a = some { cls := .type "list", data := .seq vs.toArray }) (hi : IntsAre vs ns) (hl : ns.length ≤ n) (hn : n ≤ sizeLine) :
    codeAny (model P w) callerA (.call (.ref fa) ⟨[.ref a], []⟩) (fun r s' => r = .ok (.ret (.bool true)) ∧ OldK s.heap s'.heap ∧ s'.os = s.os ∧ AllBare s'.gens) s := by
  have rv := vals_ints hi
  have hle : ns.length ≤ sizeLine := Nat.le_trans hl hn
  have aT : ∀ p ∈ cs, a ≠ p.2 := fun p hp z => by
    have q := tT p hp
    rw [← z, ha] at q
    have q : Data.seq vs.toArray _ = Data.fields #[] := congrArg Obj.data (Option.some.inj q)
    cases q
  have aN : tabH cs a = none := by
    cases q : tabH cs a with
    | none => rfl
    | some u =>
      obtain ⟨p, hp, e⟩ := tabH_of (cs := cs) (b := a) (by rw [q]; simp)
      exact absurd e (aT p hp)
  have tabOk : ∀ {b : Addr} {u : HO}, tabH cs b = some u → ObjOk P w (tabH cs) s.heap b u ∧ u = .tbl #[] := fun {b u} e => by
    obtain ⟨p, hp, rfl⟩ := tabH_of (cs := cs) (b := b) (by rw [e]; simp)
    rw [tabH_at hp] at e
    cases e
    exact ⟨tT p hp, rfl⟩
  cases hk : K.lookup a with
  | some o =>
    have e := KX a o hk
    rw [ha] at e
    cases e
    refine law_road (H := tabH cs) L KX hns hb hbb hlim hg tT nT cT hbm ha hl (fun p hp => tabH_at hp) (.inr ⟨_, vs.toArray, _, hk, rfl, rfl, rfl, by rw [List.size_toArray, hi.length]; exact hle, by simpa using rv⟩) (fun b u z => (tabOk z).1) (fun b z => .inr (tabH_of z)) (.inl aN) fun z => absurd aN z
  | none =>
    refine law_road (H := upd (tabH cs) a (.frz { cls := .type "list", data := .seq vs.toArray } (.lst (ns.map V.int)))) L KX hns hb hbb hlim hg tT nT cT hbm ha hl (fun p hp => by rw [upd_ne (Ne.symm (aT p hp))]; exact tabH_at hp) (.inl (.inr ⟨_, upd_same⟩)) (fun b u z => ?_) (fun b z => ?_) (.inr ⟨_, _, upd_same⟩) fun _ => hk
    · by_cases h2 : b = a
      · subst h2
        rw [upd_same] at z
        cases z
        exact ⟨ha, by rw [List.length_map]; exact hle, vs, _, rv, ha⟩
      · rw [upd_ne h2] at z
        obtain ⟨z1, rfl⟩ := tabOk z
        exact z1
    · by_cases h2 : b = a
      · exact .inl h2
      · rw [upd_ne h2] at z
        exact .inr (tabH_of z)
end
/-- the script as a tree -/
def scr (ns : List Int) : D := .lst (ns.map fun i => .v (.int i))
theorem scr_rel {g : G} {θ : Cs} {H : Hp} : ∀ ns : List Int, RpL g θ H (ns.map fun i => D.v (.int i)) (ns.map V.int)
  | [] => by unfold RpL; rfl
  | n :: ns => by
    rw [List.map_cons, List.map_cons]
    unfold RpL
    exact ⟨_, _, rfl, rp_v trivial, scr_rel ns⟩
/-- the cells of the tables, at the start -/
def tabMu (xs : List Str) : Mu := xs.map .tab
/-- what the law's body comes to is what its call comes to -/
theorem lawT_mk {P : Program} {w : World} {K : PySem.W.Frag} {mg : Str → Option Value} {fa : Addr} {cd : Value} {ts : List (Str × Addr × Addr)} {n k : Nat} {x : Str} {st : Stmt} {N : List Str} {f0 : FS} {oc kV doc pm ct : Value} {od an : Option Addr} {osl : Array (Option Value)} {LOf : Shared → LOs}
    (lk : K.lookup fa = some ⟨oc, od, .func (PySem.W.fnOf "law" "law" (defArgs st) (defBody st) (defScope st) .none kV doc pm an cd ct), osl⟩) (hcd : PySem.W.codeIn K cd "law" = true) (S : FnScope N [x] (defScope st))
    (hb : ∀ (s : Shared) (u : Value), BindsTo s (PySem.W.fnOf "law" "law" (defArgs st) (defBody st) (defScope st) .none kV doc pm an cd ct) ⟨[u], []⟩ [(x, u)]) (hr : Rm (k + 1) callerA) (hT : ∀ t ∈ ts, PySem.W.tabIn K t.1 = some t.2) (hnd : (ts.map (·.2.2)).Nodup)
    (der : ∀ (base : Heap) (s : Shared) (H : Hp), K.In base → base.Ns mainGlobals mg → (∀ t ∈ ts, LamX.TabB base mg t.2.1 t.2.2) → Rm k (callerA.deeper (envOfC "law" (defScope st) s.heap.objs.size fa cd)) →
      DSs (CxD P w K mg base N "law" st fa cd callerA [] s H (fun _ _ _ => False)) (LOf s) (WD fun _ _ _ => False) (defBody st) f0)
    (run : ∀ ns : List Int, ns.length ≤ n → ∃ μ', bodyF f0 1 N.length [scr ns] (tabMu (ts.map (·.1))) = some (.ok (.v (.bl true)) μ')) : LawT P w K mg fa (ts.map (·.2)) n := by
  refine ⟨fun base s H a ns KB hns TB hl e0 hS hne hTb => ?_⟩
  refine LamX.run_ofS (CX := L2.CX P w) (N := N) (ps := [x]) (us := [.ref a]) (vs := [.ref a]) lk hcd S hr.room e0 (hb s (.ref a)) (.cons rfl .nil) rfl fun hr' => ?_
  refine ⟨_, der base s H KB hns (fun t ht => TB t.2 (List.mem_map.mpr ⟨t, ht, rfl⟩)) ⟨hr', hr.gd⟩, ?_⟩
  obtain ⟨μ', hF⟩ := run ns hl
  have hTb : ∀ t ∈ ts, H t.2.2 = some (.tbl #[]) := fun t ht => hTb t.2 (List.mem_map.mpr ⟨t, ht, rfl⟩)
  have hsq : SqN K ⟨ts.map (·.2.2), fun b => b ∈ ts.map (·.2.2)⟩ H a (ns.map V.int) := by
    rcases hS with h | h
    · refine .inl ⟨fun z => ?_, h⟩
      obtain ⟨t, ht, e⟩ := List.mem_map.mp z
      refine hne (fun q => ?_) t.2 (List.mem_map.mpr ⟨t, ht, rfl⟩) e.symm
      rcases h with h | ⟨o, h⟩
      · rw [q] at h; cases h
      · rw [q] at h; cases h
    · exact .inr h
  have r : RpL ⟨K, mg, LOf s⟩ ⟨ts.map (·.2.2), fun b => b ∈ ts.map (·.2.2)⟩ H [scr ns] [.ref a] := rpL_one (rp_mklst hsq (scr_rel ns))
  have rl : Rel ⟨K, mg, LOf s⟩ ⟨ts.map (·.2.2), fun b => b ∈ ts.map (·.2.2)⟩ (tabMu (ts.map (·.1))) H := by
    refine ⟨by unfold tabMu; simp, hnd, fun b h => h, fun b h => ?_, fun i cl e => ?_⟩
    · obtain ⟨t, ht, e⟩ := List.mem_map.mp h
      rw [← e, hTb t ht]
      simp
    · unfold tabMu at e
      rw [List.map_map, List.getElem?_map] at e
      cases ht : ts[i]? with
      | none => rw [ht] at e; cases e
      | some t =>
        rw [ht] at e
        cases e
        have hm := List.mem_of_getElem? ht
        exact ⟨t.2.2, by show (ts.map (·.2.2))[i]? = _; rw [List.getElem?_map, ht]; rfl, ⟨t.2.1, hT t hm⟩, #[], hTb t hm, True.intro, fun pos cv z => by
          have z : codeAmong pos [] = some cv := z
          simp [codeAmong] at z⟩
  refine ⟨_, _, _, renv_start r rfl, rl, ?_⟩
  unfold bodyF at hF
  rw [if_pos (show [scr ns].length = 1 from rfl)] at hF
  show PostS _ _ _ _ _ (f0 ([scr ns].map some ++ List.replicate (N.length - 1) none) (tabMu (ts.map (·.1))))
  cases e : f0 ([scr ns].map some ++ List.replicate (N.length - 1) none) (tabMu (ts.map (·.1))) with
  | none => rw [e] at hF; cases hF
  | some rr =>
    rw [e] at hF
    cases rr with
    | ex cn m => cases hF
    | ok o m =>
      cases o with
      | nx ρ' => cases hF
      | bk ρ' => cases hF
      | ct ρ' => cases hF
      | rt d =>
        cases hF
        exact fun θ' u H' e1 rl' r' => rp_bl r'
theorem walk_tree {l : PySem.W.OpenLaw} {n : Nat} {q : Program} {loose : List Str} {XP : (Str → Option Value) → Heap → Prop} {YP : World → Heap → Prop} {d : DefRec} {K : Params → PySem.W.Frag} (hn : l.most = some n) (hn2 : n ≤ sizeLine) (hdf : d.params.defaults = [])
    {ns : List Str} (hrec : ∀ x ∈ ns, ((recsOf q).any fun e => e.name == x) = true) (hY : ∀ (w : World) (h : Heap), YP w h → (K w.params).In h)
    (F : ∀ (w : World) (mg : Str → Option Value) (fa : Addr) (h : Heap), (K w.params).In h → h.Ns mainGlobals mg → mg d.name = some (.ref fa) → ∃ ts : List (Str × Addr × Addr), ts.map (·.1) = ns ∧ (∀ t ∈ ts, PySem.W.tabIn (K w.params) t.1 = some t.2 ∧ (K w.params).lookup t.2.2 = none) ∧ LawT l.prog w (K w.params) mg fa (ts.map (·.2)) n) :
    PySem.W.WalkO q loose XP YP l.row.toRowW d [] (fun f vs => PySem.call f vs) := by
  refine Att.attach_callB hn hdf fun w s₀ s mg mb fa o pm cd doc a vs ns' G Y ho hd hcd hmg hobj hints hlen hbits hg => ?_
  have KX := hY w _ Y
  obtain ⟨ts, h0, h1, L⟩ := F w mg fa _ KX G.T.g hmg
  have tabs : ∀ p ∈ ts.map (·.2), PySem.W.CodeHd s.heap p.1 p.2 ∧ s.heap.get? p.2 = some tabO := fun p hp => by
    obtain ⟨t, ht, rfl⟩ := List.mem_map.mp hp
    have hf : ∃ e, (recsOf q).find? (fun e => e.name == t.1) = some e := by
      cases z : (recsOf q).find? (fun e => e.name == t.1) with
      | some e => exact ⟨e, rfl⟩
      | none =>
        rw [List.find?_eq_none] at z
        obtain ⟨e, he, h⟩ := List.any_eq_true.mp (hrec t.1 (by rw [← h0]; exact List.mem_map.mpr ⟨t, ht, rfl⟩))
        exact absurd h (z e he)
    obtain ⟨e, he⟩ := hf
    exact PySem.W.tab_of G.T KX he (h1 t ht).1
  exact law_end L KX G.T.g G.T.b G.T.builtins G.T.nolimit hg (fun p hp => (tabs p hp).2) (fun p hp => by
    obtain ⟨t, ht, rfl⟩ := List.mem_map.mp hp
    exact (h1 t ht).2) (fun p hp => (tabs p hp).1) G.T.bmain hobj hints hlen hn2
theorem kit_by {K : PySem.W.Frag} {C D : Addr} {b : Bool} (ht : PySem.W.typeIn K (.ref D) = some (.type "type")) (hd : PySem.W.hasDictIn K D = true) (u : PySem.W.subIn K (.ref C) (.ref D) = some b) (r : C = D → b = true) : PySem.W.kitOne K (.ref C) (.ref D) = some b := by
  unfold PySem.W.kitOne
  split
  · rename_i h
    rw [r (Value.ref.inj (beq_iff_eq.mp h))]
  · obtain ⟨cd, hc, _⟩ := PySem.W.any_some hd
    have e : ((PySem.W.clsIn K D).isSome && PySem.W.typeIn K (.ref D) == some (.type "type")) = true := by rw [hc, ht] <;> rfl
    unfold PySem.W.kitCls
    dsimp only
    rw [if_pos e]
    exact u
end Tr
/-! ## TrP1 -/
set_option Elab.async false
set_option linter.all false
set_option maxRecDepth 100000
set_option maxHeartbeats 4000000
/-! enumerate over a tuple. -/
namespace Tr
open PySem PySem.Spec PyProof.Rows L2
abbrev enO (it : Addr) : Obj := { cls := .type "enumerate", data := .fields #[.none, .bool false, .ref it, rawInt 0, .none, .none] }
theorem meets_en1 {v : Value} {o : Obj} {Hq : Heap → Prop} (B : Begins v o Hq) : Meets (Builtin.«enumerate.__new__» ⟨[.type "enumerate", v], []⟩) (fun _ R s => Hq s.heap ∧ R (.ok (.ret (.ref (s.heap.push o).objs.size))) { s with heap := (s.heap.push o).push (enO s.heap.objs.size) }) :=
  .of_wp fun P w A R s hs => by
    obtain ⟨h0, g0, d0, t0, o0⟩ := s
    obtain ⟨h1, hs⟩ := hs
    have hsub := sub_enumerate
    have q1 : ∀ {A' : Around} {E Q : Value → Shared → Prop}, Q (.ref h0.objs.size) ⟨h0.push o, g0, d0, t0, o0⟩ → wpAny (model P w) A' (pyIter v) Q E ⟨h0, g0, d0, t0, o0⟩ := fun q => B.iter P w _ _ ⟨h0, g0, d0, t0, o0⟩ _ h1 q
    wp_walk using q1
    refine wpAny_stack_any fun st => wpAny_pure ?_
    split
    · rename_i c _ _ _ _ _
      cases (c == Value.type "enumerate") <;> (wp_walk using q1; exact ⟨_, rfl, hs⟩)
    · wp_walk using q1
      exact ⟨_, rfl, hs⟩
theorem call_en1 {P : Program} {w : World} {A : Around} {E : Value → Shared → Prop} {s : Shared} {v : Value} {o : Obj} {Hq : Heap → Prop} {Q : Value → Shared → Prop} (B : Begins v o Hq) (h1 : Hq s.heap)
    (hQ : ∀ h', IsEnum h' (s.heap.objs.size + 1) s.heap.objs.size 0 .none → h'.get? s.heap.objs.size = some o → (∀ b u, s.heap.get? b = some u → h'.get? b = some u) → Q (.ref (s.heap.objs.size + 1)) { s with heap := h' }) : wpAny (model P w) A (call (.type "enumerate") [v]) Q E s := by
  refine callType_new F.called_enumerate (by decide) (F.typeCall_enumerate_1 _) (F.newCall_enumerate_1 _) (fun obj => F.args_object_init_2 obj _) F.entry_enumerate_new (meets_en1 B) ⟨h1, ?_⟩
  have hz : (s.heap.push o).objs.size = s.heap.objs.size + 1 := Heap.size_push ..
  have he : IsEnum ((s.heap.push o).push (enO s.heap.objs.size)) (s.heap.objs.size + 1) s.heap.objs.size 0 .none := by
    have z := Heap.get?_push_size (s.heap.push o) (o := enO s.heap.objs.size) rfl
    rwa [hz] at z
  show _ ∧ _
  rw [hz]
  exact ⟨⟨_, he, rfl⟩, hQ _ he (Heap.get?_push_of_some _ (Heap.get?_push_size _ B.free)) fun b u e => Heap.get?_push_of_some _ (Heap.get?_push_of_some _ e)⟩
/-- the tuple at a, each item in a new pair behind its number -/
def Itn (K : PySem.W.Frag) (a : Addr) : It where
  go := fun i H => ∃ (xs : List V) (x : V), SqT K H a xs ∧ xs[i]? = some x
  yld := fun i H v H' => ∃ T x, v = .ref T ∧ H T = none ∧ H' = upd H T (.tup [.int (i : Nat), x]) ∧ ∀ xs, SqT K H a xs → xs[i]? = some x
  stop := fun i H => ∃ xs : List V, SqT K H a xs ∧ xs.length ≤ i
theorem turn_enT {P : Program} {w : World} {K : PySem.W.Frag} {elts : List Expr} {kk : Nat} {tpos : Pos} (a e it : Addr) :
    Turn P w K (.Tuple elts kk tpos) (Itn K a) [e, it] e (fun i h => (∃ old, IsEnum h e it ((i : Nat) : Int) old) ∧ h.IsTupleIter it a i ∧ e ≠ it ∧ e ≠ a ∧ a ≠ it) where
  mem := List.mem_cons_self
  obj := fun i h st b hb => by
    obtain ⟨⟨old, he⟩, ⟨o, ho, hc, hd⟩, _⟩ := st
    rcases List.mem_cons.mp hb with z | z
    · exact ⟨_, by rw [z]; exact he, fun v q => by cases q⟩
    · rw [List.mem_singleton] at z
      exact ⟨o, by rw [z]; exact ho, fun v q => by rw [hd] at q; cases q⟩
  keep := fun i h h' st k => by
    obtain ⟨⟨old, he⟩, hi, hne⟩ := st
    exact ⟨⟨old, k e List.mem_cons_self _ he⟩, hi.at fun o q => k it (by simp) o q, hne⟩
  item := by
    intro X hP hw hK hc i pins s σ H E I hf st hg
    subst hP hw hK
    obtain ⟨⟨old, he⟩, hit, hne, hea, hai⟩ := st
    obtain ⟨xs, x, hq, hx⟩ := hg
    obtain ⟨its, rv, p, hz⟩ := I.tuple hq
    obtain ⟨u, hu, ru⟩ := rv.get hx
    have hel := Heap.lt_size he
    have hil : it < s.heap.objs.size := by obtain ⟨_, q, _⟩ := hit; exact Heap.lt_size q
    have hlt : i < its.toArray.size := by
      have := (List.getElem?_eq_some_iff.mp hu).1
      simpa using this
    refine wpAny_pyNext_enum_itemD (Draws.tuple (A := X.A.in1) (I.ok.hd hc) it a hai its.toArray) he ⟨hit, p⟩ hlt hne (by simp [hne, hea]) fun y h' tk hy ho hst hT hsz hk => ?_
    obtain ⟨hit', p'⟩ := hst
    have ey : y = u := by
      have q : its.toArray[i]? = some u := by simpa using hu
      rw [q] at hy
      exact (Option.some.inj hy).symm
    subst ey
    refine ⟨_, rfl, wpAny_letOwnedTupleGo_enum (s := { s with heap := h', toks := tk + 1 }) ho fun h2 he' sb => ?_⟩
    have hT2 : h2.get? s.heap.objs.size = some { cls := .type "tuple", data := .seq #[.int i tk, y] } := (sb.2 _ (Nat.ne_of_gt hel)).trans hT
    have new : ObjOk X.prog X.w (upd H s.heap.objs.size (.tup [.int (i : Nat), x])) h2 s.heap.objs.size (.tup [.int (i : Nat), x]) := ⟨show 2 ≤ sizeLine by decide, [.int i tk, y], .cons ⟨_, rfl⟩ (.cons ru .nil), ⟨_, hT2, rfl, _, rfl⟩⟩
    have I1 : Inv X pins σ (upd H s.heap.objs.size (.tup [.int (i : Nat), x])) { s with heap := h2, toks := tk + 1 } :=
      I.turnedNew (ch := [e, it]) (fun b ob hb q => (sb.2 b fun z => hb (by rw [z]; exact List.mem_cons_self)).trans (hk b ob (fun z => hb (by rw [z]; exact List.mem_cons_self)) (fun z => hb (by simp [z])) q)) hf (Nat.le_refl _) new
    refine ⟨.ref s.heap.objs.size, _, I1, rfl, ⟨_, x, rfl, I.hok.fresh (Nat.le_refl _), rfl, fun ys hys => by rw [I.tuple_inj hys hq]; exact hx⟩, ⟨⟨y, ?_⟩, hit'.at fun o q => (sb.2 it (Ne.symm hne)).trans q, hne, hea, hai⟩, fun b hb => ?_⟩
    · have e1 : ((i + 1 : Nat) : Int) = (i : Int) + 1 := by omega
      rw [e1]
      exact he'
    · have hb' : b < s.heap.objs.size := by
        rcases List.mem_cons.mp hb with z | z
        · rw [z]; exact hel
        · rw [List.mem_singleton.mp z]; exact hil
      rw [upd_ne (Nat.ne_of_lt hb')]
      exact (hf b hb).1
  done := by
    intro X hP hw hK hc i pins s σ H E I hf st hg
    subst hP hw hK
    obtain ⟨⟨old, he⟩, hit, hne, hea, hai⟩ := st
    obtain ⟨xs, hq, hx⟩ := hg
    obtain ⟨its, rv, p, hz⟩ := I.tuple hq
    obtain ⟨f0, f1, f2, f3, f4, f5⟩ := hf it (by simp)
    have hl := rv.length
    have hnone : its.toArray[i]? = none := by
      rw [List.getElem?_toArray]
      exact List.getElem?_eq_none (by omega)
    have hTy : s.TypeIs (.ref e) "enumerate" := ⟨_, he, rfl⟩
    unfold pyNext
    refine wpAny_bind (wpAny_attempt (wpAny_callSpecial?_slot (name := Str.ofString "__next__") hTy F.slot_enumerate_next (wpAny_call_entry F.slot_enumerate_next hTy F.entry_enumerate_next ?_ (F.args_enumerate_next_1 _))))
    refine wpAny_bind (m := field (.ref e) 2) (wpAny_field he rfl (x := .ref it) rfl (wpAny_bind (wpAny_nextOf_tuple_end (by simp [I.ok.hd hc]) hit p hnone fun h' x eb ⟨ox, hox, hcx⟩ => ?_)))
    exact wpAny_bind (wpAny_isInstance (T := "StopIteration") (b := true) ⟨ox, hox, hcx⟩ isSubtype_stop (wpAny_pure ⟨rfl, I.turned (t' := s.toks) (fun b o hb q => eb b o hb q) f0 f1 f3 f4 f5⟩))
  self := fun A i s Q E st h => by
    obtain ⟨⟨_, he⟩, _⟩ := st
    exact wpAny_pyIter_enum he h
def iEnT (K : PySem.W.Frag) (ta : TA) : TI := fun σ H R => ta σ H fun vs H1 => ∃ a xs, vs = [.ref a] ∧ SqT K H1 a xs ∧ R (Itn K a) H1
theorem pi_enT {X : Cx} {e : Expr} {ta : TA} {p pos tpos : Pos} {elts : List Expr} {kk : Nat} (hg : Gl X "enumerate") (hm : X.mg "enumerate" = none) (ha : PA X [e] ta) (hs : starEach [e] X.env = [(false, eval e X.env)] := by rfl) :
    PI X (.Tuple elts kk tpos) (.Call (.Name "enumerate" p) [e] [] pos) (iEnT X.K ta) := by
  refine ⟨fun pins s σ H R I h => Call_ (ld_blt I hg hm boot_enumerate (PyProof.Rows.callWith_type1 (thn (ha.run pos pins s σ H _ I h) fun us s1 ⟨vs, H1, I1, r1, a, xs, ex, hq, q⟩ => ?_) hs rfl))⟩
  subst ex
  obtain ⟨u, rfl, r⟩ := vals1 r1
  cases r
  obtain ⟨its, rv, p', hz⟩ := I1.tuple hq
  have hal : a < s1.heap.objs.size := by
    obtain ⟨o, ho, _⟩ := p'
    exact Heap.lt_size ho
  refine call_en1 (begins_tuple a its.toArray) p' fun h' he hit hk => wpAny_pyIter_enum he ?_
  have I2 : Inv X pins σ H1 { s1 with heap := h' } := I1.kept (t' := s1.toks) hk
  refine ⟨s1.heap.objs.size + 1, [s1.heap.objs.size + 1, s1.heap.objs.size], _, _, H1, rfl, I2, turn_enT a (s1.heap.objs.size + 1) s1.heap.objs.size, ⟨⟨.none, he⟩, ⟨_, hit, rfl, rfl⟩, Nat.succ_ne_self _, Nat.ne_of_gt (Nat.lt_succ_of_lt hal), Nat.ne_of_lt hal⟩, fun b hb => ?_, q⟩
  have hle : s1.heap.objs.size ≤ b := by
    rcases List.mem_cons.mp hb with z | z
    · rw [z]; exact Nat.le_add_right _ _
    · rw [List.mem_singleton.mp z]; exact Nat.le_refl _
  exact I1.fpOk hle (I1.hok.fresh hle)
end Tr
/-! ## TrP2 -/
set_option Elab.async false
set_option linter.all false
set_option maxRecDepth 100000
set_option maxHeartbeats 4000000
namespace Tr
open PySem PySem.Spec PyProof.Rows L2
/-- each thing in a pair behind its number -/
def enF : Nat → List D → List D
  | _, [] => []
  | k, d :: ds => .tup [.v (.int (k : Nat)), d] :: enF (k + 1) ds
theorem enF_get : ∀ {ds : List D} {k i : Nat}, (enF k ds)[i]? = ds[i]?.map fun d => .tup [.v (.int ((k + i : Nat) : Int)), d]
  | [], k, i => by simp [enF]
  | d :: ds, k, 0 => rfl
  | d :: ds, k, i + 1 => by
    unfold enF
    rw [List.getElem?_cons_succ, List.getElem?_cons_succ, enF_get]
    rw [show k + 1 + i = k + (i + 1) by omega]
theorem enF_len : ∀ {ds : List D} {k : Nat}, (enF k ds).length = ds.length
  | [], _ => rfl
  | d :: ds, k => by
    unfold enF
    rw [List.length_cons, List.length_cons, enF_len]
def enD (ds : List D) : List D := enF 0 ds
def enI : D → Option (List D)
  | .tup xs => some (enD xs)
  | .lst xs => some (enD xs)
  | _ => none
def fEnum (fa : FE) : FA := fun ρ => bnd (fa ρ) fun d => lif fun _ => enI d
section
variable {g : G} {θ : Cs} {H : Hp}
/-- a new pair is what the pair's reading is -/
theorem en_pair {i : Nat} {x : V} {d : D} {T : Addr} (so : ∀ a, θ.no a → H a ≠ none) (hT : H T = none) (r : Rp g θ H d x) :
    Ext θ H θ (upd H T (.tup [.int (i : Nat), x])) ∧ (∀ a, θ.no a → upd H T (.tup [.int (i : Nat), x]) a = H a) ∧ Rp g θ (upd H T (.tup [.int (i : Nat), x])) (.tup [.v (.int (i : Nat)), d]) (.ref T) := by
  have e := Ext.new (θ := θ) (o := .tup [.int (i : Nat), x]) hT
  refine ⟨e, fun a ha => upd_ne fun z => so a ha (by rw [z]; exact hT), rp_mktup (.inl (.inl upd_same)) ?_⟩
  unfold RpL
  exact ⟨_, _, rfl, rp_v trivial, rpL_one (r.ext e)⟩
theorem good_enT {K : PySem.W.Frag} {p : Addr} {vs : List V} {ds : List D} (h : SqT K H p vs) (r : RpL g θ H ds vs) : Good g (Itn K p) θ H (enD ds) := fun θ' H' e so i => by
  have h' := e.sqT h
  have r' := r.ext e
  refine ⟨fun d hd => ?_, fun hn => ?_⟩
  · unfold enD at hd
    rw [enF_get, Nat.zero_add] at hd
    cases hx : ds[i]? with
    | none => rw [hx] at hd; cases hd
    | some d0 =>
      rw [hx] at hd
      cases hd
      obtain ⟨u, h1, h2⟩ := r'.get hx
      refine ⟨⟨vs, u, h', h1⟩, fun x H2 hy => ?_⟩
      obtain ⟨T, y, rfl, hT, rfl, hy⟩ := hy
      have z := hy vs h'
      rw [h1] at z
      cases z
      exact en_pair so hT h2
  · refine ⟨vs, h', ?_⟩
    rw [← r.len, ← enF_len (ds := ds) (k := 0)]
    exact List.getElem?_eq_none_iff.mp hn
theorem good_enL {K : PySem.W.Frag} {p : Addr} {vs : List V} {ds : List D} (h : SqN K θ H p vs) (r : RpL g θ H ds vs) : Good g (Ite K p) θ H (enD ds) := fun θ' H' e so i => by
  have h' := (e.sqN h).sq
  have r' := r.ext e
  refine ⟨fun d hd => ?_, fun hn => ?_⟩
  · unfold enD at hd
    rw [enF_get, Nat.zero_add] at hd
    cases hx : ds[i]? with
    | none => rw [hx] at hd; cases hd
    | some d0 =>
      rw [hx] at hd
      cases hd
      obtain ⟨u, h1, h2⟩ := r'.get hx
      refine ⟨⟨vs, u, h', h1⟩, fun x H2 hy => ?_⟩
      obtain ⟨T, y, rfl, hT, rfl, hy⟩ := hy
      have z := hy vs h'
      rw [h1] at z
      cases z
      exact en_pair so hT h2
  · refine ⟨vs, h', ?_⟩
    rw [← r.len, ← enF_len (ds := ds) (k := 0)]
    exact List.getElem?_eq_none_iff.mp hn
end
section
variable {X : Cx} {LO : LOs} {W : WX} {e : Expr} {fa : FE}
theorem di_enum {p pos tpos : Pos} {elts : List Expr} {kk : Nat} (hm : X.mg "enumerate" = none) (he : DE X LO W e fa) (hg : Gl X "enumerate" := by rfl) (hs : starEach [e] X.env = [(false, eval e X.env)] := by rfl) :
    DI X LO W (.Tuple elts kk tpos) (.Call (.Name "enumerate" p) [e] [] pos) (fEnum fa) := by
  have ha : DA X LO W [e] (fAll [fa]) := da_cons he da_nil hs
  refine pi_imp (pi_or (pi_enum hg hm ha hs) (pi_enT hg hm ha hs)) fun σ H R ⟨θ, ρ, μ, re, rl, p⟩ => ?_
  unfold fEnum at p
  cases hf : fa ρ μ with
  | none => unfold bnd at p; rw [hf] at p; exact p.elim
  | some r =>
    cases r with
    | ex c m =>
      refine .inl ⟨θ, ρ, μ, re, rl, ?_⟩
      unfold bnd at p
      rw [hf] at p
      unfold fAll bnd
      rw [hf]
      exact p
    | ok d m =>
      have low : ∀ {P : List V → Hp → Prop}, (∀ u θ1 H1 ds, Ext θ H θ1 H1 → Rel (gX X LO) θ1 m H1 → Rp (gX X LO) θ1 H1 d u → enI d = some ds → (∀ J, Good (gX X LO) J θ1 H1 ds → R J H1) → P [u] H1) → lA (gX X LO) W (fAll [fa]) σ H P := fun {P} k => by
        refine ⟨θ, ρ, μ, re, rl, ?_⟩
        unfold bnd lif at p
        rw [hf] at p
        unfold fAll bnd
        rw [hf]
        dsimp only at p
        cases hi : enI d with
        | none => rw [hi] at p; exact p.elim
        | some ds =>
          rw [hi] at p
          refine fun θ1 us H1 e1 rl1 r1 => ?_
          obtain ⟨u, rfl, r2⟩ := rpL_1 r1
          exact k u θ1 H1 ds e1 rl1 r2 hi fun J hJ => p θ1 J H1 e1 rl1 hJ
      cases d with
      | lst xs =>
        refine .inl (low fun u θ1 H1 ds e1 rl1 r1 hi k => ?_)
        cases hi
        obtain ⟨q, vs, rfl, h2, h3⟩ := rp_lst r1
        exact ⟨q, vs, rfl, h2.sq, k _ (good_enL h2 h3)⟩
      | tup xs =>
        refine .inr (low fun u θ1 H1 ds e1 rl1 r1 hi k => ?_)
        cases hi
        obtain ⟨q, vs, rfl, h2, h3⟩ := rp_tup r1
        exact ⟨q, vs, rfl, h2, k _ (good_enT h2 h3)⟩
      | v x => exact .inl (low fun u θ1 H1 ds e1 rl1 r1 hi k => nomatch hi)
      | r n => exact .inl (low fun u θ1 H1 ds e1 rl1 r1 hi k => nomatch hi)
      | exn c => exact .inl (low fun u θ1 H1 ds e1 rl1 r1 hi k => nomatch hi)
      | lam c => exact .inl (low fun u θ1 H1 ds e1 rl1 r1 hi k => nomatch hi)
end
end Tr
/-! ## TrP3 -/
set_option Elab.async false
set_option linter.all false
set_option maxRecDepth 100000
set_option maxHeartbeats 4000000
/-! Lists as cells: xs[i] = v, [x] * n. -/
namespace Tr
open PySem PySem.Spec PyProof.Rows L2
theorem RpL.set {g : G} {θ : Cs} {H : Hp} {d : D} {u : V} (hd : Rp g θ H d u) : ∀ {ds : List D} {us : List V} (k : Nat), RpL g θ H ds us → RpL g θ H (ds.set k d) (us.set k u)
  | [], us, k, h => by
    rw [rpL_nil h]
    simp only [List.set_nil]
    unfold RpL
    rfl
  | x :: ds, us, 0, h => by
    obtain ⟨v, r, rfl, h1, h2⟩ := rpL_cons h
    simp only [List.set_cons_zero]
    unfold RpL
    exact ⟨_, _, rfl, hd, h2⟩
  | x :: ds, us, k + 1, h => by
    obtain ⟨v, r, rfl, h1, h2⟩ := rpL_cons h
    simp only [List.set_cons_succ]
    unfold RpL
    exact ⟨_, _, rfl, h1, h2.set hd k⟩
section
variable {X : Cx} {LO : LOs} {W : WX} {a b e o i : Expr} {fa fb fo fi : FE} {pos : Pos}
/-- o[i] = v, o a list -/
def fPutI (fo fi fa : FE) : FS := fun ρ => bnd (fa ρ) fun d => bnd (fo ρ) fun o => bnd (fi ρ) fun i => fun μ => match o, i with
  | .r n, .v (.int j) => match μ[n]? with
    | some (.lst xs) => match ixN xs.length j with
      | some k => some (.ok (.nx ρ) (μ.set n (.lst (xs.set k d))))
      | none => none
    | _ => none
  | _, _ => none
theorem ds_putI {pos' : Pos} (hW : Flat W) (ho : DE X LO W o fo) (hi : DE X LO W i fi) (ha : DE X LO W e fa) (hs : swapsWithSole [.Subscript o i pos'] e pos.line X.env = pure false := by rfl) (hw : swappedStores [.Subscript o i pos'] e X.env = pure none := by rfl)
    (h1 : (assignEach [.Subscript o i pos'] X.env).map (·.2) = [assign (.Subscript o i pos') X.env] := by rfl)
    (has : ∀ v, assign (.Subscript o i pos') X.env v = (do
      let ov ← holding [v] (eval o X.env)
      let iv ← holding [v, ov] (eval i X.env)
      standAt pos'
      holding [v, ov, iv] (setItem ov iv v)
      release [v, ov, iv] []) := by intro _; rfl) : DS X LO W (.Assign [.Subscript o i pos'] e pos) (fPutI fo fi fa) :=
  ps_imp (ps_asg ha (pg_sub ho hi set_list has) hs hw h1) fun d σ H ⟨θ, ρ, μ, re, rl, p⟩ => ⟨θ, ρ, μ, re, rl, post_bndS p hW fun x μ1 θ1 u H1 e1 rl1 r1 p1 =>
    ⟨θ1, ρ, μ1, re.ext e1, rl1, post_bndS p1 hW fun y μ2 θ2 w H2 e2 rl2 r2 p2 => ⟨θ2, ρ, μ2, re.ext (e1.trans e2), rl2, post_bndS p2 hW fun z μ3 θ3 t H3 e3 rl3 r3 p3 => by
      split at p3
      · rename_i n j
        split at p3
        · rename_i xs hx
          split at p3
          · rename_i k hk
            unfold Rp at r2
            obtain ⟨q, h3, rfl⟩ := r2
            obtain ⟨q', h4, vs, h5, h6⟩ := rl3.ok n _ hx
            rw [e3.get h3] at h4
            cases h4
            have e4 := rl3.cell (o := .lst (vs.set k u)) (e3.get h3) h5
            have rl4 := rl3.put (c := .lst (xs.set k x)) (e3.get h3) e4 ⟨_, upd_same, (RpL.set (r1.ext (e2.trans e3)) k h6).ext e4⟩
            exact ⟨q, vs, j, k, rfl, rp_int r3, h5, by rw [← h6.len]; exact hk, p3 θ3 σ _ e4 rl4 (re.ext (((e1.trans e2).trans e3).trans e4))⟩
          · exact p3.elim
        · exact p3.elim
      · exact p3.elim⟩⟩⟩
/-- xs * n, as a cell -/
def fMulM (fa fb : FE) : FE := fun ρ => bnd (fa ρ) fun x => bnd (fb ρ) fun y => fun μ => match x, y with
  | .lst xs, .v (.int j) => if 0 ≤ j ∧ j ≤ 1000 ∧ xs.length ≤ 1000 then newc (.lst (repD j.toNat xs)) μ else none
  | _, _ => none
theorem de_mulM (ha : DE X LO W a fa) (hb : DE X LO W b fb) : DE X LO W (.BinOp a .Mult b pos) (fMulM fa fb) := pe_imp (pe_op op_repR ha hb) fun σ H Q ⟨θ, ρ, μ, re, rl, p⟩ =>
  ⟨θ, ρ, μ, re, rl, post_bnd p fun x μ1 θ1 u H1 e1 rl1 r1 p1 => ⟨θ1, ρ, μ1, re.ext e1, rl1, post_bnd p1 fun y μ2 θ2 w H2 e2 rl2 r2 p2 => by
    split at p2
    · rename_i xs j
      split at p2
      · rename_i hc
        obtain ⟨c1, c2, c3⟩ := hc
        obtain ⟨l, vs, rfl, h2, h3⟩ := rp_lst (r1.ext e2)
        have hlen : vs.length * j.toNat ≤ sizeLine := by
          rw [← h3.len, sizeLine_eq]
          have : xs.length * j.toNat ≤ 1000 * 1000 := Nat.mul_le_mul c3 (by omega)
          omega
        exact ⟨l, j, vs, rfl, rp_int r2, h2.sq, by omega, by omega, hlen, fun q hq => new_cell (c := .lst (repD j.toNat xs)) rl2 hq ⟨_, upd_same, (h3.rep j.toNat).laid hq⟩ p2⟩
      · exact p2.elim
    · exact p2.elim⟩⟩
end
end Tr
/-! ## TrP4 -/
set_option Elab.async false
set_option linter.all false
set_option maxRecDepth 100000
set_option maxHeartbeats 4000000
/-! sorted(set(ints)). -/
namespace Tr
open PySem PySem.Spec PyProof.Rows L2
section
variable {P : Program} {w : World} {A : Around} {E : Value → Shared → Prop} {s : Shared}
/-- set(v): what its filling makes is what the call makes -/
theorem call_set_by {v : Value} {Md : Heap → Prop} {Q : Value → Shared → Prop} (hh : A.handled = none)
    (hi : ∀ {A' : Around} {E' : Value → Shared → Prop} {Pq : Fin → Shared → Prop}, A'.handled = none → (∀ h' tk, Md h' → Pq (.done (.ret .none)) { s with heap := h', toks := tk }) → wpAny (model P w) A' (Builtin.«set.__init__» ⟨[.ref s.heap.objs.size, v], []⟩) Pq E' { s with heap := s.heap.push (emptyS w) })
    (hQ : ∀ h' tk, Md h' → Q (.ref s.heap.objs.size) { s with heap := h', toks := tk }) : wpAny (model P w) A (call (.type "set") [v]) Q E s := by
  obtain ⟨c, tl, hmro⟩ := F.called_set.mro
  have m1 := F.called_set.made
  have m2 := F.called_set.sub
  refine wpAny_call (codeAny_of_tree (show wpAny _ _ (callAny (.type "set") _) _ _ _ from wpAny_pure ⟨Code.quiet_builtin _ (by decide +kernel), codeAny_builtin F.entry_type_call ?_⟩))
  rw [Around.under_plain (weight_type_call_type "set" [v] []) rfl]
  have m3 := F.called_set.notType
  have m4 := F.called_set.canCreate
  have m5 := F.typeCall_set_1 v
  repeat (any_goals (first | assumption | wp_step))
  refine codeAny_mono (code_new_tx (w := w) v (E := E) (Q1 := fun obj s1 => obj = .ref s.heap.objs.size ∧ s1 = { s with heap := s.heap.push (emptyS w) }) ⟨rfl, rfl⟩) fun r s1 hr => ?_
  cases r with
  | error e => exact hr
  | ok fl =>
    cases fl with
    | ret obj =>
      obtain ⟨rfl, rfl⟩ := hr
      have hT : Shared.TypeIs { s with heap := s.heap.push (emptyS w) } (.ref s.heap.objs.size) "set" := ⟨_, Heap.get?_push_size _ rfl, rfl⟩
      have m6 := F.called_set.init.lookup
      have m7 := F.called_set.init.bind (.ref s.heap.objs.size)
      repeat (any_goals (first | assumption | wp_step))
      refine codeAny_mono (codeAny_call_builtin (R := wants (fun r s2 => r = .none ∧ ∃ h' tk, s2 = { s with heap := h', toks := tk } ∧ Md h') E) F.called_set.init.plain F.entry_set_init (check_set_init_1 hT ?_)) fun r2 s2 hr2 => ?_
      · exact hi (A' := A.in1.in1) (by simp [hh]) fun h' tk m => ⟨rfl, h', tk, rfl, m⟩
      · cases r2 with
        | error e => exact hr2
        | ok f2 =>
          cases f2 with
          | ret u =>
            obtain ⟨rfl, h', tk, rfl, m⟩ := hr2
            repeat (any_goals (first | assumption | wp_step))
            exact hQ _ _ m
          | _ => exact hr2.elim
    | _ => exact hr.elim
/-- the numbers met below i -/
def metN (val : Nat → Int) (i : Nat) : Int → Bool := fun k => (List.range i).any fun j => decide (k = val j)
theorem metN_succ (val : Nat → Int) (i : Nat) : metN val (i + 1) = fun k => metN val i k || decide (k = val i) := by
  funext k
  unfold metN
  rw [List.range_succ, List.any_append]
  simp
/-- a set of ints, of n or fewer -/
def NiO (w : World) (h : Heap) (a : Addr) (S : Int → Bool) (n : Nat) : Prop := ∃ m, m ≤ n ∧ SetR w h a S m
theorem ni_loop {I : Addr} {fp wr : List Addr} {G : Array GenState → Array GenState → Prop} {n : Nat} {Pv : Nat → Value → Prop} {St : Nat → Shared → Prop} {R : Result → Shared → Prop} (W : WalksS P w A.in1 I fp wr G n Pv St) (a : Addr) (ha : a ∉ fp) (val : Nat → Int) (hval : ∀ i v, Pv i v → ∃ t, v = .int (val i) t) (hb : n + 1 < scanBound) :
    ∀ (k i : Nat) (s : Shared), n - i = k → i ≤ n → St i s → NiO w s.heap a (metN val i) i →
      (∀ s', Moved (a :: wr) G s s' → NiO w s'.heap a (metN val n) n → R (.ok (.ret .none)) s') → codeAny (model P w) A (.builtin "set.update.loop" ⟨[.ref a, .ref I], []⟩) R s
  | 0, i, s, hk, hi, hst, hO, h => by
    obtain rfl : i = n := by omega
    refine codeAny_builtin PyProof.Rows.F.entry_set_update_loop ?_
    rw [Around.under_plainId PyProof.Rows.F.plain_set_update_loop _]
    refine wpAny_bind (m := pyNext (.ref I)) (W.done s _ _ hst fun s' hm => wpAny_pure (h s' (hm.mono fun b hb => List.mem_cons_of_mem _ hb) ?_))
    obtain ⟨m, hm1, hO⟩ := hO
    exact ⟨m, hm1, hO.at fun o e => hm.heap a o (fun q => ha (W.sub _ q)) e⟩
  | k + 1, i, s, hk, hi, hst, hO, h => by
    have hlt : i < n := by omega
    refine codeAny_builtin PyProof.Rows.F.entry_set_update_loop ?_
    rw [Around.under_plainId PyProof.Rows.F.plain_set_update_loop _]
    refine wpAny_bind (m := pyNext (.ref I)) (W.item i s _ _ hlt hst fun v s1 hP hst1 hm => ?_)
    obtain ⟨t, rfl⟩ := hval i v hP
    obtain ⟨m, hm1, hO⟩ := hO
    have hO1 : SetR w s1.heap a (metN val i) m := hO.at fun o e => hm.heap a o (fun q => ha (W.sub _ q)) e
    refine wpAny_bind (m := holding [Value.int (val i) t] (setAdd a (.int (val i) t))) (wpAny_holding ?_)
    unfold setAdd
    refine wpAny_holding (wpAny_bind ((intKind P w).pyHash (k := val i) (intKind_is _ _ _ _) ?_))
    refine setR_add_hashed (s := { s1 with toks := s1.toks + 1 }) hO1 (by omega) fun h2 sb hO2 => ?_
    rw [← metN_succ] at hO2
    have kp : ∀ c ∈ fp, ∀ o, s1.heap.get? c = some o → h2.get? c = some o := fun c hc o e => by
      rw [sb.2 c fun q => ha (q ▸ hc)]
      exact e
    refine wpAny_pure ⟨plainId_quiet PyProof.Rows.F.plain_set_update_loop _, ni_loop W a ha val hval hb k (i + 1) _ (by omega) hlt (W.frame _ s1 _ _ hst1 (Nat.le_succ _) kp) ⟨_, ?_, hO2⟩ fun s2 hm2 hO3 => h s2 (Moved.trans W.gtrans ((hm.mono fun b hb => List.mem_cons_of_mem _ hb).then_heap (Nat.le_succ _) fun c o hc e => ?_) hm2) hO3⟩
    · split <;> omega
    · rw [sb.2 c fun q => hc (by rw [q]; exact List.mem_cons_self)]
      exact e
/-- what set(ints) has made -/
def MadeN (w : World) (s : Shared) (ns : List Int) (h' : Heap) : Prop := NiO w h' s.heap.objs.size (metN (fun i => ns.getD i 0) ns.length) ns.length ∧ ∀ b o, b < s.heap.objs.size → s.heap.get? b = some o → h'.get? b = some o
theorem init_niT {l : Addr} {its : Array Value} {ns : List Int} (hl : s.heap.IsTuple l its) (hi : IntsAre its.toList ns) (hb : ns.length + 1 < scanBound) {A : Around} (hh : A.handled = none) {Pq : Fin → Shared → Prop} (hR : ∀ h' tk, MadeN w s ns h' → Pq (.done (.ret .none)) { s with heap := h', toks := tk }) :
    wpAny (model P w) A (Builtin.«set.__init__» ⟨[.ref s.heap.objs.size, .ref l], []⟩) Pq E { s with heap := s.heap.push (emptyS w) } := by
  have hlen : ns.length = its.size := by rw [← IntsAre.length hi, Array.length_toList]
  obtain ⟨⟨oc, od, odt, osl⟩, hol, hcl, nl, hdl⟩ := hl
  obtain rfl : oc = .type "tuple" := hcl
  obtain rfl : odt = .seq its nl := hdl
  have hol' : (s.heap.push (emptyS w)).get? l = some { cls := .type "tuple", dict := od, data := .seq its nl, slots := osl } := Heap.get?_push_of_some _ hol
  have hS : (s.heap.push (emptyS w)).get? s.heap.objs.size = some (emptyS w) := Heap.get?_push_size _ rfl
  have hsls := F.sub_tuple_set
  have hslf := F.sub_tuple_frozenset
  have hne : (Value.type "tuple" == Value.type "dict") = false := by decide
  have hl1 : (s.heap.push (emptyS w)).IsTuple l its := ⟨_, hol', rfl, nl, rfl⟩
  unfold Builtin.«set.__init__» noKeywords Builtin.Frozenset.updateFrom
  generalize hPI : pyIter = PI
  wp_walk
  subst hPI
  refine wpAny_pyIter_tuple hl1 (wpAny_bind (wpAny_runValue ?_))
  have hz : (s.heap.push (emptyS w)).objs.size = s.heap.objs.size + 1 := Heap.size_push _ _
  have hlS := Heap.lt_size hol
  have hne2 : l ≠ (s.heap.push (emptyS w)).objs.size := by
    rw [hz]
    exact Nat.ne_of_lt (Nat.lt_succ_of_lt hlS)
  have hfp : s.heap.objs.size ∉ [(s.heap.push (emptyS w)).objs.size, l] := fun q => by
    rcases List.mem_cons.mp q with q | q
    · rw [hz] at q
      exact Nat.ne_of_lt (Nat.lt_succ_self _) q
    · exact Nat.ne_of_gt hlS (List.mem_singleton.mp q)
  rw [hlen] at hb
  refine ni_loop ((Walks.tuple (by simp [hh]) _ l hne2 its).toS) s.heap.objs.size hfp (fun i => ns.getD i 0) (fun i v hv => IntsAre.int_at hi i v (by rw [Array.getElem?_toList]; exact hv)) hb (its.size - 0) 0 { s with heap := (s.heap.push (emptyS w)).push { cls := .type "tuple_iterator", data := .fields #[.ref l, .int 0 0] } } rfl (Nat.zero_le _) ⟨⟨_, Heap.get?_push_size _ rfl, rfl, rfl⟩, hl1.push _⟩ ⟨0, Nat.le_refl _, ?_⟩ fun s1 hm hO1 => ?_
  · exact (setR_fresh w).at fun o e => Heap.get?_push_of_some _ e
  · obtain ⟨h1, g1, d1, t1, o1⟩ := s1
    obtain rfl : g1 = s.gens := hm.gens
    obtain rfl : d1 = s.drawn := hm.drawn
    obtain rfl : o1 = s.os := hm.os
    rw [← hlen] at hO1
    refine wpAny_pure (wpAny_pure (hR h1 t1 ⟨hO1, fun b ob hb2 e => hm.heap b ob (fun q => ?_) (Heap.get?_push_of_some _ (Heap.get?_push_of_some _ e))⟩))
    rcases List.mem_cons.mp q with q | q
    · exact Nat.ne_of_lt hb2 q
    · rw [List.mem_singleton, hz] at q
      exact Nat.ne_of_lt (Nat.lt_succ_of_lt hb2) q
end
end Tr
/-! ## TrP5 -/
set_option Elab.async false
set_option linter.all false
set_option maxRecDepth 100000
set_option maxHeartbeats 4000000
namespace Tr
open PySem PySem.Spec PyProof.Rows L2
section
variable {P : Program} {w : World} {E : Value → Shared → Prop} {s : Shared}
theorem init_niL {l : Addr} {its : Array Value} {ns : List Int} (hl : s.heap.IsList l its) (hi : IntsAre its.toList ns) (hb : ns.length + 1 < scanBound) {A : Around} (hh : A.handled = none) {Pq : Fin → Shared → Prop} (hR : ∀ h' tk, MadeN w s ns h' → Pq (.done (.ret .none)) { s with heap := h', toks := tk }) :
    wpAny (model P w) A (Builtin.«set.__init__» ⟨[.ref s.heap.objs.size, .ref l], []⟩) Pq E { s with heap := s.heap.push (emptyS w) } := by
  have hlen : ns.length = its.size := by rw [← IntsAre.length hi, Array.length_toList]
  obtain ⟨⟨oc, od, odt, osl⟩, hol, hcl, nl, hdl⟩ := hl
  obtain rfl : oc = .type "list" := hcl
  obtain rfl : odt = .seq its nl := hdl
  have hol' : (s.heap.push (emptyS w)).get? l = some { cls := .type "list", dict := od, data := .seq its nl, slots := osl } := Heap.get?_push_of_some _ hol
  have hS : (s.heap.push (emptyS w)).get? s.heap.objs.size = some (emptyS w) := Heap.get?_push_size _ rfl
  have hsls := F.sub_list_set
  have hslf := F.sub_list_frozenset
  have hne : (Value.type "list" == Value.type "dict") = false := by decide
  have hl1 : (s.heap.push (emptyS w)).IsList l its := ⟨_, hol', rfl, nl, rfl⟩
  unfold Builtin.«set.__init__» noKeywords Builtin.Frozenset.updateFrom
  generalize hPI : pyIter = PI
  wp_walk
  subst hPI
  refine wpAny_pyIter_list hl1 (wpAny_bind (wpAny_runValue ?_))
  have hz : (s.heap.push (emptyS w)).objs.size = s.heap.objs.size + 1 := Heap.size_push _ _
  have hlS := Heap.lt_size hol
  have hne2 : l ≠ (s.heap.push (emptyS w)).objs.size := by
    rw [hz]
    exact Nat.ne_of_lt (Nat.lt_succ_of_lt hlS)
  have hfp : s.heap.objs.size ∉ [(s.heap.push (emptyS w)).objs.size, l] := fun q => by
    rcases List.mem_cons.mp q with q | q
    · rw [hz] at q
      exact Nat.ne_of_lt (Nat.lt_succ_self _) q
    · exact Nat.ne_of_gt hlS (List.mem_singleton.mp q)
  rw [hlen] at hb
  refine ni_loop ((Walks.list (by simp [hh]) _ l hne2 its).toS) s.heap.objs.size hfp (fun i => ns.getD i 0) (fun i v hv => IntsAre.int_at hi i v (by rw [Array.getElem?_toList]; exact hv)) hb (its.size - 0) 0 { s with heap := (s.heap.push (emptyS w)).push { cls := .type "list_iterator", data := .fields #[.ref l, .int 0 0] } } rfl (Nat.zero_le _) ⟨⟨_, Heap.get?_push_size _ rfl, rfl, rfl⟩, hl1.push _⟩ ⟨0, Nat.le_refl _, ?_⟩ fun s1 hm hO1 => ?_
  · exact (setR_fresh w).at fun o e => Heap.get?_push_of_some _ e
  · obtain ⟨h1, g1, d1, t1, o1⟩ := s1
    obtain rfl : g1 = s.gens := hm.gens
    obtain rfl : d1 = s.drawn := hm.drawn
    obtain rfl : o1 = s.os := hm.os
    rw [← hlen] at hO1
    refine wpAny_pure (wpAny_pure (hR h1 t1 ⟨hO1, fun b ob hb2 e => hm.heap b ob (fun q => ?_) (Heap.get?_push_of_some _ (Heap.get?_push_of_some _ e))⟩))
    rcases List.mem_cons.mp q with q | q
    · exact Nat.ne_of_lt hb2 q
    · rw [List.mem_singleton, hz] at q
      exact Nat.ne_of_lt (Nat.lt_succ_of_lt hb2) q
end
/-! ### the plain side -/
def insI (x : Int) : List Int → List Int
  | [] => [x]
  | y :: ys => if x < y then x :: y :: ys else if x = y then y :: ys else y :: insI x ys
/-- the numbers, each once, rising -/
def sortI (l : List Int) : List Int := l.foldr insI []
abbrev UpI (l : List Int) : Prop := l.Pairwise (· < ·)
theorem insI_in {x y : Int} : ∀ {l : List Int}, y ∈ insI x l ↔ y = x ∨ y ∈ l
  | [] => by simp [insI]
  | z :: l => by
    unfold insI
    by_cases h1 : x < z
    · rw [if_pos h1]; simp
    · rw [if_neg h1]
      by_cases h2 : x = z
      · rw [if_pos h2, h2]; simp
      · rw [if_neg h2, List.mem_cons, insI_in (l := l), List.mem_cons]
        constructor
        · rintro (h | h | h)
          · exact .inr (.inl h)
          · exact .inl h
          · exact .inr (.inr h)
        · rintro (h | h | h)
          · exact .inr (.inl h)
          · exact .inl h
          · exact .inr (.inr h)
theorem insI_rise {x : Int} : ∀ {l : List Int}, UpI l → UpI (insI x l)
  | [], _ => by simp [insI]
  | z :: l, h => by
    obtain ⟨h1, h2⟩ := List.pairwise_cons.mp h
    unfold insI
    by_cases c1 : x < z
    · rw [if_pos c1]
      exact List.pairwise_cons.mpr ⟨fun y hy => (List.mem_cons.mp hy).elim (fun e => e ▸ c1) fun hy => Int.lt_trans c1 (h1 y hy), h⟩
    · rw [if_neg c1]
      by_cases c2 : x = z
      · rw [if_pos c2]; exact h
      · rw [if_neg c2]
        refine List.pairwise_cons.mpr ⟨fun y hy => ?_, insI_rise h2⟩
        rcases insI_in.mp hy with e | hy
        · rw [e]; omega
        · exact h1 y hy
theorem sortI_rise : ∀ l : List Int, UpI (sortI l)
  | [] => List.Pairwise.nil
  | x :: l => insI_rise (sortI_rise l)
theorem sortI_in {y : Int} : ∀ {l : List Int}, y ∈ sortI l ↔ y ∈ l
  | [] => Iff.rfl
  | x :: l => by
    show y ∈ insI x (sortI l) ↔ _
    rw [insI_in, sortI_in, List.mem_cons]
theorem riseI_eq : ∀ {l m : List Int}, UpI l → UpI m → (∀ x, x ∈ l ↔ x ∈ m) → l = m
  | [], [], _, _, _ => rfl
  | [], y :: m, _, _, h => absurd ((h y).mpr List.mem_cons_self) (List.not_mem_nil)
  | x :: l, [], _, _, h => absurd ((h x).mp List.mem_cons_self) (List.not_mem_nil)
  | x :: l, y :: m, hl, hm, h => by
    obtain ⟨l1, l2⟩ := List.pairwise_cons.mp hl
    obtain ⟨m1, m2⟩ := List.pairwise_cons.mp hm
    have e : x = y := by
      rcases List.mem_cons.mp ((h x).mp List.mem_cons_self) with e | e
      · exact e
      · rcases List.mem_cons.mp ((h y).mpr List.mem_cons_self) with e2 | e2
        · exact e2.symm
        · have := m1 x e
          have := l1 y e2
          omega
    subst e
    rw [riseI_eq l2 m2 fun z => ?_]
    constructor
    · intro hz
      rcases List.mem_cons.mp ((h z).mp (List.mem_cons_of_mem _ hz)) with e | e
      · have := l1 z hz
        omega
      · exact e
    · intro hz
      rcases List.mem_cons.mp ((h z).mpr (List.mem_cons_of_mem _ hz)) with e | e
      · have := m1 z hz
        omega
      · exact e
theorem metN_iff {ns : List Int} {k : Int} : metN (fun i => ns.getD i 0) ns.length k = true ↔ k ∈ ns := by
  unfold metN
  rw [List.any_eq_true]
  constructor
  · rintro ⟨i, hi, e⟩
    have hi := List.mem_range.mp hi
    rw [of_decide_eq_true e]
    show ns.getD i 0 ∈ ns
    rw [List.getD_eq_getElem?_getD, List.getElem?_eq_getElem hi]
    exact List.getElem_mem hi
  · intro h
    obtain ⟨i, hi, e⟩ := List.getElem_of_mem h
    refine ⟨i, List.mem_range.mpr hi, decide_eq_true ?_⟩
    show k = ns.getD i 0
    rw [List.getD_eq_getElem?_getD, List.getElem?_eq_getElem hi]
    exact e.symm
/-- sorted(set(x)): x a text, or ints in a list or a tuple -/
def fSortSetG (fa : FE) : FE := fun ρ => bnd (fa ρ) fun d => lif fun μ => match view μ d with
  | .v (.str z) => if z.length ≤ 60 then some (.lst ((sortU z.cps.toList).map fun c => .v (.str ⟨#[c]⟩))) else none
  | .tup xs => (intsB xs).bind fun ns => if ns.length ≤ 60 then some (.lst ((sortI ns).map fun i => .v (.int i))) else none
  | .lst xs => (intsB xs).bind fun ns => if ns.length ≤ 60 then some (.lst ((sortI ns).map fun i => .v (.int i))) else none
  | _ => none
theorem ints_rel {g : G} {θ : Cs} {H : Hp} : ∀ l : List Int, RpL g θ H (l.map fun i => D.v (.int i)) (l.map V.int)
  | [] => by
    show RpL g θ H [] []
    unfold RpL
    rfl
  | c :: l => by
    show RpL g θ H (D.v (.int c) :: _) (V.int c :: _)
    unfold RpL
    exact ⟨_, _, rfl, rp_v trivial, ints_rel l⟩
section
variable {X : Cx} {LO : LOs} {W : WX} {a : Expr} {fa : FE} {pos : Pos}
theorem de_sortSetG {p p2 q : Pos} (hm : X.mg "sorted" = none) (hm2 : X.mg "set" = none) (hc : X.calm = true) (ha : DE X LO W a fa) (hg : Gl X "sorted" := by rfl) (hg2 : Gl X "set" := by rfl)
    (na : starEach [a] X.env = (false, eval a X.env) :: starEach [] X.env := by rfl) : DE X LO W (.Call (.Name "sorted" p) [.Call (.Name "set" p2) [a] [] q] [] pos) (fSortSetG fa) := by
  refine ⟨fun pins s σ H Q I h => ?_⟩
  obtain ⟨θ, ρ, μ, re, rl, h⟩ := h
  have h' : lE (gX X LO) W fa σ H fun x H1 => (∃ z : Str, x = .str z ∧ z.length ≤ 60 ∧ ∀ l, H1 l = none → Q (.ref l) (upd H1 l (.lst ((sortU z.cps.toList).map fun c => V.str ⟨#[c]⟩)))) ∨
      ∃ (b : Addr) (ns : List Int), x = .ref b ∧ (SqL X.K H1 b (ns.map V.int) ∨ SqT X.K H1 b (ns.map V.int)) ∧ ns.length ≤ 60 ∧ ∀ l, H1 l = none → Q (.ref l) (upd H1 l (.lst ((sortI ns).map V.int))) := ⟨θ, ρ, μ, re, rl, post_bnd h fun d μ1 θ1 u H1 e1 rl1 r1 q1 => by
    obtain ⟨d', h1, h2⟩ := post_lif q1
    split at h1
    · rename_i z hv
      have hv := view_v hv
      subst hv
      split at h1
      · rename_i hz
        cases h1
        exact .inl ⟨z, (rp_str r1).1, hz, fun l hl => new_lst rl1 (chars_rel _) hl h2⟩
      · cases h1
    · rename_i xs hv
      have hv := view_tup hv
      subst hv
      obtain ⟨b, vs, e2, h3, h4⟩ := rp_tup r1
      cases hi : intsB xs with
      | none => rw [hi] at h1; cases h1
      | some ns =>
        rw [hi, Option.bind_some] at h1
        split at h1
        · rename_i hz
          cases h1
          have e5 := intsB_of h4 hi
          subst e5
          exact .inr ⟨b, ns, e2, .inr h3, hz, fun l hl => new_lst rl1 (ints_rel _) hl h2⟩
        · cases h1
    · rename_i xs hv
      obtain ⟨b, vs, e2, h3, h4⟩ := rp_view rl1 r1 hv
      cases hi : intsB xs with
      | none => rw [hi] at h1; cases h1
      | some ns =>
        rw [hi, Option.bind_some] at h1
        split at h1
        · rename_i hz
          cases h1
          have e5 := intsB_of h4 hi
          subst e5
          exact .inr ⟨b, ns, e2, .inl h3, hz, fun l hl => new_lst rl1 (ints_rel _) hl h2⟩
        · cases h1
    · cases h1⟩
  refine Call_ (ld_blt I hg hm (show bootBuiltins "sorted" = some (.builtin "sorted") by decide +kernel) ?_)
  refine PyProof.Rows.callWith_builtin1 (PyProof.Rows.args_cons ?_ rfl) rfl rfl
  refine Call_ (ld_blt I hg2 hm2 boot_set ?_)
  refine PyProof.Rows.callWith_type1 (PyProof.Rows.args_cons (thn (PE.run ha pins s σ H _ I h') fun v s1 ⟨x, H1, I1, r1, q1⟩ => PyProof.Rows.args_nil ?_) na) na rfl
  rcases q1 with ⟨z, ex, hz, q1⟩ | ⟨b, ns, ex, hq, hz, q1⟩
  · subst ex
    obtain ⟨t, rfl⟩ := r1
    have hz2 : z.cps.size ≤ 60 := hz
    have hs : z.cps.size + 1 < scanBound := by unfold scanBound; omega
    refine call_set_tx (I1.ok.hd hc) hs fun h' tk ⟨hO, hk⟩ => PyProof.Rows.args_nil ?_
    have I2 : Inv X pins σ H1 { s1 with heap := h', toks := tk } := I1.kept fun b o e => hk b o (Heap.lt_size e) e
    have hO : TxO X.prog X.w ({ s1 with heap := h', toks := tk } : Shared).heap s1.heap.objs.size (metS (signV z) z.cps.size) z.cps.size := hO
    generalize ({ s1 with heap := h', toks := tk } : Shared) = s2 at I2 hO ⊢
    refine sorted_tx hO (I2.ok.hd hc) (Nat.lt_of_le_of_lt hz2 (by decide)) fun s' p out c ks k g o hp hget hst hso hnd hmem hle => ?_
    have ek := sorted_is hso hnd hmem
    have hlen : (ks.map V.str).length ≤ sizeLine := by
      rw [List.length_map, sizeLine_eq]
      omega
    have hn : H1 p = none := I2.hok.fresh hp
    have J : Inv X pins σ (upd H1 p (.lst (ks.map V.str))) { s2 with heap := s'.heap, gens := s'.gens, drawn := s'.drawn, toks := s'.toks } := I2.call (ch := []) (Un.laid k hp hn) (I2.hok.laid k hp ⟨hlen, out.toList, c, vals_of_strs hst, hget⟩) (by rw [g]; exact I2.bare) (fun _ z => nomatch z)
    have e : s' = { s2 with heap := s'.heap, gens := s'.gens, drawn := s'.drawn, toks := s'.toks } := by
      obtain ⟨h2, g2, d2, t2, o2⟩ := s'
      obtain rfl : o2 = s2.os := o
      rfl
    rw [e]
    have eq : (ks.map V.str) = (sortU z.cps.toList).map fun c => V.str ⟨#[c]⟩ := by
      rw [ek, List.map_map]
      rfl
    rw [eq] at J
    exact ⟨.ref p, _, J, rfl, q1 p hn⟩
  · subst ex
    cases r1
    have hs : ns.length + 1 < scanBound := by unfold scanBound; omega
    refine call_set_by (Md := MadeN X.w s1 ns) (I1.ok.hd hc) (fun {A' E' Pq} hh hR => ?_) fun h' tk m => PyProof.Rows.args_nil ?_
    · rcases hq with hq | hq
      · obtain ⟨its, r, pl, _⟩ := I1.list hq
        exact init_niL pl.isList (by simpa using r.ints) hs hh hR
      · obtain ⟨its, r, pl, _⟩ := I1.tuple hq
        exact init_niT pl (by simpa using r.ints) hs hh hR
    · obtain ⟨⟨m, hm1, hO⟩, hk⟩ := m
      have I2 : Inv X pins σ H1 { s1 with heap := h', toks := tk } := I1.kept fun b o e => hk b o (Heap.lt_size e) e
      have hO : SetR X.w ({ s1 with heap := h', toks := tk } : Shared).heap s1.heap.objs.size (metN (fun i => ns.getD i 0) ns.length) m := hO
      generalize ({ s1 with heap := h', toks := tk } : Shared) = s2 at I2 hO ⊢
      refine sorted_set hO (I2.ok.hd hc) (by omega) fun s' p out c ks k g o hp hget hst hup hmem hle => ?_
      have ek : ks = sortI ns := riseI_eq hup (sortI_rise _) fun x => by rw [hmem, metN_iff, sortI_in]
      have hlen : (ks.map V.int).length ≤ sizeLine := by
        rw [List.length_map, hle, sizeLine_eq]
        omega
      have hn : H1 p = none := I2.hok.fresh hp
      have J : Inv X pins σ (upd H1 p (.lst (ks.map V.int))) { s2 with heap := s'.heap, gens := s'.gens, drawn := s'.drawn, toks := s'.toks } := I2.call (ch := []) (Un.laid k hp hn) (I2.hok.laid k hp ⟨hlen, out.toList, c, vals_of_ints hst, hget⟩) (by rw [g]; exact I2.bare) (fun _ z => nomatch z)
      have e : s' = { s2 with heap := s'.heap, gens := s'.gens, drawn := s'.drawn, toks := s'.toks } := by
        obtain ⟨h2, g2, d2, t2, o2⟩ := s'
        obtain rfl : o2 = s2.os := o
        rfl
      rw [e]
      rw [ek] at J
      exact ⟨.ref p, _, J, rfl, q1 p hn⟩
end
end Tr
/-! ## TrP6 -/
set_option Elab.async false
set_option linter.all false
set_option maxRecDepth 100000
set_option maxHeartbeats 4000000
/-! repr of whole numbers of up to some thousand digits. -/
namespace Tr
open PySem PySem.Spec PyProof.Rows L2
abbrev digKey : Str := "sys.int_max_str_digits"
theorem overDigits {P : Program} {w : World} {A : Around} {E : Value → Shared → Prop} {s : Shared} {m : Str → Option Value} {a : Int} {Q : Option Nat → Shared → Prop} (hn : s.heap.Ns cStatics m) (hm : m digKey = none) (ha : a.natAbs.log2 < 12000) (h : Q none s) :
    wpAny (model P w) A (Builtin.overDigitLimit? a) Q E s := by
  unfold Builtin.overDigitLimit?
  by_cases h1 : a.natAbs.log2 < 1920
  · simp only [h1, if_true]
    exact wpAny_pure h
  · simp only [h1, if_false]
    unfold Builtin.intMaxStrDigits
    refine wpAny_bind (wpAny_bind (wpAny_nsGet hn ?_))
    rw [show m "sys.int_max_str_digits" = none from hm]
    dsimp only
    refine wpAny_pure ?_
    have h2 : ¬ (a.natAbs.log2 / 30 + 1 > 1000) := by omega
    rw [if_neg h2]
    have h3 : a.natAbs.log2 < 12900 := by omega
    simp [h3]
    exact wpAny_pure h
theorem repr_big {P : Program} {w : World} {A : Around} {E : Value → Shared → Prop} {s : Shared} {m : Str → Option Value} {a : Int} {t : Tok} {Q : Value → Shared → Prop} (hn : s.heap.Ns cStatics m) (hm : m digKey = none) (ha : a.natAbs.log2 < 12000) (hz : (Str.ofString (toString a)).length ≤ sizeLine)
    (h : Q (.str (toString a) s.toks) { s with toks := s.toks + 1 }) : wpAny (model P w) A (call (.builtin "repr") [.int a t]) Q E s := by
  refine Calls.call_function_entry F.kind_repr F.plain_repr F.entry_repr (F.args_repr1 _) ?_
  unfold Builtin.«repr»
  refine wpAny_bind (m := oneArg "repr" _) (wpAny_pure ?_)
  simp only [cRoomFor, show [Value.int a t].any Value.onHeap = false from rfl, Bool.false_eq_true, if_false, pure_bind]
  refine wpAny_bind (wpAny_specialOf (name := Str.ofString "__repr__") (typeIs_int s a t) F.slot_int_repr.lookup ?_)
  refine wpAny_bind (m := callSpecialIfBound? _ _) (wpAny_callSpecialIfBound?_slot (name := Str.ofString "__repr__") (typeIs_int s a t) F.slot_int_repr (wpAny_call_entry F.slot_int_repr (typeIs_int s a t) F.entry_int_repr ?_ (F.args_int_repr_1 _)))
  show wpAny _ _ (Builtin.overDigitLimit? a >>= _) _ _ _
  refine wpAny_bind (overDigits hn hm ha ?_)
  refine wpAny_bind (wpAny_mkStr ?_ hz)
  refine wpAny_pure ⟨_, rfl, ?_⟩
  exact wpAny_bind (wpAny_isInstance (T := "str") (b := true) rfl isSubtype_str_str (wpAny_pure ⟨_, rfl, h⟩))
theorem ns_none {K : PySem.W.Frag} {h : Heap} {a : Addr} {m : Str → Option Value} {n : Str} (X : K.In h) (G : h.Ns a m) (e : PySem.W.nsIn K a n = some none) : m n = none := by
  obtain ⟨ob, en, k, h1, h2, h3, h4⟩ := G
  unfold PySem.W.nsIn at e
  split at e
  · rename_i c d en' n' sl q
    have z := X _ _ q
    rw [h1] at z
    cases z
    cases h2
    split at e
    · cases e
    · rename_i hx
      rw [← h4]
      unfold nsFind findBy
      rw [← Array.find?_toList, hx]
      rfl
  · cases e
/-- repr, of great numbers too -/
def dReprG : OpN
  | [.v (.int i)], _ => if i.natAbs.log2 < 12000 ∧ (Str.ofString (toString i)).length ≤ 16777216 then some (.v (.str (toString i))) else none
  | [d], μ => dRepr [d] μ
  | _, _ => none
section
variable {X : Cx} {LO : LOs}
theorem call_reprG {k : Nat} (hr : Rm k X.A) (hd : PySem.W.nsIn X.K cStatics digKey = some none) : CallR X (.builtin "repr") (rDn (gX X LO) dReprG) := by
  intro pins s σ H xs us Q I r hh
  obtain ⟨θ, μ, ds, d', h1, rl, e, k⟩ := hh
  unfold dReprG at e
  split at e
  · rename_i i
    split at e
    · rename_i hc
      cases e
      obtain ⟨x, rfl, h2⟩ := rpL_1 h1
      obtain ⟨u, rfl, ru⟩ := vals1 r
      cases rp_int h2
      obtain ⟨t, rfl⟩ := ru
      obtain ⟨mc, hmc, _⟩ := I.nolimit
      exact repr_big hmc (ns_none I.kIn hmc hd) hc.1 (line_of hc.2) ⟨.str (toString i), H, I.tok _, ⟨_, rfl⟩, k θ _ H (Ext.refl _ _) rl (rp_v (okV_of hc.2))⟩
    · cases e
  · exact call_reprD hr pins s σ H xs us Q I r ⟨θ, μ, _, d', h1, rl, e, k⟩
  · cases e
end
end Tr
/-! ## TrP7 -/
set_option Elab.async false
set_option linter.all false
set_option maxRecDepth 100000
set_option maxHeartbeats 4000000
/-! Defs that make lambdas of their own. -/
namespace Tr
open PySem PySem.Spec PyProof.Rows L2
mutual
/-- no lambda in it -/
def nlD : D → Bool
  | .tup xs => nlDs xs
  | .lst xs => nlDs xs
  | .lam _ => false
  | _ => true
def nlDs : List D → Bool
  | [] => true
  | d :: ds => nlD d && nlDs ds
end
def nlK : List (Key × D) → Bool
  | [] => true
  | x :: xs => nlD x.2 && nlK xs
def nlC : Cell → Bool
  | .lst xs => nlDs xs
  | .dic kvs => nlK kvs
  | .tab _ => true
def nlMu (μ : Mu) : Bool := μ.all nlC
section
variable {K : PySem.W.Frag} {mg : Str → Option Value} {LO LO' : LOs} {θ : Cs} {H : Hp} {μ : Mu}
mutual
theorem Rp.lo : ∀ {d : D} {u : V}, nlD d = true → Rp ⟨K, mg, LO⟩ θ H d u → Rp ⟨K, mg, LO'⟩ θ H d u
  | .v _, _, _, h => by
    unfold Rp at h ⊢
    exact h
  | .tup xs, u, n, h => by
    unfold nlD at n
    unfold Rp at h ⊢
    obtain ⟨p, vs, h1, h2, h3⟩ := h
    exact ⟨p, vs, h1, h2, RpL.lo n h3⟩
  | .lst xs, u, n, h => by
    unfold nlD at n
    unfold Rp at h ⊢
    obtain ⟨p, vs, h1, h2, h3⟩ := h
    exact ⟨p, vs, h1, h2, RpL.lo n h3⟩
  | .r _, u, _, h => by
    unfold Rp at h ⊢
    exact h
  | .exn c, u, _, h => by
    unfold Rp at h ⊢
    exact h
  | .lam k, u, n, h => by
    unfold nlD at n
    cases n
theorem RpL.lo : ∀ {ds : List D} {us : List V}, nlDs ds = true → RpL ⟨K, mg, LO⟩ θ H ds us → RpL ⟨K, mg, LO'⟩ θ H ds us
  | [], _, _, h => by
    unfold RpL at h ⊢
    exact h
  | d :: ds, _, n, h => by
    unfold nlDs at n
    rw [Bool.and_eq_true] at n
    unfold RpL at h ⊢
    obtain ⟨v, r, h1, h2, h3⟩ := h
    exact ⟨v, r, h1, Rp.lo n.1 h2, RpL.lo n.2 h3⟩
end
theorem RpK.lo : ∀ {ds : List (Key × D)} {us : List (Key × V)}, nlK ds = true → RpK ⟨K, mg, LO⟩ θ H ds us → RpK ⟨K, mg, LO'⟩ θ H ds us
  | [], _, _, h => h
  | d :: ds, _, n, ⟨v, r, h1, h2, h3⟩ => by
    unfold nlK at n
    rw [Bool.and_eq_true] at n
    exact ⟨v, r, h1, Rp.lo n.1 h2, RpK.lo n.2 h3⟩
theorem CellOk.lo {c : Cell} {p : Addr} (n : nlC c = true) (h : CellOk ⟨K, mg, LO⟩ θ H c p) : CellOk ⟨K, mg, LO'⟩ θ H c p := by
  cases c with
  | lst xs =>
    obtain ⟨vs, h1, h2⟩ := h
    exact ⟨vs, h1, RpL.lo n h2⟩
  | dic xs =>
    obtain ⟨vs, h1, h2⟩ := h
    exact ⟨vs, h1, RpK.lo n h2⟩
  | tab x => exact h
theorem Rel.lo (n : nlMu μ = true) (R : Rel ⟨K, mg, LO⟩ θ μ H) : Rel ⟨K, mg, LO'⟩ θ μ H := ⟨R.len, R.nd, R.sub, R.so, fun i c e => by
  obtain ⟨p, h1, h2⟩ := R.ok i c e
  exact ⟨p, h1, h2.lo (List.all_eq_true.mp n c (List.mem_of_getElem? e))⟩⟩
end
def nolR : Option (R D) → Option (R D)
  | some (.ok d μ) => if (nlD d && nlMu μ) = true then some (.ok d μ) else none
  | some (.ex c μ) => if nlMu μ = true then some (.ex c μ) else none
  | none => none
/-- nothing of lambdas comes in or goes out -/
def nolF (F : List D → M D) : List D → M D := fun ds μ => if (nlDs ds && nlMu μ) = true then nolR (F ds μ) else none
theorem post_lo {K : PySem.W.Frag} {mg : Str → Option Value} {LO LO' : LOs} {W : WX} {θ : Cs} {H : Hp} {σ : L2.St} {Q : VK} : ∀ {r : Option (R D)}, Post ⟨K, mg, LO⟩ W θ H σ (Rp ⟨K, mg, LO⟩) Q (nolR r) → Post ⟨K, mg, LO'⟩ W θ H σ (Rp ⟨K, mg, LO'⟩) Q r
  | some (.ok d μ), p => by
    unfold nolR at p
    dsimp only at p
    split at p
    · rename_i hc
      rw [Bool.and_eq_true] at hc
      exact fun θ' b H' e rl r => p θ' b H' e (rl.lo hc.2) (r.lo hc.1)
    · exact p.elim
  | some (.ex c μ), p => by
    unfold nolR at p
    dsimp only at p
    split at p
    · rename_i hc
      exact fun θ' H' C e rl hm => p θ' H' C e (rl.lo hc) hm
    · exact p.elim
  | none, p => p
theorem nol_at {F : List D → M D} {ds : List D} {μ μ' : Mu} {d : D} (h0 : nlDs ds = true) (h1 : nlMu μ = true) (h : F ds μ = some (.ok d μ')) (h2 : nlD d = true) (h3 : nlMu μ' = true) : nolF F ds μ = some (.ok d μ') := by
  unfold nolF
  rw [h0, h1, show (true && true) = true from rfl, if_pos rfl, h]
  unfold nolR
  dsimp only
  rw [h2, h3]
  rfl
/-- THE RULE for a def that makes lambdas -/
theorem okL {P : Program} {w : World} {K : PySem.W.Frag} {mg : Str → Option Value} {base : Heap} {x : Str} {st : Stmt} {f c : Addr} {N ps : List Str} {k : Nat} {F0 : FS} {oc kV doc pm ct : Value} {od an : Option Addr} {osl : Array (Option Value)} {LOf : Shared → LOs}
    (lk : K.lookup f = some ⟨oc, od, .func (PySem.W.fnOf x x (defArgs st) (defBody st) (defScope st) .none kV doc pm an (.ref c) ct), osl⟩) (hcd : PySem.W.codeIn K (.ref c) x = true) (hk : PySem.W.keepIn K (.ref f) = true) (S : FnScope N ps (defScope st)) (gm : mg x = some (.ref f))
    (bd : Binds K (PySem.W.fnOf x x (defArgs st) (defBody st) (defScope st) .none kV doc pm an (.ref c) ct) ps [])
    (hb : ∀ (A : Around) (outer : List Env) (s : Shared) (H : Hp) (E : XK), Rm k (A.deeper (envOfC x (defScope st) s.heap.objs.size f (.ref c))) →
      DSs (CxD P w K mg base N x st f (.ref c) A outer s H E) (LOf s) (WD E) (defBody st) F0) :
    FnAt P w K mg base (k + 1) f (PySem.W.fnOf x x (defArgs st) (defBody st) (defScope st) .none kV doc pm an (.ref c) ct) ps x (nolF (bodyF F0 ps.length N.length)) := by
  refine ⟨⟨fun vs H Q E h => ?_, fun A outer s H args us vs Q E hr e0 hbd hv h => ?_⟩, gm, hk, bd⟩
  · obtain ⟨LO, θ, μ, ds, r1, r2, p⟩ := h
    unfold nolF bodyF at p
    split at p
    · split at p
      · rw [← r1.len]; assumption
      · exact p.elim
    · exact p.elim
  · obtain ⟨LO, θ, μ, ds, r1, r2, p⟩ := h
    unfold nolF at p
    split at p
    · rename_i hc
      rw [Bool.and_eq_true] at hc
      have r1 : RpL ⟨K, mg, LOf s⟩ θ H ds vs := r1.lo hc.1
      have r2 : Rel ⟨K, mg, LOf s⟩ θ μ H := r2.lo hc.2
      have p := post_lo (LO' := LOf s) p
      unfold bodyF at p
      split at p
      · rename_i hn
        refine LamX.run_ofS (N := N) (ps := ps) (CX := L2.CX P w) lk hcd S hr.room e0 hbd hv (by rw [← r1.len]; exact hn) fun hr' => ?_
        refine ⟨_, hb A outer s H E ⟨hr', hr.gd⟩, θ, ds.map some ++ List.replicate (N.length - ps.length) none, μ, renv_start r1 hn, r2, ?_⟩
        cases e : F0 (ds.map some ++ List.replicate (N.length - ps.length) none) μ with
        | none => rw [e] at p; exact p
        | some r =>
          rw [e] at p
          cases r with
          | ex c m => exact fun θ' σ' H' C e1 rl hm => p θ' H' C e1 rl hm
          | ok o m =>
            cases o with
            | nx ρ' => exact fun θ' σ' H' e1 rl re => p θ' _ H' e1 rl (rp_v trivial)
            | rt d => exact fun θ' u H' e1 rl r => p θ' u H' e1 rl r
            | bk ρ' => exact p.elim
            | ct ρ' => exact p.elim
      · exact p.elim
    · exact p.elim
end Tr
/-! ## TrW -/
set_option Elab.async false
set_option linter.all false
set_option maxRecDepth 100000
set_option maxHeartbeats 2000000
namespace Tr
open PySem PySem.Spec PyProof.Rows L2
/-! ### plain reckoning with readings -/
section
variable {α β γ : Type}
theorem bnd_ret {a : α} {k : α → M β} : bnd (ret a) k = k a := rfl
theorem bnd_no {k : α → M β} : bnd (no : M α) k = no := rfl
theorem bnd_assoc {f : M α} {g : α → M β} {k : β → M γ} : bnd (bnd f g) k = bnd f fun a => bnd (g a) k := by
  funext μ
  unfold bnd
  cases f μ with
  | none => rfl
  | some r => cases r <;> rfl
theorem lif_some {a : α} : lif (fun _ => some a) = ret a := rfl
theorem lif_eq {k : Mu → Option α} {a : α} (h : ∀ μ, k μ = some a) : lif k = ret a := by
  funext μ
  unfold lif
  rw [h μ]
  rfl
theorem lif_gN {i : Nat} {d : D} {ρ : En} : lif (gN i d ρ) = ret (ρ.set i (some d)) := rfl
theorem bodyF_rt {F0 : FS} {n N : Nat} {ds : List D} {d : D} (hn : ds.length = n) (h : F0 (ds.map some ++ List.replicate (N - n) none) = ret (.rt d)) : bodyF F0 n N ds = ret d := by
  funext μ
  unfold bodyF
  rw [if_pos hn, h]
  rfl
theorem bodyF_nx {F0 : FS} {n N : Nat} {ds : List D} {ρ : En} (hn : ds.length = n) (h : F0 (ds.map some ++ List.replicate (N - n) none) = ret (.nx ρ)) : bodyF F0 n N ds = ret (.v .non) := by
  funext μ
  unfold bodyF
  rw [if_pos hn, h]
  rfl
theorem fAll_nil {ρ : En} : fAll [] ρ = ret [] := rfl
theorem fAll_cons {f : FE} {fs : List FE} {ρ : En} : fAll (f :: fs) ρ = bnd (f ρ) fun d => bnd (fAll fs ρ) fun ds => ret (d :: ds) := rfl
theorem asB_bl {b : Bool} : asB (.v (.bl b)) = ret b := rfl
/-! comprehensions whose turns leave everything as it is -/
theorem lcGo_pure {gt : FG} {ft : FT} {fe : FE} {ρ : En} {p : D → Bool} {g : D → D} : ∀ {ds : List D}, (∀ d ∈ ds, ∃ ρ1, lif (gt d ρ) = ret ρ1 ∧ ft ρ1 = ret (p d) ∧ (p d = true → fe ρ1 = ret (g d))) → lcGo gt ft fe ρ ds = ret ((ds.filter p).map g)
  | [], _ => rfl
  | d :: ds, h => by
    obtain ⟨ρ1, h1, h2, h3⟩ := h d List.mem_cons_self
    unfold lcGo
    rw [h1, bnd_ret, h2]
    have n1 : noex (ret (p d) : M Bool) = ret (p d) := rfl
    rw [n1, bnd_ret, lcGo_pure fun x hx => h x (List.mem_cons_of_mem _ hx)]
    cases hp : p d with
    | true =>
      rw [if_pos rfl, h3 hp]
      have n2 : noex (ret (g d) : M D) = ret (g d) := rfl
      rw [n2, bnd_ret, bnd_ret, List.filter_cons, if_pos hp]
      rfl
    | false =>
      rw [if_neg Bool.false_ne_true, List.filter_cons, hp]
      rfl
theorem lcGo_map {i : Nat} {fe : FE} {ρ : En} {g : D → D} {ds : List D} (h : ∀ d ∈ ds, fe (ρ.set i (some d)) = ret (g d)) : lcGo (gN i) tYesF fe ρ ds = ret (ds.map g) := by
  have z := lcGo_pure (gt := gN i) (ft := tYesF) (fe := fe) (ρ := ρ) (p := fun _ => true) (g := g) (ds := ds) fun d hd => ⟨_, lif_gN, rfl, fun _ => h d hd⟩
  rw [z, List.filter_eq_self.mpr fun _ _ => rfl]
theorem lcGo_mapL {δ : Type} {i : Nat} {fe : FE} {ρ : En} {e g : δ → D} : ∀ {l : List δ}, (∀ a ∈ l, fe (ρ.set i (some (e a))) = ret (g a)) → lcGo (gN i) tYesF fe ρ (l.map e) = ret (l.map g)
  | [], _ => rfl
  | a :: l, h => by
    rw [List.map_cons, List.map_cons]
    unfold lcGo
    rw [lif_gN, bnd_ret, h a List.mem_cons_self]
    have n1 : noex (tYesF (ρ.set i (some (e a)))) = ret true := rfl
    have n2 : noex (ret (g a) : M D) = ret (g a) := rfl
    rw [n1, n2, bnd_ret, if_pos rfl, bnd_ret, lcGo_mapL fun x hx => h x (List.mem_cons_of_mem _ hx), bnd_ret]
theorem lcGo_filterL {δ : Type} {i : Nat} {ft : FT} {fe : FE} {ρ : En} {e g : δ → D} {p : δ → Bool} : ∀ {l : List δ}, (∀ a ∈ l, ft (ρ.set i (some (e a))) = ret (p a) ∧ (p a = true → fe (ρ.set i (some (e a))) = ret (g a))) → lcGo (gN i) ft fe ρ (l.map e) = ret ((l.filter p).map g)
  | [], _ => rfl
  | a :: l, h => by
    obtain ⟨h1, h2⟩ := h a List.mem_cons_self
    rw [List.map_cons, List.filter_cons]
    unfold lcGo
    rw [lif_gN, bnd_ret, h1]
    have n1 : noex (ret (p a) : M Bool) = ret (p a) := rfl
    rw [n1, bnd_ret, lcGo_filterL fun x hx => h x (List.mem_cons_of_mem _ hx)]
    cases hp : p a with
    | true =>
      have n2 : noex (ret (g a) : M D) = ret (g a) := rfl
      rw [if_pos rfl, h2 hp, n2, bnd_ret, bnd_ret, if_pos rfl, List.map_cons]
    | false => rw [if_neg Bool.false_ne_true, if_neg Bool.false_ne_true]
/-- loops that leave everything, each turn a step or an end -/
theorem loopS_cons {gt : FG} {fb : FS} {d : D} {ds : List D} {ρ : En} : loopS gt fb (d :: ds) ρ = bnd (lif (gt d ρ)) fun ρ1 => bnd (fb ρ1) fun o => match o with
  | .nx ρ' => loopS gt fb ds ρ'
  | .ct ρ' => loopS gt fb ds ρ'
  | .bk ρ' => ret (.nx ρ')
  | .rt a => ret (.rt a) := rfl
theorem loopS_nil {gt : FG} {fb : FS} {ρ : En} : loopS gt fb [] ρ = ret (.nx ρ) := rfl
end
/-! ### plain things -/
def plV : V → Bool
  | .non => true
  | .bl _ => true
  | .int _ => true
  | .str z => decide (z.length ≤ 4000) && z.cps.all (· < 128)
  | _ => false
mutual
def plD : D → Bool
  | .v x => plV x
  | .tup xs => plDs xs
  | .lst xs => plDs xs
  | _ => false
def plDs : List D → Bool
  | [] => true
  | d :: ds => plD d && plDs ds
end
mutual
def wt : D → Nat
  | .tup xs => wts xs + 1
  | .lst xs => wts xs + 1
  | _ => 1
def wts : List D → Nat
  | [] => 0
  | d :: ds => wt d + wts ds
end
/-- a thing's built-in class -/
def kd : D → String
  | .v .non => "NoneType"
  | .v (.bl _) => "bool"
  | .v (.int _) => "int"
  | .v (.str _) => "str"
  | .tup _ => "tuple"
  | .lst _ => "list"
  | _ => ""
theorem plDs_iff : ∀ {ds : List D}, plDs ds = true ↔ ∀ d ∈ ds, plD d = true
  | [] => by simp [plDs]
  | d :: ds => by simp [plDs, plDs_iff (ds := ds)]
theorem wts_mem : ∀ {ds : List D} {d : D}, d ∈ ds → wt d ≤ wts ds
  | x :: ds, d, h => by
    rcases List.mem_cons.mp h with h | h
    · subst h; unfold wts; omega
    · have := wts_mem h; unfold wts; omega
theorem wt_pos : ∀ d : D, 1 ≤ wt d
  | .v _ => by unfold wt; omega
  | .tup _ => by unfold wt; omega
  | .lst _ => by unfold wt; omega
  | .r _ => by unfold wt; omega
  | .exn _ => by unfold wt; omega
  | .lam _ => by unfold wt; omega
theorem wts_len : ∀ ds : List D, ds.length ≤ wts ds
  | [] => Nat.le_refl _
  | d :: ds => by
    have := wts_len ds
    have := wt_pos d
    unfold wts
    rw [List.length_cons]
    omega
theorem wts_append : ∀ xs ys : List D, wts (xs ++ ys) = wts xs + wts ys
  | [], ys => by simp [wts]
  | x :: xs, ys => by simp [wts, wts_append xs ys]; omega
theorem isI_pl {d : D} {b : String} (hp : plD d = true) (hb : b ∈ isTys) : lif (dIsI [d, .v (.ty b)]) = ret (.v (.bl (kd d == b || (kd d == "bool" && b == "int")))) := by
  refine lif_eq fun μ => ?_
  unfold dIsI
  dsimp only
  have e : tyD d μ = some (kd d) := by
    cases d with
    | v x => cases x <;> first | rfl | (unfold plD plV at hp; cases hp)
    | tup xs => rfl
    | lst xs => rfl
    | r n => unfold plD at hp; cases hp
    | exn n => unfold plD at hp; cases hp
    | lam n => unfold plD at hp; cases hp
  rw [e]
  unfold isB
  rw [Option.bind_some, if_pos hb]
  rfl
theorem view_pl {μ : Mu} {d : D} (hp : plD d = true) : view μ d = d := by
  cases d with
  | r n => unfold plD at hp; cases hp
  | _ => rfl
/-! arithmetic, comparisons -/
theorem lif_add {i j : Int} : lif (dAdd (.v (.int i)) (.v (.int j))) = ret (.v (.int (i + j))) := rfl
theorem lif_int {f : Int → Int → Option Int} {i j n : Int} (h : f i j = some n) : lif (dInt f (.v (.int i)) (.v (.int j))) = ret (.v (.int n)) := lif_eq fun μ => by
  show (f i j).map _ = _
  rw [h]
  rfl
theorem lif_sub {i j : Int} : lif (dInt iSub (.v (.int i)) (.v (.int j))) = ret (.v (.int (i - j))) := lif_int rfl
theorem lif_mod {i j : Int} (h : 0 < j) : lif (dInt iMod (.v (.int i)) (.v (.int j))) = ret (.v (.int (i % j))) := lif_int (if_pos h)
theorem lif_fdiv {i j : Int} (h : 0 < j) (h2 : j < 1073741824) : lif (dInt iFdiv (.v (.int i)) (.v (.int j))) = ret (.v (.int (i / j))) := lif_int (if_pos ⟨h, h2⟩)
theorem lif_cmp {f : Int → Int → Bool} {i j : Int} : lif (dCmp f (.v (.int i)) (.v (.int j))) = ret (.v (.bl (f i j))) := rfl
theorem lif_lt {i j : Int} : lif (dLt (.v (.int i)) (.v (.int j))) = ret (.v (.bl (decide (i < j)))) := rfl
theorem lif_ltS {a b : Str} : lif (dLt (.v (.str a)) (.v (.str b))) = ret (.v (.bl (decide (a.cps.toList < b.cps.toList)))) := rfl
theorem lif_eqI {i j : Int} : lif (dEq (.v (.int i)) (.v (.int j))) = ret (.v (.bl (i == j))) := rfl
theorem lif_neI {i j : Int} : lif (dNe (.v (.int i)) (.v (.int j))) = ret (.v (.bl (!(i == j)))) := rfl
theorem shaped_str {a : Str} (h : a.cps.all (· < 128) = true) : SeqAt.shaped (.str a) = true := by
  unfold SeqAt.shaped PyData.canLay0 PyData.strOk
  have h2 : a.cps.all (· < 0x110000) = true := by
    rw [Array.all_eq_true] at h ⊢
    intro i hi
    have := h i hi
    simp only [decide_eq_true_eq] at this ⊢
    omega
  rw [h2]
  rfl
theorem lif_eqS {a b : Str} (ha : a.cps.all (· < 128) = true) (hb : b.cps.all (· < 128) = true) : lif (dEq (.v (.str a)) (.v (.str b))) = ret (.v (.bl (a == b))) := rfl
theorem lif_neS {a b : Str} (ha : a.cps.all (· < 128) = true) (hb : b.cps.all (· < 128) = true) : lif (dNe (.v (.str a)) (.v (.str b))) = ret (.v (.bl (!(a == b)))) := rfl
theorem lif_eqSS {a b : Str} : lif (dEq (.v (.str a)) (.v (.str b))) = ret (.v (.bl (a == b))) := rfl
theorem lif_neSS {a b : Str} : lif (dNe (.v (.str a)) (.v (.str b))) = ret (.v (.bl (!(a == b)))) := rfl
/-! sequences -/
theorem lif_lenT {xs : List D} : lif (dLen [.tup xs]) = ret (.v (.int (xs.length : Nat))) := rfl
theorem lif_lenL {xs : List D} : lif (dLen [.lst xs]) = ret (.v (.int (xs.length : Nat))) := rfl
theorem lif_lenS {z : Str} : lif (dLen [.v (.str z)]) = ret (.v (.int (z.length : Nat))) := rfl
theorem lif_ixT {xs : List D} {i : Nat} {d : D} (h : xs[i]? = some d) : lif (dIx (.tup xs) (.v (.int i))) = ret d := lif_eq fun μ => by
  show L2.atI xs i = some d
  unfold L2.atI L2.ixN
  have hl := (List.getElem?_eq_some_iff.mp h).1
  rw [if_pos (by omega), if_pos (by omega)]
  simpa using h
theorem lif_ixL {xs : List D} {i : Nat} {d : D} (h : xs[i]? = some d) : lif (dIx (.lst xs) (.v (.int i))) = ret d := lif_eq fun μ => by
  show L2.atI xs i = some d
  unfold L2.atI L2.ixN
  have hl := (List.getElem?_eq_some_iff.mp h).1
  rw [if_pos (by omega), if_pos (by omega)]
  simpa using h
theorem bls_map {α : Type} {f : α → Bool} : ∀ {l : List α}, bls (l.map fun x => .v (.bl (f x))) = some (l.map f)
  | [] => rfl
  | a :: l => by
    rw [List.map_cons, bls]
    show ((bls1 (.v (.bl (f a)))).bind fun b => (bls (l.map fun x => .v (.bl (f x)))).map fun bs => b :: bs) = _
    rw [bls_map]
    rfl
theorem lif_all {α : Type} {f : α → Bool} {l : List α} : lif (dAll [.lst (l.map fun x => .v (.bl (f x)))]) = ret (.v (.bl (l.all f))) := lif_eq fun μ => by
  show (bls _).map _ = _
  rw [bls_map]
  simp
theorem lif_any {α : Type} {f : α → Bool} {l : List α} : lif (dAny [.lst (l.map fun x => .v (.bl (f x)))]) = ret (.v (.bl (l.any f))) := lif_eq fun μ => by
  show (bls _).map _ = _
  rw [bls_map]
  simp
/-- a sign of a text among those of another -/
theorem lif_inC {c : Nat} {z : Str} : lif (dIn (.v (.str ⟨#[c]⟩)) (.v (.str z))) = ret (.v (.bl (decide (c ∈ z.cps.toList)))) := lif_eq fun μ => rfl
theorem lif_notInC {c : Nat} {z : Str} : lif (dNotIn (.v (.str ⟨#[c]⟩)) (.v (.str z))) = ret (.v (.bl (!decide (c ∈ z.cps.toList)))) := lif_eq fun μ => rfl
theorem lif_ixS {z : Str} {i c : Nat} (h : z.cps.toList[i]? = some c) : lif (dIx (.v (.str z)) (.v (.int i))) = ret (.v (.str ⟨#[c]⟩)) := lif_eq fun μ => by
  show (L2.atI z.cps.toList i).map _ = _
  unfold L2.atI L2.ixN
  have hl := (List.getElem?_eq_some_iff.mp h).1
  rw [if_pos (by omega), if_pos (by omega)]
  simp only [Option.bind_some, Int.toNat_natCast, h, Option.map_some]
theorem small_nat {n : Nat} (h : n ≤ 16777216) : small62 (n : Int) = true := by
  unfold small62
  simp only [Bool.and_eq_true, decide_eq_true_eq]
  omega
theorem rng1_nat {n : Nat} (h : n ≤ 16777216) : rng1 [.v (.int (n : Int))] = some (rngD 0 n) := by
  show (if small62 (n : Int) = true then some (rngD 0 (n : Int).toNat) else none) = _
  rw [if_pos (small_nat h), Int.toNat_natCast]
theorem lif_rng {n : Nat} (h : n ≤ 16777216) : (lif fun _ => rng1 [.v (.int (n : Int))]) = ret (rngD 0 n) := lif_eq fun _ => rng1_nat h
theorem rngD_len {lo : Int} {n : Nat} : (rngD lo n).length = n := by simp [rngD]
theorem chars_len {z : Str} : (chars z).length = z.length := by unfold chars Str.length; simp
theorem fLcG_eval {fin : List D → M D} {fi : FA} {gt : FG} {ft : FT} {fe : FE} {own : List Nat} {ρ : En} {ds out : List D} (h1 : fi ρ = ret ds) (h2 : ds.length ≤ 16777216) (h3 : lcGo gt ft fe (wipeE ρ own) ds = ret out) : fLcG fin fi gt ft fe own ρ = fin out := by
  unfold fLcG
  rw [h1, bnd_ret, if_pos h2, h3, bnd_ret]
theorem fLc_eval {fi : FA} {gt : FG} {ft : FT} {fe : FE} {own : List Nat} {ρ : En} {ds out : List D} (h1 : fi ρ = ret ds) (h2 : ds.length ≤ 16777216) (h3 : lcGo gt ft fe (wipeE ρ own) ds = ret out) : fLc fi gt ft fe own ρ = ret (.lst out) := fLcG_eval h1 h2 h3
theorem fLcM_eval {fi : FA} {gt : FG} {ft : FT} {fe : FE} {own : List Nat} {ρ : En} {ds out : List D} (h1 : fi ρ = ret ds) (h2 : ds.length ≤ 16777216) (h3 : lcGo gt ft fe (wipeE ρ own) ds = ret out) : fLcM fi gt ft fe own ρ = newc (.lst out) := fLcG_eval h1 h2 h3
theorem fFor_eval {fi : FA} {gt : FG} {fb : FS} {ρ : En} {ds : List D} (h1 : fi ρ = ret ds) : fFor fi gt fb ρ = loopS gt fb ds ρ := by
  unfold fFor
  rw [h1, bnd_ret]
theorem fItm_tup {fa : FE} {ρ : En} {xs : List D} (h : fa ρ = ret (.tup xs)) : fItm fa ρ = ret xs := by
  unfold fItm
  rw [h]
  rfl
theorem fItm_lst {fa : FE} {ρ : En} {xs : List D} (h : fa ρ = ret (.lst xs)) : fItm fa ρ = ret xs := by
  unfold fItm
  rw [h]
  rfl
theorem fItm_str {fa : FE} {ρ : En} {z : Str} (h : fa ρ = ret (.v (.str z))) : fItm fa ρ = ret (chars z) := by
  unfold fItm
  rw [h]
  rfl
theorem lif_allP {f : D → Bool} {xs : List D} : lif (dAll [.lst (xs.map fun d => .v (.bl (f d)))]) = ret (.v (.bl (xs.all f))) := lif_all
theorem fVar_eq {i : Nat} {ρ : En} {d : D} (h : ρ[i]? = some (some d)) : fVar i ρ = ret d := by
  unfold fVar
  rw [h]
theorem pl_tup {xs : List D} (h : plD (.tup xs) = true) : ∀ d ∈ xs, plD d = true := plDs_iff.mp (by unfold plD at h; exact h)
theorem pl_lst {xs : List D} (h : plD (.lst xs) = true) : ∀ d ∈ xs, plD d = true := plDs_iff.mp (by unfold plD at h; exact h)
/-! the number of unlike ones -/
theorem dedup_len : ∀ (ns acc : List Int), (ns.foldl PyProof.Rows.step_dedup acc).length ≤ acc.length + ns.length
  | [], acc => by simp
  | n :: ns, acc => by
    rw [List.foldl_cons]
    have h := dedup_len ns (PyProof.Rows.step_dedup acc n)
    have h2 : (PyProof.Rows.step_dedup acc n).length ≤ acc.length + 1 := by
      unfold PyProof.Rows.step_dedup
      split <;> simp
    rw [List.length_cons]
    omega
theorem dedup_nodup : ∀ (ns acc : List Int), acc.Nodup → ((ns.foldl PyProof.Rows.step_dedup acc).length = acc.length + ns.length ↔ (acc ++ ns).Nodup)
  | [], acc, h => by simp [h]
  | n :: ns, acc, h => by
    rw [List.foldl_cons]
    by_cases hn : n ∈ acc
    · have e : PyProof.Rows.step_dedup acc n = acc := by
        unfold PyProof.Rows.step_dedup
        have hh : (acc.any fun x => x == n) = true := List.any_eq_true.mpr ⟨n, hn, beq_self_eq_true n⟩
        rw [if_pos hh]
      rw [e]
      have h2 := dedup_len ns acc
      constructor
      · intro z
        rw [List.length_cons] at z
        omega
      · intro z
        exact absurd rfl ((List.nodup_append.mp z).2.2 n hn n List.mem_cons_self)
    · have e : PyProof.Rows.step_dedup acc n = acc ++ [n] := by
        unfold PyProof.Rows.step_dedup
        refine if_neg ?_
        intro z
        obtain ⟨y, hy, ey⟩ := List.any_eq_true.mp z
        exact hn (by rw [← eq_of_beq ey]; exact hy)
      rw [e]
      have nd : (acc ++ [n]).Nodup := List.nodup_append.mpr ⟨h, by simp, fun a ha b hb q => by
        rw [List.mem_singleton] at hb
        rw [hb] at q
        rw [q] at ha
        exact hn ha⟩
      have ih := dedup_nodup ns (acc ++ [n]) nd
      have e2 : (acc ++ [n]).length + ns.length = acc.length + (n :: ns).length := by simp; omega
      rw [← e2, ih]
      simp
theorem lenSet_eq (ns : List Int) : lenSetB ns = (ns.foldl PyProof.Rows.step_dedup []).length := by
  unfold lenSetB PyProof.Rows.firstMet
  have e : (List.range ns.length).map (fun i => ns.getD i 0) = ns := by
    apply List.ext_getElem
    · simp
    · intro i h1 h2
      simp [List.getD_eq_getElem?_getD]
      rw [List.getElem?_eq_getElem h2]
      rfl
  rw [e]
theorem lenSet_nodup (ns : List Int) : lenSetB ns = ns.length ↔ ns.Nodup := by
  rw [lenSet_eq]
  have h := dedup_nodup ns [] List.nodup_nil
  simpa using h
theorem intsB_map : ∀ ns : List Int, intsB (ns.map fun i => .v (.int i)) = some ns
  | [] => rfl
  | n :: ns => by
    rw [List.map_cons, intsB, intsB_map ns]
    rfl
theorem fLenSet_eval {fa : FE} {ρ : En} {ns : List Int} (h : fa ρ = ret (.lst (ns.map fun i => .v (.int i)))) (hl : ns.length ≤ 4000) : fLenSet fa ρ = ret (.v (.int (lenSetB ns : Nat))) := by
  unfold fLenSet
  rw [h, bnd_ret]
  refine lif_eq fun μ => ?_
  show (intsB _).bind _ = _
  rw [intsB_map, Option.bind_some, if_pos hl]
theorem lif_addL {xs ys : List D} (h : xs.length + ys.length ≤ 16777216) : lif (dAdd (.lst xs) (.lst ys)) = ret (.lst (xs ++ ys)) := lif_eq fun μ => if_pos h
theorem lif_addT {xs ys : List D} (h : xs.length + ys.length ≤ 16777216) : lif (dAdd (.tup xs) (.tup ys)) = ret (.tup (xs ++ ys)) := lif_eq fun μ => if_pos h
theorem lif_ixT0 {a : D} {xs : List D} : lif (dIx (.tup (a :: xs)) (.v (.int 0))) = ret a := lif_ixT (i := 0) rfl
theorem lif_ixT1 {a b : D} {xs : List D} : lif (dIx (.tup (a :: b :: xs)) (.v (.int 1))) = ret b := lif_ixT (i := 1) rfl
theorem lif_ixT2 {a b c : D} {xs : List D} : lif (dIx (.tup (a :: b :: c :: xs)) (.v (.int 2))) = ret c := lif_ixT (i := 2) rfl
theorem lif_ixT3 {a b c d : D} {xs : List D} : lif (dIx (.tup (a :: b :: c :: d :: xs)) (.v (.int 3))) = ret d := lif_ixT (i := 3) rfl
theorem lif_ixL0 {a : D} {xs : List D} : lif (dIx (.lst (a :: xs)) (.v (.int 0))) = ret a := lif_ixL (i := 0) rfl
theorem lif_ixL1 {a b : D} {xs : List D} : lif (dIx (.lst (a :: b :: xs)) (.v (.int 1))) = ret b := lif_ixL (i := 1) rfl
/-- a length against a number -/
theorem lenEq {a b : Nat} : ((a : Int) == (b : Int)) = (a == b) := by
  rw [Bool.eq_iff_iff, beq_iff_eq, beq_iff_eq]
  omega
theorem lif_gT2 {i j : Nat} {a b : D} {ρ : En} : lif (gT 2 (gsCons (gN i) (gsCons (gN j) gsNil)) (.tup [a, b]) ρ) = ret ((ρ.set i (some a)).set j (some b)) := rfl
theorem lif_gT3 {i j k : Nat} {a b c : D} {ρ : En} : lif (gT 3 (gsCons (gN i) (gsCons (gN j) (gsCons (gN k) gsNil))) (.tup [a, b, c]) ρ) = ret (((ρ.set i (some a)).set j (some b)).set k (some c)) := rfl
theorem lif_gT4 {i j k l : Nat} {a b c d : D} {ρ : En} : lif (gT 4 (gsCons (gN i) (gsCons (gN j) (gsCons (gN k) (gsCons (gN l) gsNil)))) (.tup [a, b, c, d]) ρ) = ret ((((ρ.set i (some a)).set j (some b)).set k (some c)).set l (some d)) := rfl
/-! with a given standing of the cells -/
section
variable {α β : Type}
theorem lif_at {k : Mu → Option α} {μ : Mu} {a : α} (h : k μ = some a) : lif k μ = some (.ok a μ) := by
  unfold lif
  rw [h]
theorem bnd_at {f : M α} {k : α → M β} {μ μ' : Mu} {a : α} (h : f μ = some (.ok a μ')) : bnd f k μ = k a μ' := by
  unfold bnd
  rw [h]
theorem bnd_ex {f : M α} {k : α → M β} {μ μ' : Mu} {c : Str} (h : f μ = some (.ex c μ')) : bnd f k μ = some (.ex c μ') := by
  unfold bnd
  rw [h]
theorem ret_at {a : α} {μ : Mu} : (ret a : M α) μ = some (.ok a μ) := rfl
end
theorem last_get {μ : Mu} {c : Cell} : (μ ++ [c])[μ.length]? = some c := by simp
theorem last_set {μ : Mu} {c c' : Cell} : (μ ++ [c]).set μ.length c' = μ ++ [c'] := by simp
theorem view_last {μ : Mu} {xs : List D} : view (μ ++ [.lst xs]) (.r μ.length) = .lst xs := by
  unfold view
  dsimp only
  rw [last_get]
theorem fMl_last {f : OpL} {fo fa : FE} {ρ : En} {μ : Mu} {xs xs' : List D} {a d : D} (h1 : fo ρ = ret (.r μ.length)) (h2 : fa ρ = ret a) (h3 : f xs [a] = some (d, xs')) : fMl f fo [fa] ρ (μ ++ [.lst xs]) = some (.ok d (μ ++ [.lst xs'])) := by
  unfold fMl
  rw [h1, bnd_ret]
  have e : isLst (μ ++ [.lst xs]) μ.length = true := by
    unfold isLst
    rw [last_get]
  dsimp only
  rw [if_pos e, fAll_cons, h2]
  show opL f μ.length [a] (μ ++ [.lst xs]) = _
  unfold opL
  rw [last_get]
  dsimp only
  rw [h3]
  dsimp only
  rw [last_set]
theorem flatDs_ints : ∀ U : List Int, flatDs (U.map fun i => .v (.int i)) = some (U.map V.int)
  | [] => rfl
  | i :: U => by
    rw [List.map_cons, flatDs, flatDs_ints U]
    rfl
theorem inV_ints {i : Int} (U : List Int) : inV (.int i) (U.map V.int) = decide (i ∈ U) := by
  unfold inV
  rw [List.any_map, Bool.eq_iff_iff, List.any_eq_true, decide_eq_true_iff]
  constructor
  · rintro ⟨y, hy, e⟩
    have e : (y == i) = true := e
    rw [beq_iff_eq] at e
    rw [← e]
    exact hy
  · intro h
    exact ⟨i, h, beq_self_eq_true i⟩
theorem dIn_last {i : Int} {U : List Int} {μ : Mu} : dIn (.v (.int i)) (.r μ.length) (μ ++ [.lst (U.map fun j => .v (.int j))]) = some (.v (.bl (decide (i ∈ U)))) := by
  unfold dIn inB
  rw [view_last]
  dsimp only
  rw [flatDs_ints]
  show (some (inV (.int i) (U.map V.int))).map _ = _
  rw [inV_ints]
  rfl
/-! plain things as data -/
mutual
def dp : D → Nat
  | .tup xs => dps xs + 1
  | .lst xs => dps xs + 1
  | _ => 0
def dps : List D → Nat
  | [] => 0
  | d :: ds => max (dp d) (dps ds)
end
theorem canLayAll0_cons {p : PyData} {ps : List PyData} : PyData.canLayAll0 (p :: ps) = (p.canLay0 && PyData.canLayAll0 ps) := by rw [PyData.canLayAll0]
theorem ok_pt {z : Str} (h : z.cps.all (· < 128) = true) : PyData.canLay0 (.str z) = true := SeqAt.canLay_of_shaped (shaped_str h)
mutual
theorem toP_pl : ∀ {d : D}, plD d = true → ∃ p, toP d = some p ∧ p.canLay0 = true ∧ p.depth ≤ dp d
  | .v x, h => by
    unfold plD at h
    cases x with
    | non => exact ⟨.none, rfl, by unfold PyData.canLay0; rfl, by unfold PyData.depth dp; exact Nat.le_refl _⟩
    | bl b => exact ⟨.bool b, rfl, by unfold PyData.canLay0; rfl, by unfold PyData.depth dp; exact Nat.le_refl _⟩
    | int i => exact ⟨.int i, rfl, by unfold PyData.canLay0; rfl, by unfold PyData.depth dp; exact Nat.le_refl _⟩
    | str z =>
      unfold plV at h
      rw [Bool.and_eq_true] at h
      exact ⟨.str z, rfl, ok_pt h.2, by unfold PyData.depth dp; exact Nat.le_refl _⟩
    | _ => cases h
  | .tup xs, h => by
    unfold plD at h
    obtain ⟨ps, h1, h2, h3⟩ := toPs_pl h
    exact ⟨.tuple ps, by unfold toP; rw [h1]; rfl, by unfold PyData.canLay0; exact h2, by unfold PyData.depth dp; omega⟩
  | .lst xs, h => by
    unfold plD at h
    obtain ⟨ps, h1, h2, h3⟩ := toPs_pl h
    exact ⟨.list ps, by unfold toP; rw [h1]; rfl, by unfold PyData.canLay0; exact h2, by unfold PyData.depth dp; omega⟩
  | .r _, h => by unfold plD at h; cases h
  | .exn _, h => by unfold plD at h; cases h
  | .lam _, h => by unfold plD at h; cases h
theorem toPs_pl : ∀ {ds : List D}, plDs ds = true → ∃ ps, toPs ds = some ps ∧ PyData.canLayAll0 ps = true ∧ PyData.depthAll ps ≤ dps ds
  | [], _ => ⟨[], rfl, by unfold PyData.canLayAll0; rfl, by unfold PyData.depthAll dps; exact Nat.le_refl _⟩
  | d :: ds, h => by
    unfold plDs at h
    rw [Bool.and_eq_true] at h
    obtain ⟨p, a1, a2, a3⟩ := toP_pl h.1
    obtain ⟨ps, b1, b2, b3⟩ := toPs_pl h.2
    exact ⟨p :: ps, by unfold toPs; rw [a1, b1]; rfl, by rw [canLayAll0_cons, a2, b2]; rfl, by unfold PyData.depthAll dps; omega⟩
end
theorem shaped_pl {d : D} {p : PyData} (h : plD d = true) (e : toP d = some p) (hd : dp d ≤ 64) : SeqAt.shaped p = true := by
  obtain ⟨p', h1, h2, h3⟩ := toP_pl h
  rw [e] at h1
  cases h1
  unfold SeqAt.shaped
  rw [h2, Bool.true_and, decide_eq_true_iff]
  exact Nat.le_trans h3 hd
/-- == of plain things -/
theorem dEqB_pl {a b : D} (ha : plD a = true) (hb : plD b = true) (da : dp a ≤ 64) (db : dp b ≤ 64) : ∃ p q, toP a = some p ∧ toP b = some q ∧ dEqB a b = some (PyData.eqv p q) := by
  obtain ⟨p, h1, _, _⟩ := toP_pl ha
  obtain ⟨q, h2, _, _⟩ := toP_pl hb
  refine ⟨p, q, h1, h2, ?_⟩
  unfold dEqB
  rw [h1, h2, Option.bind_some, Option.bind_some, if_pos ⟨shaped_pl ha h1 da, shaped_pl hb h2 db⟩]
theorem eqNil {xs : List D} (h : plDs xs = true) (hd : dps xs ≤ 63) : dEqB (.lst xs) (.lst []) = some xs.isEmpty := by
  obtain ⟨p, q, h1, h2, h3⟩ := dEqB_pl (a := .lst xs) (b := .lst []) (by unfold plD; exact h) (by decide +kernel) (by unfold dp; omega) (by decide +kernel)
  rw [h3]
  have h2' : toP (.lst []) = some (.list []) := rfl
  rw [h2'] at h2
  cases h2
  cases xs with
  | nil =>
    have e : toP (.lst []) = some (.list []) := rfl
    rw [e] at h1
    cases h1
    decide +kernel
  | cons x xs =>
    unfold toP at h1
    cases hx : toPs (x :: xs) with
    | none => rw [hx] at h1; cases h1
    | some ps =>
      rw [hx] at h1
      cases h1
      unfold toPs at hx
      cases hx1 : toP x with
      | none => rw [hx1] at hx; cases hx
      | some p =>
        rw [hx1] at hx
        cases hx2 : toPs xs with
        | none => rw [hx2] at hx; cases hx
        | some ps =>
          rw [hx2] at hx
          cases hx
          unfold PyData.eqv PyData.eqvAll
          rfl
theorem lif_eqNil {xs : List D} (h : plDs xs = true) (hd : dps xs ≤ 63) : lif (dEq (.lst xs) (.lst [])) = ret (.v (.bl xs.isEmpty)) := lif_eq fun μ => by
  show (dEqB (.lst xs) (.lst [])).map _ = _
  rw [eqNil h hd]
  rfl
theorem lif_neNil {xs : List D} (h : plDs xs = true) (hd : dps xs ≤ 63) : lif (dNe (.lst xs) (.lst [])) = ret (.v (.bl (!xs.isEmpty))) := lif_eq fun μ => by
  show (dEqB (.lst xs) (.lst [])).map _ = _
  rw [eqNil h hd]
  rfl
theorem dps_v : ∀ {xs : List D}, (∀ d ∈ xs, ∃ x, d = .v x) → dps xs = 0
  | [], _ => rfl
  | x :: xs, h => by
    obtain ⟨y, rfl⟩ := h x List.mem_cons_self
    unfold dps
    rw [dps_v fun d hd => h d (List.mem_cons_of_mem _ hd)]
    rfl
/-- no cell tells of a later one -/
def lowAll (μ : Mu) : Bool := lowMu μ.length μ
theorem low_ext {μ : Mu} {cs : List Cell} (h : lowAll μ = true) : lowMu μ.length (μ ++ cs) = true := by
  unfold lowAll lowMu at *
  rw [List.take_append_of_le_length (Nat.le_refl _)]
  exact h
theorem take_ext {μ : Mu} {cs : List Cell} : (μ ++ cs).take μ.length = μ := by simp
theorem close_ext {F : List D → M D} {ds : List D} {μ : Mu} {cs : List Cell} {d d' : D} (hl : lowAll μ = true) (h : F ds μ = some (.ok d (μ ++ cs))) (hd : frzD μ.length (μ ++ cs) d = some d') : closeF F ds μ = some (.ok d' μ) := by
  unfold closeF
  rw [h]
  unfold closeR
  dsimp only
  rw [if_pos (low_ext hl), hd, take_ext]
  rfl
theorem close_v {F : List D → M D} {ds : List D} {μ : Mu} {cs : List Cell} {x : V} (hl : lowAll μ = true) (h : F ds μ = some (.ok (.v x) (μ ++ cs))) : closeF F ds μ = some (.ok (.v x) μ) := close_ext hl h (by unfold frzD; rfl)
theorem bodyF_at {F0 : FS} {n N : Nat} {ds : List D} {μ μ' : Mu} {d : D} (hn : ds.length = n) (h : F0 (ds.map some ++ List.replicate (N - n) none) μ = some (.ok (.rt d) μ')) : bodyF F0 n N ds μ = some (.ok d μ') := by
  unfold bodyF
  rw [if_pos hn, h]
theorem newc_at {c : Cell} {μ : Mu} : newc c μ = some (.ok (.r μ.length) (μ ++ [c])) := rfl
end Tr
/-! ## TrX -/
set_option Elab.async false
set_option linter.all false
set_option maxRecDepth 100000
set_option maxHeartbeats 2000000
namespace Tr
open PySem PySem.Spec PyProof.Rows L2
/-! ### texts as rows of signs -/
abbrev tx (l : List Nat) : Str := ⟨l.toArray⟩
theorem tx_cps {l : List Nat} : (tx l).cps.toList = l := by simp
theorem tx_of (z : Str) : tx z.cps.toList = z := by
  obtain ⟨⟨l⟩⟩ := z
  rfl
theorem tx_len {l : List Nat} : (tx l).length = l.length := by unfold Str.length; simp
theorem joinL_nil : ∀ ys : List (List Nat), TL.joinL [] ys = ys.flatten
  | [] => rfl
  | [p] => by simp [TL.joinL]
  | p :: q :: r => by
    rw [TL.joinL, joinL_nil (q :: r)]
    simp
theorem join_tx (ys : List (List Nat)) : Txt.join (tx []) (ys.map tx) = tx ys.flatten := by
  have e := SX.join_S [] ys
  rw [joinL_nil] at e
  exact e
theorem strsB_map : ∀ ys : List (List Nat), strsB (ys.map fun l => .v (.str (tx l))) = some (ys.map tx)
  | [] => rfl
  | l :: ys => by
    rw [List.map_cons, strsB, strsB_map ys]
    rfl
theorem sum_lens : ∀ ys : List (List Nat), ((ys.map tx).map (·.length)).sum = ys.flatten.length
  | [] => rfl
  | l :: ys => by
    rw [List.map_cons, List.map_cons, List.sum_cons, sum_lens ys, List.flatten_cons, List.length_append]
    show (tx l).length + _ = _
    rw [tx_len]
/-- ''.join of texts -/
theorem join_eval {ys : List (List Nat)} (h : ys.flatten.length ≤ 16777216) (μ : Mu) : sJoin (tx []) [.lst (ys.map fun l => .v (.str (tx l)))] μ = some (.v (.str (tx ys.flatten))) := by
  unfold sJoin
  show ((strsB _).bind _) = _
  rw [strsB_map, Option.bind_some, join_tx, tx_len, sum_lens, if_pos]
  refine ⟨?_, h⟩
  show ys.flatten.length + (ys.map tx).length * 0 ≤ 16777216
  omega
theorem fMs_join {fa : FE} {ρ : En} {ys : List (List Nat)} (h1 : fa ρ = ret (.lst (ys.map fun l => .v (.str (tx l))))) (h : ys.flatten.length ≤ 16777216) : fMs sJoin (fC (.v (.str (tx [])))) [fa] ρ = ret (.v (.str (tx ys.flatten))) := by
  unfold fMs
  show bnd (ret (D.v (.str (tx [])))) _ = _
  rw [bnd_ret]
  dsimp only
  rw [fAll_cons, h1, bnd_ret, fAll_nil, bnd_ret, bnd_ret]
  exact lif_eq fun μ => join_eval h μ
/-! ### sorted signs -/
abbrev Up (l : List Nat) : Prop := l.Pairwise (· < ·)
theorem insU_mem {x y : Nat} : ∀ {l : List Nat}, y ∈ insU x l ↔ y = x ∨ y ∈ l
  | [] => by simp [insU]
  | z :: l => by
    unfold insU
    by_cases h1 : x < z
    · rw [if_pos h1]; simp
    · rw [if_neg h1]
      by_cases h2 : x = z
      · rw [if_pos h2, h2]; simp
      · rw [if_neg h2, List.mem_cons, insU_mem (l := l), List.mem_cons]
        constructor
        · rintro (h | h | h)
          · exact .inr (.inl h)
          · exact .inl h
          · exact .inr (.inr h)
        · rintro (h | h | h)
          · exact .inr (.inl h)
          · exact .inl h
          · exact .inr (.inr h)
theorem insU_up {x : Nat} : ∀ {l : List Nat}, Up l → Up (insU x l)
  | [], _ => by simp [insU]
  | z :: l, h => by
    obtain ⟨h1, h2⟩ := List.pairwise_cons.mp h
    unfold insU
    by_cases c1 : x < z
    · rw [if_pos c1]
      refine List.pairwise_cons.mpr ⟨fun y hy => ?_, h⟩
      rcases List.mem_cons.mp hy with e | hy
      · rw [e]; exact c1
      · exact Nat.lt_trans c1 (h1 y hy)
    · rw [if_neg c1]
      by_cases c2 : x = z
      · rw [if_pos c2]; exact h
      · rw [if_neg c2]
        refine List.pairwise_cons.mpr ⟨fun y hy => ?_, insU_up h2⟩
        rcases insU_mem.mp hy with e | hy
        · rw [e]; omega
        · exact h1 y hy
theorem sortU_up : ∀ l : List Nat, Up (sortU l)
  | [] => List.Pairwise.nil
  | x :: l => insU_up (sortU_up l)
theorem sortU_mem {y : Nat} : ∀ {l : List Nat}, y ∈ sortU l ↔ y ∈ l
  | [] => Iff.rfl
  | x :: l => by
    show y ∈ insU x (sortU l) ↔ _
    rw [insU_mem, sortU_mem, List.mem_cons]
theorem sortU_same : ∀ {l : List Nat}, Up l → sortU l = l
  | [], _ => rfl
  | x :: l, h => by
    obtain ⟨h1, h2⟩ := List.pairwise_cons.mp h
    show insU x (sortU l) = _
    rw [sortU_same h2]
    cases l with
    | nil => rfl
    | cons y l =>
      unfold insU
      rw [if_pos (h1 y List.mem_cons_self)]
theorem insU_len {x : Nat} : ∀ {l : List Nat}, (insU x l).length ≤ l.length + 1
  | [] => Nat.le_refl _
  | z :: l => by
    unfold insU
    by_cases c1 : x < z
    · rw [if_pos c1]; simp
    · rw [if_neg c1]
      by_cases c2 : x = z
      · rw [if_pos c2]; simp
      · rw [if_neg c2, List.length_cons, List.length_cons]
        have := insU_len (x := x) (l := l)
        omega
theorem sortU_len : ∀ l : List Nat, (sortU l).length ≤ l.length
  | [] => Nat.le_refl _
  | x :: l => by
    have h1 := sortU_len l
    have h2 := insU_len (x := x) (l := sortU l)
    show (insU x (sortU l)).length ≤ _
    rw [List.length_cons]
    omega
theorem flatten_ones : ∀ l : List Nat, (l.map fun c => [c]).flatten = l
  | [] => rfl
  | c :: l => by
    rw [List.map_cons, List.flatten_cons, flatten_ones l]
    rfl
theorem fSortSet_eval {fa : FE} {ρ : En} {z : Str} (h : fa ρ = ret (.v (.str z))) (hl : z.length ≤ 60) : fSortSet fa ρ = ret (.lst (((sortU z.cps.toList).map fun c => [c]).map fun l => .v (.str (tx l)))) := by
  unfold fSortSet
  rw [h, bnd_ret]
  refine lif_eq fun μ => ?_
  show (if z.length ≤ 60 then _ else _) = _
  rw [if_pos hl, List.map_map]
  rfl
/-! ### cells that tell of no later one -/
mutual
theorem lowD_mono {j k : Nat} (h : j ≤ k) : ∀ {d : D}, lowD j d = true → lowD k d = true
  | .v _, _ => by unfold lowD; rfl
  | .tup xs, l => by
    unfold lowD at l ⊢
    exact lowDs_mono h l
  | .lst xs, l => by
    unfold lowD at l ⊢
    exact lowDs_mono h l
  | .r n, l => by
    unfold lowD at l ⊢
    simp only [decide_eq_true_eq] at l ⊢
    omega
  | .exn _, _ => by unfold lowD; rfl
  | .lam _, _ => by unfold lowD; rfl
theorem lowDs_mono {j k : Nat} (h : j ≤ k) : ∀ {ds : List D}, lowDs j ds = true → lowDs k ds = true
  | [], _ => by unfold lowDs; rfl
  | d :: ds, l => by
    unfold lowDs at l ⊢
    rw [Bool.and_eq_true] at l ⊢
    exact ⟨lowD_mono h l.1, lowDs_mono h l.2⟩
end
theorem lowK_mono {j k : Nat} (h : j ≤ k) : ∀ {ds : List (Key × D)}, lowK j ds = true → lowK k ds = true
  | [], _ => by unfold lowK; rfl
  | d :: ds, l => by
    unfold lowK at l ⊢
    rw [Bool.and_eq_true] at l ⊢
    exact ⟨lowD_mono h l.1, lowK_mono h l.2⟩
theorem lowC_mono {j k : Nat} (h : j ≤ k) {c : Cell} (l : lowC j c = true) : lowC k c = true := by
  cases c with
  | lst xs => exact lowDs_mono h l
  | dic xs => exact lowK_mono h l
  | tab q => rfl
mutual
theorem low_pl {k : Nat} : ∀ {d : D}, plD d = true → lowD k d = true
  | .v _, _ => by unfold lowD; rfl
  | .tup xs, h => by
    unfold plD at h
    unfold lowD
    exact lows_pl h
  | .lst xs, h => by
    unfold plD at h
    unfold lowD
    exact lows_pl h
  | .r _, h => by unfold plD at h; cases h
  | .exn _, h => by unfold plD at h; cases h
  | .lam _, h => by unfold plD at h; cases h
theorem lows_pl {k : Nat} : ∀ {ds : List D}, plDs ds = true → lowDs k ds = true
  | [], _ => by unfold lowDs; rfl
  | d :: ds, h => by
    unfold plDs at h
    rw [Bool.and_eq_true] at h
    unfold lowDs
    rw [low_pl h.1, lows_pl h.2]
    rfl
end
theorem lowAll_iff {μ : Mu} : lowAll μ = true ↔ ∀ c ∈ μ, lowC μ.length c = true := by
  unfold lowAll lowMu
  rw [List.take_length, List.all_eq_true]
theorem lowAll_push {μ : Mu} {c : Cell} (h : lowAll μ = true) (hc : lowC (μ.length + 1) c = true) : lowAll (μ ++ [c]) = true := by
  rw [lowAll_iff] at h ⊢
  intro x hx
  rw [List.length_append, List.length_singleton]
  rcases List.mem_append.mp hx with hx | hx
  · exact lowC_mono (Nat.le_succ _) (h x hx)
  · rw [List.mem_singleton] at hx
    rw [hx]
    exact hc
theorem plDs_ints (U : List Int) : plDs (U.map fun i => .v (.int i)) = true := plDs_iff.mpr fun d hd => by
  obtain ⟨i, _, rfl⟩ := List.mem_map.mp hd
  unfold plD plV
  rfl
theorem low_ints {k : Nat} (U : List Int) : lowC k (.lst (U.map fun i => .v (.int i))) = true := lows_pl (plDs_ints U)
theorem dIx_last {μ : Mu} {xs : List D} {i : Nat} {d : D} (h : xs[i]? = some d) : dIx (.r μ.length) (.v (.int i)) (μ ++ [.lst xs]) = some d := by
  unfold dIx
  rw [view_last]
  show L2.atI xs i = some d
  unfold L2.atI L2.ixN
  have hl := (List.getElem?_eq_some_iff.mp h).1
  rw [if_pos (by omega), if_pos (by omega)]
  simpa using h
theorem dLen_last {μ : Mu} {xs : List D} : dLen [.r μ.length] (μ ++ [.lst xs]) = some (.v (.int (xs.length : Nat))) := by
  show (lenB (.r μ.length) (μ ++ [.lst xs])).map _ = _
  unfold lenB
  rw [view_last]
  rfl
end Tr
/-! ## TrY -/
set_option Elab.async false
set_option linter.all false
set_option maxRecDepth 100000
set_option maxHeartbeats 2000000
namespace Tr
open PySem PySem.Spec PyProof.Rows L2
/-! ### the laws' draws: the cells are the lambdas' table, the great ones, the state, and what the law has besides -/
abbrev di (i : Int) : D := .v (.int i)
abbrev stC (c : List Int) (r t : Int) : Cell := .dic [(.inr "great", .r 1), (.inr "cells", .lst (c.map di)), (.inr "rest", di r), (.inr "turn", di t)]
abbrev SM (q : Str) (g c : List Int) (r t : Int) (tail : Mu) : Mu := .tab q :: .lst (g.map di) :: stC c r t :: tail
variable {q : Str} {g c : List Int} {r t : Int} {tail : Mu}
theorem kne1 : ¬ (Str.ofString "great" = Str.ofString "cells") := by decide
theorem kne2 : ¬ (Str.ofString "great" = Str.ofString "rest") := by decide
theorem kne3 : ¬ (Str.ofString "great" = Str.ofString "turn") := by decide
theorem kne4 : ¬ (Str.ofString "cells" = Str.ofString "rest") := by decide
theorem kne5 : ¬ (Str.ofString "cells" = Str.ofString "turn") := by decide
theorem kne6 : ¬ (Str.ofString "rest" = Str.ofString "turn") := by decide
theorem fGet_at {k : Str} {fo : FE} {ρ : En} {μ : Mu} {n : Nat} {kvs : List (Key × D)} {d : D} (h1 : fo ρ = ret (.r n)) (h2 : μ[n]? = some (.dic kvs)) (h3 : valD kvs (.inr k) = some d) : fGet k fo ρ μ = some (.ok d μ) := by
  unfold fGet
  rw [h1, bnd_ret]
  refine lif_at ?_
  dsimp only
  rw [h2]
  exact h3
theorem val_great {a b e f : D} : valD [(.inr "great", a), (.inr "cells", b), (.inr "rest", e), (.inr "turn", f)] (.inr "great") = some a := by
  unfold valD
  simp
theorem val_cells {a b e f : D} : valD [(.inr "great", a), (.inr "cells", b), (.inr "rest", e), (.inr "turn", f)] (.inr "cells") = some b := by
  unfold valD
  simp [kne1]
theorem val_rest {a b e f : D} : valD [(.inr "great", a), (.inr "cells", b), (.inr "rest", e), (.inr "turn", f)] (.inr "rest") = some e := by
  unfold valD
  simp [kne2, kne4]
theorem val_turn {a b e f : D} : valD [(.inr "great", a), (.inr "cells", b), (.inr "rest", e), (.inr "turn", f)] (.inr "turn") = some f := by
  unfold valD
  simp [kne3, kne5, kne6]
theorem put_rest {a b e f x : D} : putD [(.inr "great", a), (.inr "cells", b), (.inr "rest", e), (.inr "turn", f)] (.inr "rest") x = [(.inr "great", a), (.inr "cells", b), (.inr "rest", x), (.inr "turn", f)] := by
  unfold putD
  simp [kne2, kne4, kne6, show ¬ (Str.ofString "turn" = Str.ofString "rest") from fun z => kne6 z.symm]
theorem put_turn {a b e f x : D} : putD [(.inr "great", a), (.inr "cells", b), (.inr "rest", e), (.inr "turn", f)] (.inr "turn") x = [(.inr "great", a), (.inr "cells", b), (.inr "rest", e), (.inr "turn", x)] := by
  unfold putD
  simp [kne3, kne5, kne6]
theorem fPut_at {k : Str} {fo fa : FE} {ρ : En} {μ μ1 : Mu} {n : Nat} {kvs kvs' : List (Key × D)} {d : D} (h0 : fa ρ μ = some (.ok d μ1)) (h1 : fo ρ = ret (.r n)) (h2 : μ1[n]? = some (.dic kvs)) (hl : kvs.length ≤ 1000) (h3 : putD kvs (.inr k) d = kvs') : fPut k fo fa ρ μ = some (.ok (.nx ρ) (μ1.set n (.dic kvs'))) := by
  unfold fPut
  rw [bnd_at h0, h1, bnd_ret]
  dsimp only
  rw [h2]
  dsimp only
  rw [if_pos hl, h3]
section
variable {α β : Type}
/-- f draws at most n times, gives an a of which P tells -/
def Dw (q : Str) (c : List Int) (n : Nat) (tail : Mu) (f : M α) (P : α → Mu → Prop) : Prop :=
  ∀ (g : List Int) (r t : Int), 0 ≤ t → t + n ≤ 1000000000000 → ∃ (a : α) (g' : List Int) (r' t' : Int) (tail' : Mu), f (SM q g c r t tail) = some (.ok a (SM q g' c r' t' tail')) ∧ 0 ≤ t' ∧ t' ≤ t + n ∧ P a tail'
variable {n m : Nat} {f : M α} {P P' : α → Mu → Prop}
theorem Dw.ret {a : α} (h : P a tail) : Dw q c n tail (ret a) P := fun g r t h0 h1 => ⟨a, g, r, t, tail, rfl, h0, by omega, h⟩
theorem Dw.bnd {k : α → M β} {Q : β → Mu → Prop} (h : Dw q c n tail f fun a tail' => Dw q c m tail' (k a) Q) : Dw q c (n + m) tail (bnd f k) Q := fun g r t h0 h1 => by
  obtain ⟨a, g1, r1, t1, tl1, e1, p1, p2, h2⟩ := h g r t h0 (by omega)
  obtain ⟨b, g2, r2, t2, tl2, e2, p3, p4, h3⟩ := h2 g1 r1 t1 p1 (by omega)
  exact ⟨b, g2, r2, t2, tl2, by rw [bnd_at e1]; exact e2, p3, by omega, h3⟩
theorem Dw.mono (h : Dw q c n tail f P) (hn : n ≤ m) (hp : ∀ a tl, P a tl → P' a tl) : Dw q c m tail f P' := fun g r t h0 h1 => by
  obtain ⟨a, g1, r1, t1, tl1, e1, p1, p2, h2⟩ := h g r t h0 (by omega)
  exact ⟨a, g1, r1, t1, tl1, e1, p1, by omega, hp _ _ h2⟩
/-- what leaves the cells as they are -/
theorem Dw.at {a : α} (h : ∀ (g : List Int) (r t : Int), f (SM q g c r t tail) = some (.ok a (SM q g c r t tail))) (hp : P a tail) : Dw q c n tail f P := fun g r t h0 h1 => ⟨a, g, r, t, tail, h g r t, h0, by omega, hp⟩
end
end Tr
/-! ## TrZ -/
set_option Elab.async false
set_option linter.all false
set_option maxRecDepth 100000
set_option maxHeartbeats 2000000
namespace Tr
open PySem PySem.Spec PyProof.Rows L2
/-! ### the cells that a law has besides the draws' own -/
variable {q : Str} {g c : List Int} {r t : Int} {pre tail : Mu}
theorem SM_len : (SM q g c r t tail).length = tail.length + 3 := rfl
theorem SM_get {i : Nat} : (SM q g c r t tail)[i + 3]? = tail[i]? := rfl
theorem SM_set {i : Nat} {x : Cell} : (SM q g c r t tail).set (i + 3) x = SM q g c r t (tail.set i x) := rfl
theorem newc_SM {x : Cell} : newc x (SM q g c r t tail) = some (.ok (.r (tail.length + 3)) (SM q g c r t (tail ++ [x]))) := rfl
theorem fMl_SM {f : OpL} {fo : FE} {fs : List FE} {ρ : En} {i : Nat} {xs xs' xs2 ds : List D} {d : D} {g' : List Int} {r' t' : Int} {tail' : Mu} (h1 : fo ρ = ret (.r (i + 3))) (h2 : tail[i]? = some (.lst xs)) (h3 : fAll fs ρ (SM q g c r t tail) = some (.ok ds (SM q g' c r' t' tail')))
    (h4 : tail'[i]? = some (.lst xs')) (h5 : f xs' ds = some (d, xs2)) : fMl f fo fs ρ (SM q g c r t tail) = some (.ok d (SM q g' c r' t' (tail'.set i (.lst xs2)))) := by
  unfold fMl
  rw [h1, bnd_ret]
  show (if isLst (SM q g c r t tail) (i + 3) = true then bnd (fAll fs ρ) (opL f (i + 3)) (SM q g c r t tail) else none) = _
  have e : isLst (SM q g c r t tail) (i + 3) = true := by
    unfold isLst
    rw [SM_get, h2]
  rw [if_pos e, bnd_at h3]
  unfold opL
  rw [SM_get, h4]
  dsimp only
  rw [h5]
  rfl
theorem view_SM {i : Nat} {xs : List D} (h : tail[i]? = some (.lst xs)) : view (SM q g c r t tail) (.r (i + 3)) = .lst xs := by
  show (match (SM q g c r t tail)[i + 3]? with
    | some (.lst xs) => D.lst xs
    | _ => .r (i + 3)) = _
  rw [SM_get, h]
theorem dTuple_SM {i : Nat} {xs : List D} (h : tail[i]? = some (.lst xs)) : dTuple [.r (i + 3)] (SM q g c r t tail) = some (.tup xs) := by
  show (match view (SM q g c r t tail) (.r (i + 3)) with
    | .lst xs => some (D.tup xs)
    | .tup xs => some (.tup xs)
    | _ => none) = _
  rw [view_SM h]
theorem dLen_SM {i : Nat} {xs : List D} (h : tail[i]? = some (.lst xs)) : dLen [.r (i + 3)] (SM q g c r t tail) = some (.v (.int (xs.length : Nat))) := by
  show (lenB (.r (i + 3)) (SM q g c r t tail)).map _ = _
  unfold lenB
  rw [view_SM h]
  rfl
theorem dNe_SM {i : Nat} {xs : List D} (h : tail[i]? = some (.lst xs)) (hp : plDs xs = true) (hd : dps xs ≤ 63) : dNe (.r (i + 3)) (.lst []) (SM q g c r t tail) = some (.v (.bl (!xs.isEmpty))) := by
  show (dEqB (view (SM q g c r t tail) (.r (i + 3))) (.lst [])).map _ = _
  rw [view_SM h, eqNil hp hd]
  rfl
mutual
theorem frz_pl {k : Nat} {μ : Mu} : ∀ {d : D}, plD d = true → frzD k μ d = some d
  | .v x, _ => by unfold frzD; rfl
  | .tup xs, h => by
    unfold frzD
    rw [frzs_pl (by unfold plD at h; exact h)]
    rfl
  | .lst xs, h => by
    unfold frzD
    rw [frzs_pl (by unfold plD at h; exact h)]
    rfl
  | .r n, h => by unfold plD at h; cases h
  | .exn n, h => by unfold plD at h; cases h
  | .lam n, h => by unfold plD at h; cases h
theorem frzs_pl {k : Nat} {μ : Mu} : ∀ {ds : List D}, plDs ds = true → frzDs k μ ds = some ds
  | [], _ => by unfold frzDs; rfl
  | d :: ds, h => by
    unfold plDs at h
    rw [Bool.and_eq_true] at h
    unfold frzDs
    rw [frz_pl h.1, frzs_pl h.2]
    rfl
end
/-- no cell of the law tells of another one -/
def lowT (tail : Mu) : Bool := tail.all (lowC 0)
theorem low_SM {cs : Mu} (h : lowT pre = true) : lowMu (pre.length + 3) (SM q g c r t (pre ++ cs)) = true := by
  unfold lowMu
  have e : (SM q g c r t (pre ++ cs)).take (pre.length + 3) = SM q g c r t pre := by
    show Cell.tab q :: Cell.lst _ :: stC c r t :: (pre ++ cs).take pre.length = _
    rw [List.take_append_of_le_length (Nat.le_refl _), List.take_length]
  rw [e, List.all_eq_true]
  intro x hx
  rcases List.mem_cons.mp hx with hx | hx
  · rw [hx]; rfl
  rcases List.mem_cons.mp hx with hx | hx
  · rw [hx]; exact low_ints _
  rcases List.mem_cons.mp hx with hx | hx
  · rw [hx]
    have hc : lowDs (pre.length + 3) (c.map di) = true := lows_pl (plDs_ints c)
    show lowK _ _ = true
    simp [lowK, lowD, hc]
  · exact lowC_mono (Nat.zero_le _) (List.all_eq_true.mp h x hx)
theorem close_SM {F : List D → M D} {ds : List D} {g' : List Int} {r' t' : Int} {pre' cs : Mu} {d d' : D} (h : F ds (SM q g c r t pre) = some (.ok d (SM q g' c r' t' (pre' ++ cs)))) (hn : pre'.length = pre.length) (hl : lowT pre' = true)
    (hd : frzD (pre.length + 3) (SM q g' c r' t' (pre' ++ cs)) d = some d') : closeF F ds (SM q g c r t pre) = some (.ok d' (SM q g' c r' t' pre')) := by
  unfold closeF
  rw [h]
  unfold closeR
  dsimp only
  rw [SM_len, ← hn, if_pos (low_SM hl)]
  rw [← hn] at hd
  rw [hd]
  have e : (SM q g' c r' t' (pre' ++ cs)).take (pre'.length + 3) = SM q g' c r' t' pre' := by
    show Cell.tab q :: Cell.lst _ :: stC c r' t' :: (pre' ++ cs).take pre'.length = _
    rw [List.take_append_of_le_length (Nat.le_refl _), List.take_length]
  show some (R.ok d' _) = _
  rw [e]
theorem Dw.close {n : Nat} {F : List D → M D} {ds : List D} {P : D → Mu → Prop} (h : Dw q c n pre (F ds) fun d tl => ∃ pre' cs, tl = pre' ++ cs ∧ pre'.length = pre.length ∧ lowT pre' = true ∧ plD d = true ∧ P d pre') : Dw q c n pre (closeF F ds) P := fun g r t h0 h1 => by
  obtain ⟨d, g', r', t', tl, e, p1, p2, pre', cs, rfl, hn, hl, hp, hP⟩ := h g r t h0 h1
  exact ⟨d, g', r', t', pre', close_SM e hn hl (frz_pl hp), p1, p2, hP⟩
/-- a loop that draws -/
theorem Dw.loop {n : Nat} {gt : FG} {fb : FS} {I : List D → En → Mu → Prop} (h : ∀ d ds ρ tl, I (d :: ds) ρ tl → Dw q c n tl (Tr.bnd (lif (gt d ρ)) fb) fun o tl' => ∃ ρ', o = .nx ρ' ∧ I ds ρ' tl') :
    ∀ {ds : List D} {ρ : En} {tail : Mu}, I ds ρ tail → Dw q c (n * ds.length) tail (loopS gt fb ds ρ) fun o tl => ∃ ρ', o = .nx ρ' ∧ I [] ρ' tl
  | [], ρ, tail, i => by
    rw [loopS_nil]
    exact Dw.ret ⟨ρ, rfl, i⟩
  | d :: ds, ρ, tail, i => by
    rw [loopS_cons, ← bnd_assoc]
    refine Dw.mono (n := n + n * ds.length) (Dw.bnd (Dw.mono (h d ds ρ tail i) (Nat.le_refl _) fun o tl ⟨ρ', e, i'⟩ => ?_)) (by rw [List.length_cons, Nat.mul_succ, Nat.add_comm]; exact Nat.le_refl _) fun _ _ z => z
    subst e
    exact Dw.loop h i'
theorem Dw.noex {α : Type} {n : Nat} {f : M α} {P : α → Mu → Prop} (h : Dw q c n tail f P) : Dw q c n tail (noex f) P := fun g r t h0 h1 => by
  obtain ⟨a, g', r', t', tl, e, z⟩ := h g r t h0 h1
  refine ⟨a, g', r', t', tl, ?_, z⟩
  unfold Tr.noex
  rw [e]
/-- a comprehension that draws -/
theorem Dw.lc {n i : Nat} {fe : FE} {ρ : En} {I : List D → List D → Mu → Prop} (h : ∀ acc d ds tl, I acc (d :: ds) tl → Dw q c n tl (fe (ρ.set i (some d))) fun y tl' => I (acc ++ [y]) ds tl') :
    ∀ {ds acc : List D} {tail : Mu}, I acc ds tail → Dw q c (n * ds.length) tail (lcGo (gN i) tYesF fe ρ ds) fun out tl => I (acc ++ out) [] tl
  | [], acc, tail, j => Dw.ret (by rw [List.append_nil]; exact j)
  | d :: ds, acc, tail, j => by
    unfold lcGo
    rw [lif_gN, bnd_ret]
    have e : Tr.noex (tYesF (ρ.set i (some d))) = Tr.ret true := rfl
    rw [e, bnd_ret, if_pos rfl]
    refine Dw.mono (n := n + n * ds.length) (Dw.bnd (Dw.mono (Dw.noex (h acc d ds tail j)) (Nat.le_refl _) fun y tl j' => ?_)) (by rw [List.length_cons, Nat.mul_succ, Nat.add_comm]; exact Nat.le_refl _) fun _ _ z => z
    refine Dw.mono (n := n * ds.length + 0) (Dw.bnd (Dw.mono (Dw.lc h j') (Nat.le_refl _) fun out tl' j2 => Dw.ret ?_)) (Nat.le_refl _) fun _ _ z => z
    rw [List.append_assoc] at j2
    exact j2
end Tr
/-! ## TrV -/
set_option Elab.async false
set_option linter.all false
set_option maxRecDepth 100000
set_option maxHeartbeats 2000000
namespace Tr
open PySem PySem.Spec PyProof.Rows L2
/-! ### statements that draw -/
section
variable {q : Str} {c : List Int} {n m : Nat} {pre tail : Mu} {ρ : En}
theorem Dw.seq {f1 f2 : FS} {Q : Out → Mu → Prop} (h : Dw q c n tail (f1 ρ) fun o tl => ∃ ρ', o = .nx ρ' ∧ Dw q c m tl (f2 ρ') Q) : Dw q c (n + m) tail (fSeq f1 f2 ρ) Q := by
  unfold fSeq
  refine Dw.bnd (Dw.mono h (Nat.le_refl _) fun o tl ⟨ρ', e, z⟩ => ?_)
  subst e
  exact z
theorem Dw.set {i : Nat} {fa : FE} {Q : Out → Mu → Prop} (h : Dw q c n tail (fa ρ) fun d tl => Q (.nx (ρ.set i (some d))) tl) : Dw q c n tail (fSet i fa ρ) Q := by
  unfold fSet fAsg
  refine Dw.mono (n := n + 0) (Dw.bnd (Dw.mono h (Nat.le_refl _) fun d tl z => ?_)) (Nat.le_refl _) fun _ _ z => z
  rw [lif_gN, bnd_ret]
  exact Dw.ret z
theorem Dw.rt {fa : FE} {Q : Out → Mu → Prop} (h : Dw q c n tail (fa ρ) fun d tl => Q (.rt d) tl) : Dw q c n tail (fRet fa ρ) Q := by
  unfold fRet
  refine Dw.mono (n := n + 0) (Dw.bnd (Dw.mono h (Nat.le_refl _) fun d tl z => Dw.ret z)) (Nat.le_refl _) fun _ _ z => z
theorem Dw.call {F : List D → M D} {fs : List FE} {ds : List D} {P : D → Mu → Prop} (h : fAll fs ρ = Tr.ret ds) (k : Dw q c n tail (F ds) P) : Dw q c n tail (fCall F fs ρ) P := by
  unfold fCall
  rw [h, bnd_ret]
  exact k
theorem Dw.eq {α : Type} {f : M α} {a : α} {P : α → Mu → Prop} (h : f = Tr.ret a) (k : P a tail) : Dw q c n tail f P := by
  rw [h]
  exact Dw.ret k
/-- an append to a cell of the law -/
theorem Dw.app {i j : Nat} {fa : FE} {xs0 : List D} {Q : Out → Mu → Prop} (h1 : ρ[j]? = some (some (.r (i + 3)))) (h2 : tail[i]? = some (.lst xs0)) (h : Dw q c n tail (fa ρ) fun y tl => ∃ xs, tl[i]? = some (.lst xs) ∧ xs.length < 16777216 ∧ Q (.nx ρ) (tl.set i (.lst (xs ++ [y])))) :
    Dw q c n tail (fDrop (fMl lApp (fVar j) [fa]) ρ) Q := fun g r t h0 hb => by
  obtain ⟨y, g', r', t', tl, e, p1, p2, xs, hx, hl, hQ⟩ := h g r t h0 hb
  have hp : lApp xs [y] = some (.v .non, xs ++ [y]) := by
    unfold lApp
    dsimp only
    rw [if_pos hl]
  have z := fMl_SM (f := lApp) (fo := fVar j) (fs := [fa]) (q := q) (g := g) (c := c) (r := r) (t := t) (i := i) (ds := [y]) (fVar_eq h1) h2 (by rw [fAll_cons, bnd_at e]; rfl) hx hp
  refine ⟨_, g', r', t', _, ?_, p1, p2, hQ⟩
  unfold fDrop
  rw [bnd_at z]
  rfl
theorem Dw.newc {x : Cell} {P : D → Mu → Prop} (h : P (.r (tail.length + 3)) (tail ++ [x])) : Dw q c n tail (newc x) P := fun g r t h0 h1 => ⟨_, g, r, t, _, newc_SM, h0, by omega, h⟩
theorem Dw.for {k : Nat} {fi : FA} {gt : FG} {fb : FS} {I : List D → En → Mu → Prop} {ds : List D} (hi : fi ρ = Tr.ret ds) (hn : n * ds.length ≤ k) (i : I ds ρ tail) (h : ∀ d ds ρ tl, I (d :: ds) ρ tl → Dw q c n tl (Tr.bnd (lif (gt d ρ)) fb) fun o tl' => ∃ ρ', o = .nx ρ' ∧ I ds ρ' tl') :
    Dw q c k tail (fFor fi gt fb ρ) fun o tl => ∃ ρ', o = .nx ρ' ∧ I [] ρ' tl := by
  rw [fFor_eval hi]
  exact Dw.mono (Dw.loop h i) hn fun _ _ z => z
theorem Dw.body {F0 : FS} {a N : Nat} {ds : List D} {P : D → Mu → Prop} (hn : ds.length = a) (h : Dw q c n tail (F0 (ds.map some ++ List.replicate (N - a) none)) fun o tl => ∃ d, o = .rt d ∧ P d tl) : Dw q c n tail (bodyF F0 a N ds) P := fun g r t h0 h1 => by
  obtain ⟨o, g', r', t', tl, e, p1, p2, d, rfl, hP⟩ := h g r t h0 h1
  exact ⟨d, g', r', t', tl, bodyF_at hn e, p1, p2, hP⟩
/-- a comprehension that draws, its list by value -/
theorem Dw.lcV {k0 k : Nat} {i : Nat} {fi : FA} {fe : FE} {own : List Nat} {P : D → Mu → Prop} {J : List D → List D → Mu → Prop} (hi : Dw q c k0 tail (fi ρ) fun ds tl => ds.length ≤ 16777216 ∧ n * ds.length ≤ k ∧ J [] ds tl)
    (h : ∀ acc d ds tl, J acc (d :: ds) tl → Dw q c n tl (fe ((wipeE ρ own).set i (some d))) fun y tl' => J (acc ++ [y]) ds tl') (he : ∀ out tl, J out [] tl → P (.lst out) tl) : Dw q c (k0 + k) tail (fLc fi (gN i) tYesF fe own ρ) P := by
  unfold fLc fLcG
  refine Dw.bnd (Dw.mono hi (Nat.le_refl _) fun ds tl ⟨h1, h2, j⟩ => ?_)
  rw [if_pos h1]
  refine Dw.mono (n := n * ds.length + 0) (Dw.bnd (Dw.mono (Dw.lc h j) (Nat.le_refl _) fun out tl z => Dw.ret (he _ _ (by rw [List.nil_append] at z; exact z)))) (by omega) fun _ _ z => z
end
end Tr
/-! ## TrU -/
set_option Elab.async false
set_option linter.all false
set_option maxRecDepth 100000
set_option maxHeartbeats 4000000
/-! What is said of trees alone: reckonings, cuts, paths, bent things, draws. -/
namespace Tr
open PySem PySem.Spec PyProof.Rows L2
/-- the small letters -/
def abc : Str := "abcdefghijklmnopqrstuvwxyz"
def lowS (z : Str) : Bool := z.cps.toList.all fun c => decide (c ∈ abc.cps.toList)
def isTextB : D → Bool
  | .v (.str z) => lowS z
  | _ => false
theorem str_small {z : Str} (h : plD (.v (.str z)) = true) : z.length ≤ 4000 ∧ z.cps.all (· < 128) = true := by
  unfold plD plV at h
  simpa using h
theorem isI_int {d : D} (hp : plD d = true) : lif (dIsI [d, .v (.ty "int")]) = ret (.v (.bl (kd d == "int" || kd d == "bool"))) := by
  rw [isI_pl hp (by decide)]
  cases kd d == "bool" <;> rfl
theorem len_one {n : Nat} : ((n : Int) == 1) = (n == 1) := by
  rw [Bool.eq_iff_iff]
  simp only [beq_iff_eq]
  omega
def isWholeB : D → Bool
  | .v (.int _) => true
  | _ => false
def isNumB (d : D) (n : Int) : Bool := match d with
  | .v (.int i) => decide (0 ≤ i) && decide (i < n)
  | _ => false
def riseL (l : List Nat) : Bool := (List.range (l.length - 1)).all fun k => decide (l.getD k 0 < l.getD (k + 1) 0)
def areLettersB : D → Bool
  | .v (.str z) => lowS z && (decide (1 ≤ z.length) && decide (z.length ≤ 26)) && riseL z.cps.toList
  | _ => false
theorem chain_nat {a b : Int} {n : Nat} : (bnd (lif (dCmp (fun i j => decide (i ≤ j)) (.v (.int a)) (.v (.int (n : Int))))) fun d => match d with
    | .v (.bl true) => bnd (ret (D.v (.int b))) fun z => lif (dCmp (fun i j => decide (i ≤ j)) (.v (.int (n : Int))) z)
    | .v (.bl false) => ret (.v (.bl false))
    | _ => no) = ret (.v (.bl (decide (a ≤ n) && decide ((n : Int) ≤ b)))) := by
  rw [lif_cmp, bnd_ret]
  cases decide (a ≤ n) with
  | true => rfl
  | false => rfl
theorem getD_some {l : List Nat} {k : Nat} (h : k < l.length) : l[k]? = some (l.getD k 0) := by
  rw [List.getD_eq_getElem?_getD, List.getElem?_eq_getElem h]
  rfl
theorem one_lt {a b : Nat} : decide ((⟨#[a]⟩ : Str).cps.toList < (⟨#[b]⟩ : Str).cps.toList) = decide (a < b) := by
  have e : ((⟨#[a]⟩ : Str).cps.toList < (⟨#[b]⟩ : Str).cps.toList) = ([a] < [b]) := rfl
  rw [Bool.eq_iff_iff, decide_eq_true_iff, decide_eq_true_iff, e, List.cons_lt_cons_iff]
  constructor
  · rintro (h | ⟨_, h⟩)
    · exact h
    · exact absurd h (by simp)
  · exact .inl
theorem isT_v {x : V} (hp : plD (.v x) = true) : lif (dIsI [.v x, .v (.ty "tuple")]) = ret (.v (.bl false)) := by
  rw [isI_pl hp (by decide)]
  cases x <;> rfl
theorem isT_l {xs : List D} (hp : plD (.lst xs) = true) : lif (dIsI [.lst xs, .v (.ty "tuple")]) = ret (.v (.bl false)) := by
  rw [isI_pl hp (by decide)]
  rfl
theorem isT_t {xs : List D} (hp : plD (.tup xs) = true) : lif (dIsI [.tup xs, .v (.ty "tuple")]) = ret (.v (.bl true)) := by
  rw [isI_pl hp (by decide)]
  rfl
/-- a plain thing is a tuple or is not -/
theorem pl_cases {P : D → Prop} {d : D} (hp : plD d = true) (h1 : ∀ xs, d = .tup xs → P (.tup xs)) (h2 : lif (dIsI [d, .v (.ty "tuple")]) = ret (.v (.bl false)) → (∀ xs, d ≠ .tup xs) → P d) : P d := by
  cases d with
  | tup xs => exact h1 xs rfl
  | v x => exact h2 (isT_v hp) (fun _ z => by cases z)
  | lst xs => exact h2 (isT_l hp) (fun _ z => by cases z)
  | _ => cases hp
def rowFormB (nl : Nat) : D → Bool
  | .tup [a, .tup ms, _] => isNumB a 61 && ms.length == nl
  | _ => false
def strIs (w : Str) : D → Bool
  | .v (.str z) => z == w
  | _ => false
def tupAll (f : D → Bool) : D → Bool
  | .tup xs => xs.all f
  | _ => false
def lenS : D → Nat
  | .v (.str z) => z.length
  | _ => 0
def lenT : D → Nat
  | .tup xs => xs.length
  | _ => 0
theorem rowForm_cases {nl : Nat} {d : D} (h : rowFormB nl d = true) : ∃ many moves out, d = .tup [.v (.int many), .tup moves, out] ∧ 0 ≤ many ∧ many < 61 ∧ moves.length = nl := by
  unfold rowFormB at h
  split at h
  · rename_i a ms out
    rw [Bool.and_eq_true, beq_iff_eq] at h
    obtain ⟨h1, h2⟩ := h
    unfold isNumB at h1
    split at h1
    · rename_i i
      rw [Bool.and_eq_true, decide_eq_true_iff, decide_eq_true_iff] at h1
      exact ⟨i, ms, out, rfl, h1.1, h1.2, h2⟩
    · cases h1
  · cases h
theorem wt_tup {xs : List D} : wt (.tup xs) = wts xs + 1 := rfl
theorem sign_pl {c : Nat} (h : c < 128) : plD (.v (.str ⟨#[c]⟩)) = true := by
  show (decide (1 ≤ 4000) && (#[c] : Array Nat).all (· < 128)) = true
  simp [h]
theorem isNum_not {d : D} {n : Int} (h : isWholeB d = false) : isNumB d n = false := by
  cases d with
  | v x => cases x <;> first | rfl | cases h
  | _ => rfl
theorem riseL_cons {a b : Nat} {l : List Nat} : riseL (a :: b :: l) = (decide (a < b) && riseL (b :: l)) := by
  unfold riseL
  have e : (a :: b :: l).length - 1 = (b :: l).length - 1 + 1 := by simp
  rw [e, List.range_succ_eq_map, List.all_cons, List.all_map]
  rfl
theorem riseL_up : ∀ {l : List Nat}, riseL l = true ↔ Up l
  | [] => by simp [riseL]
  | [a] => by simp [riseL]
  | a :: b :: l => by
    rw [riseL_cons, Bool.and_eq_true, decide_eq_true_iff, riseL_up (l := b :: l)]
    constructor
    · rintro ⟨h1, h2⟩
      refine List.pairwise_cons.mpr ⟨fun y hy => ?_, h2⟩
      rcases List.mem_cons.mp hy with e | hy
      · rw [e]; exact h1
      · exact Nat.lt_trans h1 ((List.pairwise_cons.mp h2).1 y hy)
    · intro h
      obtain ⟨h1, h2⟩ := List.pairwise_cons.mp h
      exact ⟨h1 b List.mem_cons_self, h2⟩
theorem sort_same (z : Str) : (tx (sortU z.cps.toList) == z) = riseL z.cps.toList := by
  rw [Bool.eq_iff_iff, beq_iff_eq, riseL_up]
  constructor
  · intro h
    have e := congrArg (fun x : Str => x.cps.toList) h
    have e : sortU z.cps.toList = z.cps.toList := by simpa using e
    rw [← e]
    exact sortU_up _
  · intro h
    rw [sortU_same h, tx_of]
def rowsTopB : D → Bool
  | .tup rs => decide (1 ≤ rs.length) && decide (rs.length ≤ 400)
  | _ => false
theorem mul_small {i j : Int} (h : -18446744073709551616 < j ∧ j < 18446744073709551616) : lif (dMul (.v (.int i)) (.v (.int j))) = ret (.v (.int (i * j))) := lif_eq fun μ => by
  show (iMul i j).map _ = _
  unfold iMul
  rw [if_pos (Or.inr (by simpa using h))]
  rfl
theorem mul_smallL {i j : Int} (h : -18446744073709551616 < i ∧ i < 18446744073709551616) : lif (dMul (.v (.int i)) (.v (.int j))) = ret (.v (.int (i * j))) := lif_eq fun μ => by
  show (iMul i j).map _ = _
  unfold iMul
  rw [if_pos (Or.inl (by simpa using h))]
  rfl
theorem lif_intOf {i : Int} : lif (dIntOf [.v (.int i)]) = ret (.v (.int i)) := rfl
theorem lif_pow {i : Int} {j : Nat} (h : 0 ≤ i ∧ i < 1152921504606846976) (hj : j ≤ 1000) : lif (dInt iPow (.v (.int i)) (.v (.int (j : Int)))) = ret (.v (.int (i ^ j))) := lif_int (by
  unfold iPow
  rw [if_pos ⟨by omega, by omega, by
    have e : (2 : Nat) ^ 64 = 18446744073709551616 := by decide
    rw [e]
    omega⟩, Int.toNat_natCast])
variable {q : Str} {g c : List Int} {r t : Int} {tail : Mu}
theorem get_rest {ρ : En} (h : fVar 0 ρ = ret (.r 2)) : fGet "rest" (fVar 0) ρ (SM q g c r t tail) = some (.ok (di r) (SM q g c r t tail)) := fGet_at (n := 2) h rfl val_rest
theorem get_great {ρ : En} (h : fVar 0 ρ = ret (.r 2)) : fGet "great" (fVar 0) ρ (SM q g c r t tail) = some (.ok (.r 1) (SM q g c r t tail)) := fGet_at (n := 2) h rfl val_great
theorem great_ne : dNe (.r 1) (.lst []) (SM q g c r t tail) = some (.v (.bl (!g.isEmpty))) := by
  show (dEqB (.lst (g.map di)) (.lst [])).map _ = _
  rw [eqNil (plDs_ints g) (by rw [dps_v fun d hd => by obtain ⟨i, _, rfl⟩ := List.mem_map.mp hd; exact ⟨_, rfl⟩]; omega)]
  cases g <;> rfl
theorem pop_great {x : Int} {ρ : En} (h : fVar 0 ρ = ret (.r 2)) : fMl lPop (fGet "great" (fVar 0)) [fC (di 0)] ρ (SM q (x :: g) c r t tail) = some (.ok (di x) (SM q g c r t tail)) := by
  unfold fMl
  rw [bnd_at (get_great h)]
  show (if isLst (SM q (x :: g) c r t tail) 1 = true then _ else _) = _
  rw [if_pos (show isLst (SM q (x :: g) c r t tail) 1 = true from rfl)]
  have hp : lPop ((x :: g).map di) [di 0] = some (di x, g.map di) := by
    have hs : seqIndex? 0 (di x :: List.map di g).length = some 0 := by
      unfold seqIndex?
      simp
    simp only [lPop, List.map_cons, show small62 0 = true by decide, if_true]
    rw [hs]
    rfl
  have e : fAll [fC (di 0)] ρ = ret [di 0] := rfl
  rw [e, bnd_ret]
  show (match lPop ((x :: g).map di) [di 0] with
    | some (y, zs) => _
    | none => _) = _
  rw [hp]
  rfl
theorem absI {i : Int} : lif (dAbs [di i]) = ret (di (if i < 0 then -i else i)) := rfl
variable {q : Str} {g c : List Int} {r t : Int} {pre tail : Mu}
theorem dropAt : ∀ {l : List Int} {k : Nat}, (l.map di).eraseIdx k = (l.eraseIdx k).map di
  | [], _ => rfl
  | a :: l, 0 => rfl
  | a :: l, k + 1 => by
    rw [List.map_cons, List.eraseIdx_cons_succ, List.eraseIdx_cons_succ, List.map_cons, dropAt]
theorem perm_erase : ∀ {l : List Int} {k : Nat} (h : k < l.length), (l[k] :: l.eraseIdx k).Perm l
  | a :: l, 0, _ => List.Perm.refl _
  | a :: l, k + 1, h => by
    have hk : k < l.length := by rw [List.length_cons] at h; omega
    show (l[k] :: a :: l.eraseIdx k).Perm (a :: l)
    exact (List.Perm.swap a l[k] (l.eraseIdx k)).trans ((perm_erase hk).cons a)
theorem lPop_nat {xs : List D} {k : Nat} (h : k < xs.length) (h2 : k ≤ 16777216) : lPop xs [di k] = some (xs[k], xs.eraseIdx k) := by
  have hs : seqIndex? (k : Int) xs.length = some k := by
    have hz : ¬ ((k : Int) < 0) := by omega
    unfold seqIndex?
    simp only [hz, if_false]
    rw [if_pos (by simp only [Bool.and_eq_true, decide_eq_true_eq]; omega), Int.toNat_natCast]
  simp only [lPop, small_nat h2, if_true, hs, List.getElem?_eq_getElem h]
theorem lApp_ok {xs : List D} {y : D} (h : xs.length < 16777216) : lApp xs [y] = some (.v .non, xs ++ [y]) := by
  unfold lApp
  dsimp only
  rw [if_pos h]
theorem text_pl {z : Str} (a : lowS z = true) (b : z.length = 1) : plD (.v (.str z)) = true := by
  have h : ∀ c ∈ z.cps.toList, c < 128 := fun c hc => by
    have := List.all_eq_true.mp a c hc
    rw [decide_eq_true_iff] at this
    have hb : ∀ x ∈ abc.cps.toList, x < 128 := by decide
    exact hb c this
  show (decide (z.length ≤ 4000) && z.cps.all (· < 128)) = true
  rw [Bool.and_eq_true, decide_eq_true_iff, b]
  refine ⟨by decide, ?_⟩
  rw [Array.all_eq_true']
  intro x hx
  simpa using h x (by simpa using hx)
section
variable {q : Str} {c : List Int} {n m l : Nat} {pre tail P : Mu} {ρ : En}
theorem Dw.call3 {F : List D → M D} {f1 f2 f3 : FE} {a : D} {R : D → Mu → Prop} (h1 : f1 ρ = Tr.ret a) (h : Dw q c n tail (f2 ρ) fun b tl => Dw q c m tl (f3 ρ) fun d tl' => Dw q c l tl' (F [a, b, d]) R) : Dw q c (n + (m + l)) tail (fCall F [f1, f2, f3] ρ) R := by
  unfold fCall
  rw [fAll_cons, h1, bnd_ret, fAll_cons, bnd_assoc, bnd_assoc]
  refine Dw.bnd (Dw.mono h (Nat.le_refl _) fun b tl z => ?_)
  rw [fAll_cons, bnd_assoc, bnd_assoc]
  refine Dw.bnd (Dw.mono z (Nat.le_refl _) fun d tl' z' => ?_)
  rw [fAll_nil]
  simp only [bnd_ret]
  exact z'
theorem Dw.tup2 {f1 f2 : FE} {R : D → Mu → Prop} (h : Dw q c n tail (f1 ρ) fun a tl => Dw q c m tl (f2 ρ) fun b tl' => R (.tup [a, b]) tl') : Dw q c (n + m) tail (fTup [f1, f2] ρ) R := by
  unfold fTup
  rw [fAll_cons, bnd_assoc]
  refine Dw.bnd (Dw.mono h (Nat.le_refl _) fun a tl z => ?_)
  rw [fAll_cons, bnd_assoc, bnd_assoc]
  refine Dw.mono (n := m + 0) (Dw.bnd (Dw.mono z (Nat.le_refl _) fun b tl' z' => ?_)) (Nat.le_refl _) fun _ _ z => z
  rw [fAll_nil]
  simp only [bnd_ret]
  exact Dw.ret z'
theorem Dw.asg {fa : FE} {gt : FG} {R : Out → Mu → Prop} (h : Dw q c n tail (fa ρ) fun d tl => ∃ ρ', lif (gt d ρ) = Tr.ret ρ' ∧ R (.nx ρ') tl) : Dw q c n tail (fAsg fa gt ρ) R := by
  unfold fAsg
  refine Dw.mono (n := n + 0) (Dw.bnd (Dw.mono h (Nat.le_refl _) fun d tl ⟨ρ', e, z⟩ => ?_)) (Nat.le_refl _) fun _ _ z => z
  rw [e, bnd_ret]
  exact Dw.ret z
end
def U0 (k : Nat) : List Int := (List.range k).map fun i : Nat => 0 + (i : Int)
theorem U0_len {k : Nat} : (U0 k).length = k := by simp [U0]
theorem U0_mem {k : Nat} {i : Int} (h : i ∈ U0 k) : 0 ≤ i ∧ i < k := by
  obtain ⟨j, hj, rfl⟩ := List.mem_map.mp h
  rw [List.mem_range] at hj
  omega
theorem U0_nodup {k : Nat} : (U0 k).Nodup := by
  unfold U0
  rw [List.nodup_iff_pairwise_ne, List.pairwise_map]
  refine List.Pairwise.imp ?_ (List.nodup_iff_pairwise_ne.mp List.nodup_range)
  intro a b h1 h2
  exact h1 (by omega)
theorem U0_rng {k : Nat} : rngD 0 k = (U0 k).map di := by
  unfold rngD U0
  rw [List.map_map]
  rfl
section
variable {q : Str} {c : List Int} {n m l : Nat} {pre tail P : Mu} {ρ : En}
theorem Dw.tupleR {i j : Nat} {xs : List D} (h : ρ[i]? = some (some (.r (j + 3)))) (h2 : tail[j]? = some (.lst xs)) : Dw q c 0 tail (fB dTuple [fVar i] ρ) fun d tl => d = .tup xs ∧ tl = tail := by
  refine Dw.at (a := .tup xs) (fun g r t => ?_) ⟨rfl, rfl⟩
  unfold fB
  rw [fAll_cons, fVar_eq h, bnd_ret, fAll_nil, bnd_ret, bnd_ret]
  exact lif_at (dTuple_SM h2)
theorem Dw.tup3 {f1 f2 f3 : FE} {R : D → Mu → Prop} (h : Dw q c n tail (f1 ρ) fun a tl => Dw q c m tl (f2 ρ) fun b tl' => Dw q c l tl' (f3 ρ) fun d tl2 => R (.tup [a, b, d]) tl2) : Dw q c (n + (m + l)) tail (fTup [f1, f2, f3] ρ) R := by
  unfold fTup
  rw [fAll_cons, bnd_assoc]
  refine Dw.bnd (Dw.mono h (Nat.le_refl _) fun a tl z => ?_)
  rw [fAll_cons, bnd_assoc, bnd_assoc]
  refine Dw.bnd (Dw.mono z (Nat.le_refl _) fun b tl' z' => ?_)
  rw [fAll_cons, bnd_assoc, bnd_assoc]
  refine Dw.mono (n := l + 0) (Dw.bnd (Dw.mono z' (Nat.le_refl _) fun d tl' z2 => ?_)) (Nat.le_refl _) fun _ _ z => z
  rw [fAll_nil]
  simp only [bnd_ret]
  exact Dw.ret z2
theorem lowT_app {a b : Mu} : lowT (a ++ b) = (lowT a && lowT b) := by
  unfold lowT
  rw [List.all_append]
theorem lowT_cons {xs : List D} {junk : Mu} (h : plDs xs = true) (hj : lowT junk = true) : lowT (.lst xs :: junk) = true := by
  unfold lowT at *
  rw [List.all_cons, hj, Bool.and_true]
  exact lows_pl h
theorem get_mid {xs : List D} {junk : Mu} : (P ++ .lst xs :: junk)[P.length]? = some (.lst xs) := by simp
theorem set_mid {xs ys : List D} {junk : Mu} : (P ++ .lst xs :: junk).set P.length (.lst ys) = P ++ .lst ys :: junk := by simp
end
section
variable {q : Str} {c : List Int} {n m l : Nat} {pre tail P : Mu} {ρ : En}
theorem Dw.rng1 {fa : FE} {R : List D → Mu → Prop} (h : Dw q c n tail (fa ρ) fun d tl => ∃ k : Nat, d = di k ∧ k ≤ 16777216 ∧ R (rngD 0 k) tl) : Dw q c n tail (fRng1 [fa] ρ) R := by
  unfold fRng1
  rw [fAll_cons, bnd_assoc]
  refine Dw.mono (n := n + 0) (Dw.bnd (Dw.mono h (Nat.le_refl _) fun d tl ⟨k, e, hk, z⟩ => ?_)) (Nat.le_refl _) fun _ _ z => z
  subst e
  rw [fAll_nil, bnd_ret, bnd_ret]
  exact Dw.eq (lif_rng hk) z
theorem Dw.f2 {f : Op2} {fa fb : FE} {a : D} {R : D → Mu → Prop} (h1 : fa ρ = Tr.ret a) (h : Dw q c n tail (fb ρ) fun b tl => ∃ d, lif (f a b) = Tr.ret d ∧ R d tl) : Dw q c n tail (Tr.f2 f fa fb ρ) R := by
  unfold Tr.f2
  rw [h1, bnd_ret]
  refine Dw.mono (n := n + 0) (Dw.bnd (Dw.mono h (Nat.le_refl _) fun b tl ⟨d, e, z⟩ => Dw.eq e z)) (Nat.le_refl _) fun _ _ z => z
theorem tupleL {i : Nat} {xs : List D} (h : ρ[i]? = some (some (.lst xs))) : fB dTuple [fVar i] ρ = Tr.ret (.tup xs) := by
  unfold fB
  rw [fAll_cons, fVar_eq h, bnd_ret, fAll_nil, bnd_ret, bnd_ret]
  exact lif_eq fun μ => rfl
theorem Dw.tup4 {f1 f2 f3 f4 : FE} {a b : D} {R : D → Mu → Prop} (h1 : f1 ρ = Tr.ret a) (h2 : f2 ρ = Tr.ret b) (h : Dw q c n tail (f3 ρ) fun d tl => Dw q c m tl (f4 ρ) fun e tl' => R (.tup [a, b, d, e]) tl') : Dw q c (n + m) tail (fTup [f1, f2, f3, f4] ρ) R := by
  unfold fTup
  rw [fAll_cons, h1, bnd_ret, fAll_cons, h2, bnd_ret, fAll_cons, bnd_assoc, bnd_assoc, bnd_assoc]
  refine Dw.bnd (Dw.mono h (Nat.le_refl _) fun d tl z => ?_)
  rw [fAll_cons, bnd_assoc, bnd_assoc]
  refine Dw.mono (n := m + 0) (Dw.bnd (Dw.mono z (Nat.le_refl _) fun e tl' z' => ?_)) (Nat.le_refl _) fun _ _ z => z
  rw [fAll_nil]
  simp only [bnd_ret]
  exact Dw.ret z'
theorem asc_of {z : Str} (h : ∀ x ∈ z.cps.toList, x < 128) : z.cps.all (· < 128) = true := by
  rw [Array.all_eq_true']
  intro x hx
  simpa using h x (by simpa using hx)
theorem strs_pl {z : Str} (h : ∀ x ∈ z.cps.toList, x < 128) (hl : z.length ≤ 4000) : plD (.v (.str z)) = true := by
  show (decide (z.length ≤ 4000) && z.cps.all (· < 128)) = true
  rw [asc_of h, decide_eq_true hl]
  rfl
end
theorem wts_le {k : Nat} : ∀ {xs : List D}, (∀ d ∈ xs, wt d ≤ k) → wts xs ≤ k * xs.length
  | [], _ => Nat.zero_le _
  | d :: ds, h => by
    have h1 := h d List.mem_cons_self
    have h2 := wts_le fun x hx => h x (List.mem_cons_of_mem _ hx)
    have e : wts (d :: ds) = wt d + wts ds := rfl
    rw [e, List.length_cons, Nat.mul_succ]
    omega
section
variable {q : Str} {c : List Int} {n m l : Nat} {pre tail P : Mu} {ρ : En}
theorem slT_to {fa : FE} {fh : FE} {xs : List D} {k : Nat} (h1 : fa ρ = Tr.ret (.tup xs)) (h2 : fh ρ = Tr.ret (di k)) (hl : xs.length ≤ 16777216) : fSl fa fNoP (fPart fh) ρ = Tr.ret (.tup (xs.take k)) := by
  unfold fSl fNoP fPart
  rw [h1, bnd_ret, bnd_ret, h2, bnd_ret]
  dsimp only
  rw [bnd_ret]
  refine lif_eq fun μ => ?_
  unfold slB
  dsimp only
  rw [if_pos hl, HT.sIx_none, HT.sIx_nat, List.drop_zero, Nat.sub_zero, ← List.take_take, List.take_length]
theorem slT_from {fa : FE} {fh : FE} {xs : List D} {k : Nat} (h1 : fa ρ = Tr.ret (.tup xs)) (h2 : fh ρ = Tr.ret (di k)) (hl : xs.length ≤ 16777216) : fSl fa (fPart fh) fNoP ρ = Tr.ret (.tup (xs.drop k)) := by
  unfold fSl fNoP fPart
  rw [h1, bnd_ret, h2, bnd_ret]
  dsimp only
  rw [bnd_ret, bnd_ret]
  refine lif_eq fun μ => ?_
  unfold slB
  dsimp only
  rw [if_pos hl, HT.sIx_none, HT.sIx_nat]
  have e : (xs.drop (min k xs.length)).take (xs.length - min k xs.length) = xs.drop k := by
    rw [List.take_of_length_le (by rw [List.length_drop]; omega)]
    by_cases hk : k ≤ xs.length
    · rw [Nat.min_eq_left hk]
    · rw [Nat.min_eq_right (by omega), List.drop_eq_nil_of_le (Nat.le_refl _), List.drop_eq_nil_of_le (by omega)]
  rw [e]
theorem f2_eq {f : Op2} {fa fb : FE} {a b d : D} (h1 : fa ρ = Tr.ret a) (h2 : fb ρ = Tr.ret b) (h : lif (f a b) = Tr.ret d) : Tr.f2 f fa fb ρ = Tr.ret d := by
  unfold Tr.f2
  rw [h1, bnd_ret, h2, bnd_ret, h]
theorem tup1_eq {fa : FE} {a : D} (h1 : fa ρ = Tr.ret a) : fTup [fa] ρ = Tr.ret (.tup [a]) := by
  unfold fTup
  rw [fAll_cons, h1, bnd_ret, fAll_nil, bnd_ret, bnd_ret]
theorem wts_drop : ∀ {xs : List D} {k : Nat}, wts (xs.drop k) ≤ wts xs
  | [], k => by rw [List.drop_nil]; exact Nat.le_refl _
  | d :: ds, 0 => Nat.le_refl _
  | d :: ds, k + 1 => by
    have e : wts (d :: ds) = wt d + wts ds := rfl
    have := wts_drop (xs := ds) (k := k)
    rw [List.drop_succ_cons, e]
    omega
theorem wts_take : ∀ {xs : List D} {k : Nat}, wts (xs.take k) ≤ wts xs
  | [], k => by rw [List.take_nil]; exact Nat.le_refl _
  | d :: ds, 0 => Nat.zero_le _
  | d :: ds, k + 1 => by
    have e : wts (d :: ds) = wt d + wts ds := rfl
    have e2 : wts (d :: ds.take k) = wt d + wts (ds.take k) := rfl
    have := wts_take (xs := ds) (k := k)
    rw [List.take_succ_cons, e, e2]
    omega
theorem Dw.par {i j : Nat} {fa fb : FE} {R : Out → Mu → Prop} (h : Dw q c n tail (fa ρ) fun a tl => Dw q c m tl (fb ρ) fun b tl' => R (.nx ((ρ.set i (some a)).set j (some b))) tl') : Dw q c (n + m) tail (fPar i j [fa, fb] ρ) R := by
  unfold fPar
  rw [fAll_cons, bnd_assoc]
  refine Dw.bnd (Dw.mono h (Nat.le_refl _) fun a tl z => ?_)
  rw [fAll_cons, bnd_assoc, bnd_assoc]
  refine Dw.mono (n := m + 0) (Dw.bnd (Dw.mono z (Nat.le_refl _) fun b tl' z' => ?_)) (Nat.le_refl _) fun _ _ z => z
  rw [fAll_nil]
  simp only [bnd_ret]
  exact Dw.ret z'
theorem seq_if {ft : FT} {fa : FE} {rest : FS} {b : Bool} {a : D} (h1 : ft ρ = Tr.ret b) (h2 : fa ρ = Tr.ret a) : fSeq (fIfS ft (fRet fa) fNx) rest ρ = if b = true then Tr.ret (.rt a) else rest ρ := by
  unfold fSeq fIfS fRet fNx
  rw [h1, bnd_ret]
  cases b with
  | true => rw [if_pos rfl, if_pos rfl, h2, bnd_ret, bnd_ret]
  | false => rw [if_neg Bool.false_ne_true, if_neg Bool.false_ne_true, bnd_ret]
theorem tst_eq {fa : FE} {b : Bool} (h : fa ρ = Tr.ret (.v (.bl b))) : tst fa ρ = Tr.ret b := by
  unfold tst
  rw [h, bnd_ret, asB_bl]
end
/-- the part at a path -/
def atP : D → List Nat → Option D
  | d, [] => some d
  | .tup xs, i :: p => match xs[i]? with
    | some x => atP x p
    | none => none
  | _, _ :: _ => none
def putP : D → List Nat → D → D
  | _, [], y => y
  | .tup xs, i :: p, y => match xs[i]? with
    | some x => .tup (xs.take i ++ [putP x p y] ++ xs.drop (i + 1))
    | none => y
  | _, _ :: _, y => y
abbrev pthD (p : List Nat) : D := .tup (p.map fun i : Nat => di (i : Int))
theorem eqTB {xs : List D} (h : plDs xs = true) (hd : dps xs ≤ 63) : dEqB (.tup xs) (.tup []) = some xs.isEmpty := by
  obtain ⟨p, q, h1, h2, h3⟩ := dEqB_pl (a := .tup xs) (b := .tup []) (by unfold plD; exact h) (by decide +kernel) (by unfold dp; omega) (by decide +kernel)
  rw [h3]
  have h2' : toP (.tup []) = some (.tuple []) := rfl
  rw [h2'] at h2
  cases h2
  cases xs with
  | nil =>
    have e : toP (.tup []) = some (.tuple []) := rfl
    rw [e] at h1
    cases h1
    decide +kernel
  | cons x xs =>
    unfold toP at h1
    cases hx : toPs (x :: xs) with
    | none => rw [hx] at h1; cases h1
    | some ps =>
      rw [hx] at h1
      cases h1
      unfold toPs at hx
      cases hx1 : toP x with
      | none => rw [hx1] at hx; cases hx
      | some p =>
        rw [hx1] at hx
        cases hx2 : toPs xs with
        | none => rw [hx2] at hx; cases hx
        | some ps =>
          rw [hx2] at hx
          cases hx
          unfold PyData.eqv PyData.eqvAll
          rfl
theorem eqT_nil {xs : List D} (h : plDs xs = true) (hd : dps xs ≤ 63) : lif (dEq (.tup xs) (.tup [])) = ret (.v (.bl xs.isEmpty)) := lif_eq fun μ => by
  show (dEqB (.tup xs) (.tup [])).map _ = _
  rw [eqTB h hd]
  rfl
theorem neT_nil {xs : List D} (h : plDs xs = true) (hd : dps xs ≤ 63) : lif (dNe (.tup xs) (.tup [])) = ret (.v (.bl (!xs.isEmpty))) := lif_eq fun μ => by
  show (dEqB (.tup xs) (.tup [])).map _ = _
  rw [eqTB h hd]
  rfl
theorem pth_pl (p : List Nat) : plDs (p.map fun i : Nat => di (i : Int)) = true := plDs_iff.mpr fun d hd => by
  obtain ⟨i, _, rfl⟩ := List.mem_map.mp hd
  rfl
theorem pth_dps (p : List Nat) : dps (p.map fun i : Nat => di (i : Int)) ≤ 63 := by
  rw [dps_v fun d hd => by obtain ⟨i, _, rfl⟩ := List.mem_map.mp hd; exact ⟨_, rfl⟩]
  omega
def subs : D → List D
  | .tup xs => xs
  | _ => []
/-- the paths into a thing -/
def spotsP : Nat → D → List (List Nat)
  | 0, _ => []
  | j + 1, d => [] :: (List.range (subs d).length).flatMap fun i => (spotsP j ((subs d).getD i (.v .non))).map (i :: ·)
theorem pth_app {path p : List Nat} {k : Nat} : pthD (path ++ [k] ++ p) = pthD (path ++ k :: p) := by
  rw [List.append_assoc]
  rfl
/-- small leaves -/
def lfV : V → Bool
  | .int i => decide (0 ≤ i) && decide (i ≤ 500)
  | .str z => decide (z.length ≤ 100) && z.cps.all (· < 128)
  | _ => false
mutual
def lfD : D → Bool
  | .v x => lfV x
  | .tup xs => lfDs xs
  | _ => false
def lfDs : List D → Bool
  | [] => true
  | d :: ds => lfD d && lfDs ds
end
theorem lfDs_iff : ∀ {ds : List D}, lfDs ds = true ↔ ∀ d ∈ ds, lfD d = true
  | [] => by simp [lfDs]
  | d :: ds => by simp [lfDs, lfDs_iff (ds := ds)]
theorem lfV_pl {x : V} (h : lfV x = true) : plV x = true := by
  cases x with
  | int i => rfl
  | str z =>
    unfold lfV at h
    unfold plV
    simp only [Bool.and_eq_true, decide_eq_true_eq] at h ⊢
    exact ⟨by omega, h.2⟩
  | _ => cases h
mutual
theorem lf_pl : ∀ {d : D}, lfD d = true → plD d = true
  | .v x, h => by
    unfold lfD at h
    unfold plD
    exact lfV_pl h
  | .tup xs, h => by
    unfold lfD at h
    unfold plD
    exact lfs_pl h
  | .lst xs, h => by unfold lfD at h; cases h
  | .r n, h => by unfold lfD at h; cases h
  | .exn n, h => by unfold lfD at h; cases h
  | .lam n, h => by unfold lfD at h; cases h
theorem lfs_pl : ∀ {ds : List D}, lfDs ds = true → plDs ds = true
  | [], h => rfl
  | d :: ds, h => by
    unfold lfDs at h
    unfold plDs
    rw [Bool.and_eq_true] at h ⊢
    exact ⟨lf_pl h.1, lfs_pl h.2⟩
end
theorem rng0 {n : Nat} : rngD 0 n = (List.range n).map fun i : Nat => di (i : Int) := by
  unfold rngD
  exact List.map_congr_left fun i _ => by rw [Int.zero_add]
theorem seq_nx {f1 f2 : FS} {ρ ρ' : En} (h : f1 ρ = ret (.nx ρ')) : fSeq f1 f2 ρ = f2 ρ' := by
  unfold fSeq
  rw [h, bnd_ret]
theorem set_eq {i : Nat} {fa : FE} {d : D} {ρ : En} (h : fa ρ = ret d) : fSet i fa ρ = ret (.nx (ρ.set i (some d))) := by
  unfold fSet fAsg
  rw [h, bnd_ret, lif_gN, bnd_ret]
theorem rt_eq {fa : FE} {d : D} {ρ : En} (h : fa ρ = ret d) : fRet fa ρ = ret (.rt d) := by
  unfold fRet
  rw [h, bnd_ret]
theorem lst1_eq {fa : FE} {a : D} {ρ : En} (h1 : fa ρ = ret a) : fLst [fa] ρ = ret (.lst [a]) := by
  unfold fLst
  rw [fAll_cons, h1, bnd_ret, fAll_nil, bnd_ret, bnd_ret]
theorem fB1_eq {f : OpN} {fa : FE} {a d : D} {ρ : En} (h1 : fa ρ = ret a) (h : lif (f [a]) = ret d) : fB f [fa] ρ = ret d := by
  unfold fB
  rw [fAll_cons, h1, bnd_ret, fAll_nil, bnd_ret, bnd_ret, h]
theorem fB2_eq {f : OpN} {fa fb : FE} {a b d : D} {ρ : En} (h1 : fa ρ = ret a) (h2 : fb ρ = ret b) (h : lif (f [a, b]) = ret d) : fB f [fa, fb] ρ = ret d := by
  unfold fB
  rw [fAll_cons, h1, bnd_ret, fAll_cons, h2, bnd_ret, fAll_nil, bnd_ret, bnd_ret, bnd_ret, h]
theorem fIf_eq {ft : FT} {fa fb : FE} {b : Bool} {ρ : En} (h : ft ρ = ret b) : fIf ft fa fb ρ = if b = true then fa ρ else fb ρ := by
  unfold fIf
  rw [h, bnd_ret]
theorem rng1_eq {fa : FE} {n : Nat} {ρ : En} (h : fa ρ = ret (di (n : Int))) (hn : n ≤ 16777216) : fRng1 [fa] ρ = ret (rngD 0 n) := by
  unfold fRng1
  rw [fAll_cons, h, bnd_ret, fAll_nil, bnd_ret, bnd_ret]
  exact lif_rng hn
theorem loop_all {S : Nat → List (List Nat)} {k : Nat} : ∀ {xs : List D}, (∀ i x, xs[i]? = some x → (S (k + i)).length ≤ wt x) → ((List.range xs.length).flatMap fun i => (S (k + i)).map ((k + i) :: ·)).length ≤ wts xs
  | xs, h => by
    have : ∀ (n : Nat), n ≤ xs.length → ((List.range n).flatMap fun i => (S (k + i)).map ((k + i) :: ·)).length ≤ wts (xs.take n) := by
      intro n
      induction n with
      | zero => intro _; simp
      | succ n ih =>
        intro hn
        have hx : xs[n]? = some xs[n] := List.getElem?_eq_getElem hn
        have h1 := ih (by omega)
        have h2 := h n xs[n] hx
        rw [List.range_succ, List.flatMap_append, List.length_append, List.take_succ_eq_append_getElem hn, wts_append]
        have e : wts [xs[n]] = wt xs[n] + 0 := rfl
        have e2 : ([n].flatMap fun i => (S (k + i)).map ((k + i) :: ·)).length = (S (k + n)).length := by simp
        rw [e, e2]
        omega
    have z := this xs.length (Nat.le_refl _)
    rw [List.take_length] at z
    exact z
theorem subs_wt (d : D) : wts (subs d) + 1 ≤ wt d := by
  cases d with
  | tup xs => exact Nat.le_refl _
  | lst xs =>
    show 0 + 1 ≤ wts xs + 1
    omega
  | _ => exact Nat.le_refl _
theorem spots_len : ∀ (j : Nat) (d : D), (spotsP j d).length ≤ wt d
  | 0, d => Nat.zero_le _
  | j + 1, d => by
    unfold spotsP
    rw [List.length_cons]
    have h := loop_all (S := fun i => spotsP j ((subs d).getD i (.v .non))) (k := 0) (xs := subs d) (fun i x hx => by
      have e : (subs d).getD (0 + i) (.v .non) = x := by
        rw [Nat.zero_add, List.getD_eq_getElem?_getD, hx]
        rfl
      rw [e]
      exact spots_len j x)
    simp only [Nat.zero_add] at h
    have h2 := subs_wt d
    omega
theorem dps_mem : ∀ {ds : List D} {d : D}, d ∈ ds → dp d ≤ dps ds
  | x :: ds, d, h => by
    unfold dps
    rcases List.mem_cons.mp h with h | h
    · subst h; omega
    · have := dps_mem h; omega
theorem spots_at : ∀ {j : Nat} {d : D} {p : List Nat}, p ∈ spotsP j d → lfD d = true → ∃ x, atP d p = some x ∧ lfD x = true ∧ wt x ≤ wt d ∧ p.length < j
  | 0, d, p, h, _ => by cases h
  | j + 1, d, p, h, hl => by
    unfold spotsP at h
    rcases List.mem_cons.mp h with h | h
    · subst h
      exact ⟨d, by unfold atP; rfl, hl, Nat.le_refl _, Nat.succ_pos _⟩
    · obtain ⟨i, hi, h⟩ := List.mem_flatMap.mp h
      obtain ⟨p', hp', rfl⟩ := List.mem_map.mp h
      have hi := List.mem_range.mp hi
      cases d with
      | tup xs =>
        have hi : i < xs.length := hi
        have hx : xs[i]? = some xs[i] := List.getElem?_eq_getElem hi
        have e : (subs (.tup xs)).getD i (.v .non) = xs[i] := by
          show xs.getD i (.v .non) = xs[i]
          rw [List.getD_eq_getElem?_getD, hx]
          rfl
        rw [e] at hp'
        obtain ⟨x, h1, h2, h3, h4⟩ := spots_at hp' (lfDs_iff.mp (by unfold lfD at hl; exact hl) _ (List.getElem_mem hi))
        have := wts_mem (List.getElem_mem hi)
        have e2 : wt (.tup xs) = wts xs + 1 := rfl
        refine ⟨x, ?_, h2, by omega, by rw [List.length_cons]; omega⟩
        unfold atP
        rw [hx]
        exact h1
      | _ => exact absurd hi (Nat.not_lt_zero _)
theorem spots_two {j : Nat} {x : D} {xs : List D} : 2 ≤ (spotsP (j + 2) (.tup (x :: xs))).length := by
  unfold spotsP
  have e : (subs (.tup (x :: xs))).length = xs.length + 1 := rfl
  rw [e, List.range_succ_eq_map, List.flatMap_cons, List.length_cons, List.length_append, List.length_map]
  unfold spotsP
  rw [List.length_cons]
  omega
theorem wts_split {xs : List D} {i : Nat} {x : D} (h : xs[i]? = some x) : wts xs = wts (xs.take i) + wt x + wts (xs.drop (i + 1)) := by
  obtain ⟨hi, rfl⟩ := List.getElem?_eq_some_iff.mp h
  have e := wts_append (xs.take i) (xs.drop i)
  rw [List.take_append_drop, List.drop_eq_getElem_cons hi] at e
  have e2 : wts (xs[i] :: xs.drop (i + 1)) = wt xs[i] + wts (xs.drop (i + 1)) := rfl
  omega
theorem put_wt : ∀ {d : D} {p : List Nat} {y : D}, wt (putP d p y) ≤ wt d + wt y
  | d, [], y => by
    rw [putP]
    omega
  | .tup xs, i :: p, y => by
    rw [putP]
    cases hx : xs[i]? with
    | none => dsimp only; omega
    | some x =>
      dsimp only
      have ih := put_wt (d := x) (p := p) (y := y)
      have e := wts_split hx
      have e1 : wt (.tup xs) = wts xs + 1 := rfl
      have e2 : wt (.tup (xs.take i ++ [putP x p y] ++ xs.drop (i + 1))) = wts (xs.take i ++ [putP x p y] ++ xs.drop (i + 1)) + 1 := rfl
      have e3 : wts [putP x p y] = wt (putP x p y) + 0 := rfl
      rw [e2, wts_append, wts_append, e3]
      omega
  | .v _, i :: p, y => by unfold putP; omega
  | .lst _, i :: p, y => by unfold putP; omega
  | .r _, i :: p, y => by unfold putP; omega
  | .exn _, i :: p, y => by unfold putP; omega
  | .lam _, i :: p, y => by unfold putP; omega
theorem put_pl : ∀ {d : D} {p : List Nat} {y : D}, plD d = true → plD y = true → plD (putP d p y) = true
  | d, [], y, _, hy => by
    rw [putP]
    exact hy
  | .tup xs, i :: p, y, hd, hy => by
    rw [putP]
    cases hx : xs[i]? with
    | none => exact hy
    | some x =>
      dsimp only
      have hxs := pl_tup hd
      have ih := put_pl (p := p) (hxs x (List.mem_of_getElem? hx)) hy
      show plDs (xs.take i ++ [putP x p y] ++ xs.drop (i + 1)) = true
      rw [plDs_iff]
      intro z hz
      rcases List.mem_append.mp hz with hz | hz
      · rcases List.mem_append.mp hz with hz | hz
        · exact hxs z (List.mem_of_mem_take hz)
        · rw [List.mem_singleton] at hz
          rw [hz]
          exact ih
      · exact hxs z (List.mem_of_mem_drop hz)
  | .v _, i :: p, y, _, hy => by unfold putP; exact hy
  | .lst _, i :: p, y, _, hy => by unfold putP; exact hy
  | .r _, i :: p, y, _, hy => by unfold putP; exact hy
  | .exn _, i :: p, y, _, hy => by unfold putP; exact hy
  | .lam _, i :: p, y, _, hy => by unfold putP; exact hy
section
variable {ρ : En}
theorem fAll_eq {f : FE} {fs : List FE} {a : D} {ds : List D} (h : f ρ = ret a) (h2 : fAll fs ρ = ret ds) : fAll (f :: fs) ρ = ret (a :: ds) := by
  rw [fAll_cons, h, bnd_ret, h2, bnd_ret]
theorem fLst_eq {fs : List FE} {ds : List D} (h : fAll fs ρ = ret ds) : fLst fs ρ = ret (.lst ds) := by
  unfold fLst
  rw [h, bnd_ret]
theorem fTup_eq {fs : List FE} {ds : List D} (h : fAll fs ρ = ret ds) : fTup fs ρ = ret (.tup ds) := by
  unfold fTup
  rw [h, bnd_ret]
theorem ifS_eq {ft : FT} {f1 f2 : FS} {b : Bool} (h : ft ρ = ret b) : fIfS ft f1 f2 ρ = if b = true then f1 ρ else f2 ρ := by
  unfold fIfS
  rw [h, bnd_ret]
theorem tAnd_eq {ft fu : FT} {b : Bool} (h : ft ρ = ret b) : tAndF ft fu ρ = if b = true then fu ρ else ret false := by
  unfold tAndF
  rw [h, bnd_ret]
theorem fNeg_eq {fa : FE} {i : Int} (h : fa ρ = ret (di i)) : fNeg fa ρ = ret (di (-i)) := by
  unfold fNeg
  rw [h, bnd_ret]
theorem fPart_eq {fa : FE} {i : Int} (h : fa ρ = ret (di i)) : fPart fa ρ = ret (some i) := by
  unfold fPart
  rw [h, bnd_ret]
theorem wts_rev : ∀ {xs : List D}, wts xs.reverse = wts xs
  | [] => rfl
  | x :: xs => by
    rw [List.reverse_cons, wts_append, wts_rev]
    show wts xs + (wt x + 0) = wt x + wts xs
    omega
/-- any cut of a tuple -/
theorem slT_any {fa : FE} {fl fh : En → M (Option Int)} {xs : List D} {lo hi : Option Int} (h1 : fa ρ = ret (.tup xs)) (h2 : fl ρ = ret lo) (h3 : fh ρ = ret hi) (hl : xs.length ≤ 16777216) : ∃ ys, fSl fa fl fh ρ = ret (.tup ys) ∧ (∀ y ∈ ys, y ∈ xs) ∧ wts ys ≤ wts xs ∧ ys.length ≤ xs.length := by
  refine ⟨(xs.drop (HT.sIx xs.length 0 lo)).take (HT.sIx xs.length xs.length hi - HT.sIx xs.length 0 lo), ?_, fun y hy => List.mem_of_mem_drop (List.mem_of_mem_take hy), Nat.le_trans wts_take wts_drop, by rw [List.length_take, List.length_drop]; omega⟩
  unfold fSl
  rw [h1, bnd_ret, h2, bnd_ret, h3, bnd_ret]
  refine lif_eq fun μ => ?_
  unfold slB
  dsimp only
  rw [if_pos hl]
theorem slS_any {fa : FE} {fl fh : En → M (Option Int)} {z : Str} {lo hi : Option Int} (h1 : fa ρ = ret (.v (.str z))) (h2 : fl ρ = ret lo) (h3 : fh ρ = ret hi) : ∃ y, fSl fa fl fh ρ = ret (.v (.str y)) ∧ (∀ c ∈ y.cps.toList, c ∈ z.cps.toList) ∧ y.length ≤ z.length := by
  refine ⟨L2.cutS z lo hi, ?_, fun c hc => ?_, L2.cutS_length z lo hi⟩
  · unfold fSl
    rw [h1, bnd_ret, h2, bnd_ret, h3, bnd_ret]
    exact lif_eq fun μ => rfl
  · unfold L2.cutS at hc
    exact List.mem_of_mem_drop (List.mem_of_mem_take hc)
end
mutual
/-- how many parts the widest tuple or list within has -/
def wd : D → Nat
  | .tup xs => max xs.length (wds xs)
  | .lst xs => max xs.length (wds xs)
  | _ => 0
def wds : List D → Nat
  | [] => 0
  | d :: ds => max (wd d) (wds ds)
end
theorem wds_le {k : Nat} : ∀ {ds : List D}, wds ds ≤ k ↔ ∀ d ∈ ds, wd d ≤ k
  | [] => by
    rw [wds]
    simp
  | d :: ds => by
    rw [wds, Nat.max_le, wds_le (ds := ds)]
    simp
theorem wd_t {xs : List D} {k : Nat} : wd (.tup xs) ≤ k ↔ xs.length ≤ k ∧ ∀ d ∈ xs, wd d ≤ k := by rw [wd, Nat.max_le, wds_le]
theorem wd_l {xs : List D} {k : Nat} : wd (.lst xs) ≤ k ↔ xs.length ≤ k ∧ ∀ d ∈ xs, wd d ≤ k := by rw [wd, Nat.max_le, wds_le]
theorem wd_v {x : V} : wd (.v x) = 0 := by rw [wd] <;> intro _ h <;> cases h
theorem at_wd {k : Nat} : ∀ {d x : D} {p : List Nat}, atP d p = some x → wd d ≤ k → wd x ≤ k
  | d, x, [], h, w => by
    unfold atP at h
    cases h
    exact w
  | .tup xs, x, i :: p, h, w => by
    unfold atP at h
    cases hx : xs[i]? with
    | none => rw [hx] at h; cases h
    | some u =>
      rw [hx] at h
      exact at_wd (p := p) h ((wd_t.mp w).2 u (List.mem_of_getElem? hx))
  | .v _, x, i :: p, h, _ => by unfold atP at h; cases h
  | .lst _, x, i :: p, h, _ => by unfold atP at h; cases h
  | .r _, x, i :: p, h, _ => by unfold atP at h; cases h
  | .exn _, x, i :: p, h, _ => by unfold atP at h; cases h
  | .lam _, x, i :: p, h, _ => by unfold atP at h; cases h
theorem put_wd {k : Nat} : ∀ {d : D} {p : List Nat} {y : D}, wd d ≤ k → wd y ≤ k → wd (putP d p y) ≤ k
  | d, [], y, _, hy => by
    rw [putP]
    exact hy
  | .tup xs, i :: p, y, hd, hy => by
    rw [putP]
    cases hx : xs[i]? with
    | none => exact hy
    | some x =>
      dsimp only
      obtain ⟨h1, h2⟩ := wd_t.mp hd
      have hi : i < xs.length := by
        obtain ⟨z, _⟩ := List.getElem?_eq_some_iff.mp hx
        exact z
      have ih := put_wd (p := p) (h2 x (List.mem_of_getElem? hx)) hy
      refine wd_t.mpr ⟨by simp only [List.length_append, List.length_take, List.length_drop, List.length_singleton]; omega, fun z hz => ?_⟩
      rcases List.mem_append.mp hz with hz | hz
      · rcases List.mem_append.mp hz with hz | hz
        · exact h2 z (List.mem_of_mem_take hz)
        · rw [List.mem_singleton] at hz
          rw [hz]
          exact ih
      · exact h2 z (List.mem_of_mem_drop hz)
  | .v _, i :: p, y, _, hy => by unfold putP; exact hy
  | .lst _, i :: p, y, _, hy => by unfold putP; exact hy
  | .r _, i :: p, y, _, hy => by unfold putP; exact hy
  | .exn _, i :: p, y, _, hy => by unfold putP; exact hy
  | .lam _, i :: p, y, _, hy => by unfold putP; exact hy
abbrev good (y : D) : Prop := plD y = true ∧ wt y ≤ 900 ∧ wd y ≤ 60
theorem v_good {x : V} (h : plD (.v x) = true) : good (.v x) := ⟨h, by show 1 ≤ 900; decide, by rw [wd_v]; omega⟩
theorem str_good {z : Str} (h : ∀ x ∈ z.cps.toList, x < 128) (hl : z.length ≤ 4000) : good (.v (.str z)) := v_good (strs_pl h hl)
theorem strOf_small : ∀ k : Nat, k < 501 → (match dStrOf [di (k : Nat)] [] with | some (.v (.str z)) => decide (z.length ≤ 4000) && z.cps.all (· < 128) | _ => false) = true := by decide +kernel
theorem strOf_ok {i : Int} (h0 : 0 ≤ i) (h1 : i ≤ 500) : ∃ z, lif (dStrOf [di i]) = ret (.v (.str z)) ∧ good (.v (.str z)) := by
  obtain ⟨k, rfl⟩ := Int.eq_ofNat_of_zero_le h0
  have h := strOf_small k (by omega)
  have e : ∀ μ, dStrOf [di (k : Nat)] μ = dStrOf [di (k : Nat)] [] := fun μ => rfl
  split at h
  · rename_i z hz
    rw [Bool.and_eq_true, decide_eq_true_eq] at h
    refine ⟨z, lif_eq fun μ => (e μ).trans hz, v_good ?_⟩
    unfold plD plV
    simp only [Bool.and_eq_true, decide_eq_true_eq]
    exact h
  · cases h
theorem asc_mem {z : Str} (h : z.cps.all (· < 128) = true) : ∀ x ∈ z.cps.toList, x < 128 := fun x hx => by
  rw [Array.all_eq_true] at h
  obtain ⟨i, hi, e⟩ := List.getElem_of_mem hx
  have z2 := h i (by simpa using hi)
  simp only [decide_eq_true_eq] at z2
  rw [← e]
  simpa using z2
theorem up_lt {c : Nat} (h : c < 128) : up1 c < 128 := by
  unfold up1
  split <;> omega
def bentInt : FE := fLst [Tr.f2 dAdd (fVar 4) (fC (.v (.int 1))), Tr.f2 (dInt iSub) (fVar 4) (fC (.v (.int 1))), fB dStrOf [fVar 4], fC (.v .non), Tr.f2 (dInt iSub) (fC (.v (.int 0))) (fVar 4), fC (.v (.bl true))]
def bentStr : FE := Tr.f2 dAdd (fVar 5) (fLst [Tr.f2 dAdd (fVar 4) (fC (.v (.str "a"))), fSl (fVar 4) (fPart (fC (.v (.int 1)))) (fNoP), fMs sUpper (fVar 4) [], fC (.v (.str "fun")), fC (.v (.str "x")), fC (.v (.str "call"))])
def bentTup : FE := Tr.f2 dAdd (fVar 5) (Tr.f2 dMul (fLst [fSl (fVar 4) (fPart (fC (.v (.int 1)))) (fNoP), fSl (fVar 4) (fNoP) (fPart (fNeg (fC (.v (.int 1))))), fRev (fVar 4), Tr.f2 dAdd (fVar 4) (fSl (fVar 4) (fPart (fNeg (fC (.v (.int 1))))) (fNoP)), fB dList [fVar 4], Tr.f2 dAdd (fVar 4) (fTup [fC (.v .non)])]) (fC (.v (.int 2))))
def bentIf : FS := fIfS (tst (fB dIsI [fVar 4, fC (.v (.ty "int"))])) (fSet 5 bentInt) (fIfS (tst (fB dIsI [fVar 4, fC (.v (.ty "str"))])) (fSet 5 bentStr) (fIfS (tAndF (tst (fB dIsI [fVar 4, fC (.v (.ty "tuple"))])) (tst (Tr.f2 dNe (fVar 4) (fTup [])))) (fSet 5 bentTup) fNx))
section
variable {ρ : En}
theorem int_good {i : Int} : good (di i) := v_good rfl
theorem bentInt_ok {i : Int} (h0 : 0 ≤ i) (h1 : i ≤ 500) (h4 : ρ[4]? = some (some (di i))) : ∃ ys, bentInt ρ = ret (.lst ys) ∧ (∀ y ∈ ys, good y) ∧ 0 < ys.length ∧ ys.length ≤ 40 := by
  obtain ⟨z, hz, hg⟩ := strOf_ok h0 h1
  have hv : fVar 4 ρ = ret (di i) := fVar_eq h4
  refine ⟨[di (i + 1), di (i - 1), .v (.str z), .v .non, di (0 - i), .v (.bl true)], ?_, ?_, Nat.le_of_ble_eq_true rfl, Nat.le_of_ble_eq_true rfl⟩
  · unfold bentInt
    exact fLst_eq (fAll_eq (f2_eq hv rfl lif_add) (fAll_eq (f2_eq hv rfl lif_sub) (fAll_eq (fB1_eq hv hz) (fAll_eq rfl (fAll_eq (f2_eq rfl hv lif_sub) (fAll_eq rfl fAll_nil))))))
  · intro y hy
    simp only [List.mem_cons, List.not_mem_nil, or_false] at hy
    rcases hy with rfl | rfl | rfl | rfl | rfl | rfl
    · exact int_good
    · exact int_good
    · exact hg
    · exact v_good rfl
    · exact int_good
    · exact v_good rfl
theorem app_cps (a b : Str) : (a ++ b).cps.toList = a.cps.toList ++ b.cps.toList := by
  show (a.cps ++ b.cps).toList = _
  simp
theorem app_len (a b : Str) : (a ++ b).length = a.length + b.length := by
  show (a.cps ++ b.cps).size = a.cps.size + b.cps.size
  simp
theorem bentStr_ok {z : Str} {ys0 : List D} (hl : z.length ≤ 100) (ha : z.cps.all (· < 128) = true) (h4 : ρ[4]? = some (some (.v (.str z)))) (h5 : ρ[5]? = some (some (.lst ys0))) (h0 : ∀ y ∈ ys0, good y) (hn : ys0.length = 11) :
    ∃ ys, bentStr ρ = ret (.lst ys) ∧ (∀ y ∈ ys, good y) ∧ 0 < ys.length ∧ ys.length ≤ 40 := by
  have hv : fVar 4 ρ = ret (.v (.str z)) := fVar_eq h4
  have hA := asc_mem ha
  obtain ⟨y1, e1, m1, l1⟩ := slS_any (fl := fPart (fC (.v (.int 1)))) (fh := fNoP) (lo := some 1) (hi := none) hv rfl rfl
  have eu : fMs sUpper (fVar 4) [] ρ = ret (.v (.str (Txt.upper z))) := by
    unfold fMs
    rw [hv, bnd_ret]
    dsimp only
    rw [fAll_nil, bnd_ret]
    refine lif_eq fun μ => ?_
    unfold sUpper
    dsimp only
    rw [if_pos ⟨by omega, by rw [upper_ascii hA]; show (z.cps.map up1).size ≤ _; rw [Array.size_map]; show z.length ≤ _; omega⟩]
  have ea : lif (dAdd (.v (.str z)) (.v (.str "a"))) = ret (.v (.str (z ++ "a"))) := lif_eq fun μ => by
    unfold dAdd
    dsimp only
    rw [if_pos (by show z.length + 1 ≤ _; omega)]
  refine ⟨ys0 ++ [.v (.str (z ++ "a")), .v (.str y1), .v (.str (Txt.upper z)), .v (.str "fun"), .v (.str "x"), .v (.str "call")], ?_, ?_, by simp, by rw [List.length_append, hn]; exact Nat.le_of_ble_eq_true rfl⟩
  · unfold bentStr
    exact f2_eq (fVar_eq h5) (fLst_eq (fAll_eq (f2_eq hv rfl ea) (fAll_eq e1 (fAll_eq eu (fAll_eq rfl (fAll_eq rfl (fAll_eq rfl fAll_nil))))))) (lif_addL (by rw [hn]; exact Nat.le_of_ble_eq_true rfl))
  · intro y hy
    rcases List.mem_append.mp hy with hy | hy
    · exact h0 y hy
    · simp only [List.mem_cons, List.not_mem_nil, or_false] at hy
      rcases hy with rfl | rfl | rfl | rfl | rfl | rfl
      · refine str_good (fun x hx => ?_) (by rw [app_len]; show z.length + 1 ≤ _; omega)
        rw [app_cps] at hx
        rcases List.mem_append.mp hx with hx | hx
        · exact hA x hx
        · exact (by decide : ∀ x ∈ (("a" : Str)).cps.toList, x < 128) x hx
      · exact str_good (fun x hx => hA x (m1 x hx)) (by omega)
      · refine str_good (fun x hx => ?_) (by rw [upper_ascii hA]; show (z.cps.map up1).size ≤ _; rw [Array.size_map]; show z.length ≤ _; omega)
        rw [upper_ascii hA] at hx
        have hx : x ∈ (z.cps.map up1).toList := hx
        rw [Array.toList_map] at hx
        obtain ⟨c, hc, rfl⟩ := List.mem_map.mp hx
        exact up_lt (hA c hc)
      · exact str_good (by decide) (by decide)
      · exact str_good (by decide) (by decide)
      · exact str_good (by decide) (by decide)
theorem wtl {xs : List D} : wt (.lst xs) = wts xs + 1 := rfl
theorem bentTup_ok {xs ys0 : List D} (hp : plD (.tup xs) = true) (hw : wt (.tup xs) ≤ 400) (hwd : wd (.tup xs) ≤ 30) (h4 : ρ[4]? = some (some (.tup xs))) (h5 : ρ[5]? = some (some (.lst ys0))) (h0 : ∀ y ∈ ys0, good y) (hn : ys0.length = 11) :
    ∃ ys, bentTup ρ = ret (.lst ys) ∧ (∀ y ∈ ys, good y) ∧ 0 < ys.length ∧ ys.length ≤ 40 := by
  have hv : fVar 4 ρ = ret (.tup xs) := fVar_eq h4
  have hxs := pl_tup hp
  have hwx : wts xs + 1 ≤ 400 := hw
  obtain ⟨wl, we⟩ := wd_t.mp hwd
  have we : ∀ d ∈ xs, wd d ≤ 60 := fun d hd => Nat.le_trans (we d hd) (by decide)
  have hlen := wts_len xs
  have hneg : fPart (fNeg (fC (.v (.int 1)))) ρ = ret (some (-1)) := fPart_eq (fNeg_eq (i := 1) rfl)
  obtain ⟨y1, e1, m1, l1, n1⟩ := slT_any (fl := fPart (fC (.v (.int 1)))) (fh := fNoP) (lo := some 1) (hi := none) hv rfl rfl (by omega)
  obtain ⟨y2, e2, m2, l2, n2⟩ := slT_any (fl := fNoP) (fh := fPart (fNeg (fC (.v (.int 1))))) (lo := none) (hi := some (-1)) hv rfl hneg (by omega)
  obtain ⟨y3, e3, m3, l3, n3⟩ := slT_any (fl := fPart (fNeg (fC (.v (.int 1))))) (fh := fNoP) (lo := some (-1)) (hi := none) hv hneg rfl (by omega)
  have len3 := wts_len y3
  have er : fRev (fVar 4) ρ = ret (.tup xs.reverse) := by
    unfold fRev
    rw [hv, bnd_ret]
    refine lif_eq fun μ => ?_
    dsimp only
    rw [if_pos (by omega)]
  have el : lif (dList [.tup xs]) = ret (.lst xs) := lif_eq fun μ => rfl
  have hadd := fLst_eq (fAll_eq e1 (fAll_eq e2 (fAll_eq er (fAll_eq (f2_eq hv e3 (lif_addT (by omega))) (fAll_eq (fB1_eq hv el) (fAll_eq (f2_eq hv (fTup_eq (fAll_eq (f := fC (.v .non)) (a := .v .non) rfl fAll_nil)) (lif_addT (by rw [List.length_singleton]; omega))) fAll_nil))))))
  have em : ∀ l : List D, l.length = 6 → lif (dMul (.lst l) (.v (.int 2))) = ret (.lst (l ++ l)) := fun l h => lif_eq fun μ => by
    unfold dMul
    dsimp only
    rw [if_pos ⟨by decide, by decide, by omega⟩]
    unfold repD
    rw [show (2 : Int).toNat = 2 from rfl]
    simp [List.replicate_succ]
  have all6 : ∀ y ∈ [D.tup y1, .tup y2, .tup xs.reverse, .tup (xs ++ y3), .lst xs, .tup (xs ++ [.v .non])], good y := by
    intro y hy
    simp only [List.mem_cons, List.not_mem_nil, or_false] at hy
    rcases hy with rfl | rfl | rfl | rfl | rfl | rfl
    · exact ⟨plDs_iff.mpr fun d hd => hxs d (m1 d hd), by rw [wt_tup]; omega, wd_t.mpr ⟨by omega, fun d hd => we d (m1 d hd)⟩⟩
    · exact ⟨plDs_iff.mpr fun d hd => hxs d (m2 d hd), by rw [wt_tup]; omega, wd_t.mpr ⟨by omega, fun d hd => we d (m2 d hd)⟩⟩
    · exact ⟨plDs_iff.mpr fun d hd => hxs d (List.mem_reverse.mp hd), by rw [wt_tup, wts_rev]; omega, wd_t.mpr ⟨by rw [List.length_reverse]; omega, fun d hd => we d (List.mem_reverse.mp hd)⟩⟩
    · refine ⟨plDs_iff.mpr fun d hd => ?_, by rw [wt_tup, wts_append]; omega, wd_t.mpr ⟨by rw [List.length_append]; omega, fun d hd => (List.mem_append.mp hd).elim (we d) fun z => we d (m3 d z)⟩⟩
      rcases List.mem_append.mp hd with hd | hd
      · exact hxs d hd
      · exact hxs d (m3 d hd)
    · exact ⟨plDs_iff.mpr hxs, by rw [wtl]; omega, wd_l.mpr ⟨by omega, we⟩⟩
    · refine ⟨plDs_iff.mpr fun d hd => ?_, by rw [wt_tup, wts_append]; show wts xs + 1 + 1 ≤ 900; omega, wd_t.mpr ⟨by rw [List.length_append, List.length_singleton]; omega, fun d hd => (List.mem_append.mp hd).elim (we d) fun z => by rw [List.mem_singleton.mp z, wd_v]; omega⟩⟩
      rcases List.mem_append.mp hd with hd | hd
      · exact hxs d hd
      · rw [List.mem_singleton] at hd
        rw [hd]
        rfl
  refine ⟨ys0 ++ ([D.tup y1, .tup y2, .tup xs.reverse, .tup (xs ++ y3), .lst xs, .tup (xs ++ [.v .non])] ++ [D.tup y1, .tup y2, .tup xs.reverse, .tup (xs ++ y3), .lst xs, .tup (xs ++ [.v .non])]), ?_, ?_, ?_, ?_⟩
  · unfold bentTup
    exact f2_eq (fVar_eq h5) (f2_eq hadd rfl (em _ rfl)) (lif_addL (by rw [hn]; exact Nat.le_of_ble_eq_true rfl))
  · intro y hy
    rcases List.mem_append.mp hy with hy | hy
    · exact h0 y hy
    · rcases List.mem_append.mp hy with hy | hy
      · exact all6 y hy
      · exact all6 y hy
  · rw [List.length_append, hn]; omega
  · rw [List.length_append, hn]; exact Nat.le_of_ble_eq_true rfl
end
theorem lf_int {i : Int} (h0 : 0 ≤ i) (h1 : i ≤ 500) : lfD (di i) = true := by
  unfold lfD lfV
  simp [h0, h1]
theorem lf_str {z : Str} (h : ∀ x ∈ z.cps.toList, x < 128) (hl : z.length ≤ 100) : lfD (.v (.str z)) = true := by
  unfold lfD lfV
  dsimp only
  rw [asc_of h]
  simp [hl]
theorem dps_le {k : Nat} : ∀ {ds : List D}, (∀ d ∈ ds, dp d ≤ k) → dps ds ≤ k
  | [], _ => by unfold dps; omega
  | d :: ds, h => by
    have h1 := h d List.mem_cons_self
    have h2 := dps_le (ds := ds) fun x hx => h x (List.mem_cons_of_mem _ hx)
    unfold dps
    omega
theorem dp_t {ds : List D} : dp (.tup ds) = dps ds + 1 := by rw [dp]
theorem lf_t {ds : List D} (h : ∀ d ∈ ds, lfD d = true) : lfD (.tup ds) = true := by
  unfold lfD
  exact lfDs_iff.mpr h
theorem bentIf_ok {x : D} {ys0 : List D} {a b c d : Option D} (hl : lfD x = true) (hd : dp x ≤ 60) (hw : wt x ≤ 400) (hwd : wd x ≤ 30) (h0 : ∀ y ∈ ys0, good y) (hn : ys0.length = 11) :
    ∃ ys, bentIf [a, b, c, d, some x, some (.lst ys0)] = ret (.nx [a, b, c, d, some x, some (.lst ys)]) ∧ (∀ y ∈ ys, good y) ∧ 0 < ys.length ∧ ys.length ≤ 40 := by
  have hp := lf_pl hl
  have hv : fVar 4 [a, b, c, d, some x, some (.lst ys0)] = ret x := fVar_eq rfl
  have ei := fun (s : String) (hs : s ∈ isTys) => tst_eq (fB2_eq (fb := fC (.v (.ty s))) hv rfl (isI_pl hp hs))
  cases x with
  | v x =>
    cases x with
    | int i =>
      unfold lfD lfV at hl
      simp only [Bool.and_eq_true, decide_eq_true_eq] at hl
      obtain ⟨ys, e, g⟩ := bentInt_ok (ρ := [a, b, c, d, some (di i), some (.lst ys0)]) hl.1 hl.2 rfl
      refine ⟨ys, ?_, g⟩
      unfold bentIf
      rw [ifS_eq (ei "int" (by decide)), if_pos (by simp [kd])]
      exact set_eq e
    | str z =>
      unfold lfD lfV at hl
      simp only [Bool.and_eq_true, decide_eq_true_eq] at hl
      obtain ⟨ys, e, g⟩ := bentStr_ok (ρ := [a, b, c, d, some (.v (.str z)), some (.lst ys0)]) hl.1 hl.2 rfl rfl h0 hn
      refine ⟨ys, ?_, g⟩
      unfold bentIf
      rw [ifS_eq (ei "int" (by decide)), if_neg (by simp [kd]), ifS_eq (ei "str" (by decide)), if_pos (by simp [kd])]
      exact set_eq e
    | _ => cases hl
  | tup xs =>
    unfold bentIf
    have hps : plDs xs = true := hp
    rw [dp_t] at hd
    rw [ifS_eq (ei "int" (by decide)), if_neg (by simp [kd]), ifS_eq (ei "str" (by decide)), if_neg (by simp [kd])]
    have et : tAndF (tst (fB dIsI [fVar 4, fC (.v (.ty "tuple"))])) (tst (Tr.f2 dNe (fVar 4) (fTup []))) [a, b, c, d, some (.tup xs), some (.lst ys0)] = ret (!xs.isEmpty) := by
      rw [tAnd_eq (ei "tuple" (by decide)), if_pos (by simp [kd])]
      exact tst_eq (f2_eq hv (fTup_eq fAll_nil) (neT_nil hps (by omega)))
    rw [ifS_eq et]
    cases xs with
    | nil =>
      rw [if_neg (by decide)]
      exact ⟨ys0, rfl, h0, by omega, by omega⟩
    | cons x xs =>
      rw [if_pos (show (!(x :: xs).isEmpty) = true from rfl)]
      obtain ⟨ys, e, g⟩ := bentTup_ok (ρ := [a, b, c, d, some (.tup (x :: xs)), some (.lst ys0)]) hp hw hwd rfl rfl h0 hn
      exact ⟨ys, set_eq e, g⟩
  | _ => cases hl
theorem at_dp : ∀ {d x : D} {p : List Nat}, atP d p = some x → dp x ≤ dp d
  | d, x, [], h => by
    unfold atP at h
    cases h
    exact Nat.le_refl _
  | .tup xs, x, i :: p, h => by
    unfold atP at h
    cases hx : xs[i]? with
    | none => rw [hx] at h; cases h
    | some w =>
      rw [hx] at h
      have h1 := at_dp (p := p) h
      have h2 := dps_mem (List.mem_of_getElem? hx)
      rw [dp_t]
      omega
  | .v _, x, i :: p, h => by unfold atP at h; cases h
  | .lst _, x, i :: p, h => by unfold atP at h; cases h
  | .r _, x, i :: p, h => by unfold atP at h; cases h
  | .exn _, x, i :: p, h => by unfold atP at h; cases h
  | .lam _, x, i :: p, h => by unfold atP at h; cases h
section
variable {q : Str} {c : List Int} {n m l : Nat} {pre tail P : Mu} {ρ : En}
theorem Dw.allE {f : FE} {fs : List FE} {a : D} {R : List D → Mu → Prop} (h1 : f ρ = Tr.ret a) (h : Dw q c n tail (fAll fs ρ) fun ds tl => R (a :: ds) tl) : Dw q c n tail (fAll (f :: fs) ρ) R := by
  rw [fAll_cons, h1, bnd_ret]
  exact Dw.mono (n := n + 0) (Dw.bnd (Dw.mono h (Nat.le_refl _) fun ds tl z => Dw.ret z)) (Nat.le_refl _) fun _ _ z => z
theorem Dw.allD {f : FE} {fs : List FE} {R : List D → Mu → Prop} (h : Dw q c n tail (f ρ) fun a tl => Dw q c m tl (fAll fs ρ) fun ds tl' => R (a :: ds) tl') : Dw q c (n + m) tail (fAll (f :: fs) ρ) R := by
  rw [fAll_cons]
  refine Dw.bnd (Dw.mono h (Nat.le_refl _) fun a tl z => ?_)
  exact Dw.mono (n := m + 0) (Dw.bnd (Dw.mono z (Nat.le_refl _) fun ds tl z => Dw.ret z)) (Nat.le_refl _) fun _ _ z => z
theorem Dw.allN {R : List D → Mu → Prop} (h : R [] tail) : Dw q c n tail (fAll [] ρ) R := Dw.ret h
theorem Dw.lst {fs : List FE} {R : D → Mu → Prop} (h : Dw q c n tail (fAll fs ρ) fun ds tl => R (.lst ds) tl) : Dw q c n tail (fLst fs ρ) R := by
  unfold fLst
  exact Dw.mono (n := n + 0) (Dw.bnd (Dw.mono h (Nat.le_refl _) fun ds tl z => Dw.ret z)) (Nat.le_refl _) fun _ _ z => z
theorem Dw.callA {F : List D → M D} {fs : List FE} {R : D → Mu → Prop} (h : Dw q c n tail (fAll fs ρ) fun ds tl => Dw q c m tl (F ds) R) : Dw q c (n + m) tail (fCall F fs ρ) R := by
  unfold fCall
  exact Dw.bnd (Dw.mono h (Nat.le_refl _) fun ds tl z => z)
theorem slL_from {fa : FE} {fh : FE} {xs : List D} {k : Nat} (h1 : fa ρ = Tr.ret (.lst xs)) (h2 : fh ρ = Tr.ret (di k)) : fSl fa (fPart fh) fNoP ρ = Tr.ret (.lst (xs.drop k)) := by
  unfold fSl fNoP fPart
  rw [h1, bnd_ret, h2, bnd_ret]
  dsimp only
  rw [bnd_ret, bnd_ret]
  refine lif_eq fun μ => ?_
  unfold slB
  dsimp only
  rw [HT.sIx_none, HT.sIx_nat]
  have e : (xs.drop (min k xs.length)).take (xs.length - min k xs.length) = xs.drop k := by
    rw [List.take_of_length_le (by rw [List.length_drop]; omega)]
    by_cases hk : k ≤ xs.length
    · rw [Nat.min_eq_left hk]
    · rw [Nat.min_eq_right (by omega), List.drop_eq_nil_of_le (Nat.le_refl _), List.drop_eq_nil_of_le (by omega)]
  rw [e]
theorem fCall_eq {F : List D → M D} {fs : List FE} {ds : List D} {d : D} (h : fAll fs ρ = Tr.ret ds) (h2 : F ds = Tr.ret d) : fCall F fs ρ = Tr.ret d := by
  unfold fCall
  rw [h, bnd_ret, h2]
end
abbrev dt (l : List Nat) : D := .v (.str (tx l))
section
variable {q : Str} {c : List Int} {n m l : Nat} {pre tail P : Mu} {ρ : En}
/-- a def's own list, handed out -/
theorem Dw.closeL {F : List D → M D} {ds : List D} {R : D → Mu → Prop} (hl : lowT pre = true) (h : Dw q c n pre (F ds) fun d tl => ∃ xs cs, d = .r (pre.length + 3) ∧ tl = pre ++ .lst xs :: cs ∧ plDs xs = true ∧ R (.lst xs) pre) : Dw q c n pre (closeF F ds) R := fun g r t h0 h1 => by
  obtain ⟨d, g', r', t', tl, e, p1, p2, xs, cs, rfl, rfl, hp, hR⟩ := h g r t h0 h1
  refine ⟨.lst xs, g', r', t', pre, close_SM e rfl hl ?_, p1, p2, hR⟩
  unfold frzD
  rw [if_neg (Nat.lt_irrefl _), SM_get, get_mid]
  dsimp only
  rw [if_pos (lows_pl hp)]
theorem chars_tx {z : Str} : chars z = z.cps.toList.map fun c => dt [c] := rfl
theorem dt_pl {l : List Nat} (h : ∀ x ∈ l, x < 128) (hl : l.length ≤ 4000) : plD (dt l) = true := strs_pl (z := tx l) (by rw [tx_cps]; exact h) (by rw [tx_len]; exact hl)
theorem Dw.ms {f : OpS} {z : Str} {fo fa : FE} {R : D → Mu → Prop} (h1 : fo ρ = Tr.ret (.v (.str z))) (h : Dw q c n tail (fa ρ) fun a tl => ∃ d, lif (f z [a]) = Tr.ret d ∧ R d tl) : Dw q c n tail (fMs f fo [fa] ρ) R := by
  unfold fMs
  rw [h1, bnd_ret]
  dsimp only
  rw [fAll_cons, bnd_assoc]
  refine Dw.mono (n := n + 0) (Dw.bnd (Dw.mono h (Nat.le_refl _) fun a tl ⟨d, e, z⟩ => ?_)) (Nat.le_refl _) fun _ _ z => z
  rw [fAll_nil, bnd_ret, bnd_ret]
  exact Dw.eq e z
end
section
variable {ρ ρ' : En} {μ μ' : Mu}
theorem noex_at {α : Type} {f : M α} {a : α} {m : Mu} (h : f μ = some (.ok a m)) : Tr.noex f μ = some (.ok a m) := by
  unfold Tr.noex
  rw [h]
theorem lcGo_at {i : Nat} {fe : FE} {g : D → D} : ∀ {ds : List D}, (∀ d ∈ ds, fe (ρ.set i (some d)) μ = some (.ok (g d) μ)) → lcGo (gN i) tYesF fe ρ ds μ = some (.ok (ds.map g) μ)
  | [], _ => rfl
  | d :: ds, h => by
    unfold lcGo
    rw [lif_gN, bnd_ret]
    have e : Tr.noex (tYesF (ρ.set i (some d))) = Tr.ret true := rfl
    rw [e, bnd_ret, if_pos rfl, bnd_at (noex_at (h d List.mem_cons_self)), bnd_at (lcGo_at fun x hx => h x (List.mem_cons_of_mem _ hx))]
    rfl
theorem rt_at {fa : FE} {d : D} (h : fa ρ μ = some (.ok d μ')) : fRet fa ρ μ = some (.ok (.rt d) μ') := by
  unfold fRet
  rw [bnd_at h]
  rfl
theorem seq_at {f1 f2 : FS} (h : f1 ρ μ = some (.ok (.nx ρ') μ')) : fSeq f1 f2 ρ μ = f2 ρ' μ' := by
  unfold fSeq
  rw [bnd_at h]
theorem set_at {i : Nat} {fa : FE} {d : D} (h : fa ρ μ = some (.ok d μ')) : fSet i fa ρ μ = some (.ok (.nx (ρ.set i (some d))) μ') := by
  unfold fSet fAsg
  rw [bnd_at h, lif_gN, bnd_ret]
  rfl
theorem asg_at {fa : FE} {gt : FG} {d : D} (h : fa ρ μ = some (.ok d μ')) (h2 : lif (gt d ρ) = Tr.ret ρ') : fAsg fa gt ρ μ = some (.ok (.nx ρ') μ') := by
  unfold fAsg
  rw [bnd_at h, h2, bnd_ret]
  rfl
theorem tup2_at {f1 f2 : FE} {a b : D} (h1 : f1 ρ = Tr.ret a) (h2 : f2 ρ μ = some (.ok b μ')) : fTup [f1, f2] ρ μ = some (.ok (.tup [a, b]) μ') := by
  unfold fTup
  rw [fAll_cons, h1, bnd_ret, fAll_cons, fAll_nil, bnd_assoc]
  simp only [bnd_assoc]
  rw [bnd_at h2]
  rfl
theorem ret_of {α : Type} {f : M α} {a : α} (h : f = Tr.ret a) : f μ = some (.ok a μ) := by
  rw [h]
  rfl
theorem call_at {F : List D → M D} {fs : List FE} {ds : List D} {r : Option (R D)} (h : fAll fs ρ = Tr.ret ds) (h2 : F ds μ = r) : fCall F fs ρ μ = r := by
  unfold fCall
  rw [h, bnd_ret, h2]
theorem ms_eq {f : OpS} {z : Str} {fo fa : FE} {a d : D} (h1 : fo ρ = Tr.ret (.v (.str z))) (h2 : fa ρ = Tr.ret a) (h : lif (f z [a]) = Tr.ret d) : fMs f fo [fa] ρ = Tr.ret d := by
  unfold fMs
  rw [h1, bnd_ret]
  dsimp only
  rw [fAll_cons, h2, bnd_ret, fAll_nil, bnd_ret, bnd_ret, h]
theorem ms_at {f : OpS} {z : Str} {fo fa : FE} {a d : D} (h1 : fo ρ = Tr.ret (.v (.str z))) (h2 : fa ρ μ = some (.ok a μ')) (h : f z [a] μ' = some d) : fMs f fo [fa] ρ μ = some (.ok d μ') := by
  unfold fMs
  rw [h1, bnd_ret]
  dsimp only
  rw [fAll_cons, bnd_assoc, bnd_at h2, fAll_nil, bnd_ret, bnd_ret]
  exact lif_at h
theorem lc_at {fin : List D → M D} {fi : FA} {i : Nat} {fe : FE} {own : List Nat} {ds : List D} {g : D → D} (h1 : fi ρ = Tr.ret ds) (hl : ds.length ≤ 16777216) (h : ∀ d ∈ ds, fe ((wipeE ρ own).set i (some d)) μ = some (.ok (g d) μ)) : fLcG fin fi (gN i) tYesF fe own ρ μ = fin (ds.map g) μ := by
  unfold fLcG
  rw [h1, bnd_ret, if_pos hl, bnd_at (lcGo_at h)]
/-- a thing that shows these texts -/
def Vw (T : D) (ts : List (List Nat)) (μ : Mu) : Prop := ∀ i t, ts[i]? = some t → dIx T (di (i : Nat)) μ = some (dt t)
theorem vw_lst {ts : List (List Nat)} : Vw (.lst (ts.map dt)) ts μ := fun i t h => by
  unfold dIx
  show L2.atI (ts.map dt) i = some (dt t)
  have hl := (List.getElem?_eq_some_iff.mp h).1
  unfold L2.atI L2.ixN
  rw [List.length_map, if_pos (by omega), if_pos (by omega)]
  simp [h]
def pieceT (ts : List (List Nat)) : D → List Nat
  | .v (.str s) => s.cps.toList
  | .v (.int i) => ts.getD i.toNat []
  | _ => []
def fillT (ts : List (List Nat)) (ps : List D) : List Nat := (ps.map (pieceT ts)).flatten
def OkB (B : Nat) (ts : List (List Nat)) : Prop := ∀ t ∈ ts, t.length ≤ B ∧ ∀ x ∈ t, x < 128
end
section
variable {ρ ρ' : En} {μ μ' : Mu}
theorem vw_cell {n : Nat} {ts : List (List Nat)} (h : μ[n]? = some (.lst (ts.map dt))) : Vw (.r n) ts μ := fun i t ht => by
  unfold dIx
  have e : view μ (.r n) = .lst (ts.map dt) := by
    unfold view
    dsimp only
    rw [h]
  rw [e]
  show L2.atI (ts.map dt) i = some (dt t)
  have hl := (List.getElem?_eq_some_iff.mp ht).1
  unfold L2.atI L2.ixN
  rw [List.length_map, if_pos (by omega), if_pos (by omega)]
  simp [ht]
end
section
variable {ρ ρ' : En} {μ μ' : Mu}
theorem par_at {i j : Nat} {fa fb : FE} {a b : D} (h1 : fa ρ = Tr.ret a) (h2 : fb ρ μ = some (.ok b μ')) : fPar i j [fa, fb] ρ μ = some (.ok (.nx ((ρ.set i (some a)).set j (some b))) μ') := by
  unfold fPar
  rw [fAll_cons, h1, bnd_ret, fAll_cons, fAll_nil, bnd_assoc]
  simp only [bnd_assoc]
  rw [bnd_at h2]
  rfl
theorem listM_at {fa : FE} {xs : List D} (h : fa ρ = Tr.ret (.tup xs)) : fListM fa ρ μ = some (.ok (.r μ.length) (μ ++ [.lst xs])) := by
  unfold fListM
  rw [h, bnd_ret]
  rfl
theorem for_at {fi : FA} {gt : FG} {fb : FS} {ds : List D} {r : Option (R Out)} (h1 : fi ρ = Tr.ret ds) (h2 : loopS gt fb ds ρ μ = r) : fFor fi gt fb ρ μ = r := by
  rw [fFor_eval h1, h2]
theorem keep_at {F : List D → M D} {ds : List D} {k n : Nat} {cs : List Cell} {xs : List D} (hl : lowAll μ = true) (h : F ds μ = some (.ok (.tup [di k, .r n]) (μ ++ cs))) (hn : μ.length ≤ n) (hc : (μ ++ cs)[n]? = some (.lst xs)) (hp : lowDs μ.length xs = true) : keepF F ds μ = some (.ok (.tup [di k, .r μ.length]) (μ ++ [.lst xs])) := by
  unfold keepF
  rw [h]
  unfold keepR
  dsimp only
  rw [if_pos ⟨low_ext hl, hn, by unfold lowD; rfl⟩, hc]
  dsimp only
  rw [if_pos hp, take_ext]
theorem dts_low {k : Nat} : ∀ {ts : List (List Nat)}, lowDs k (ts.map dt) = true
  | [] => rfl
  | t :: ts => by
    rw [List.map_cons]
    unfold lowDs
    rw [dts_low]
    rfl
theorem dt_chars {w : List Nat} : chars (tx w) = w.map fun x => dt [x] := by
  rw [chars_tx, tx_cps]
end
section
variable {ρ ρ' : En} {μ μ' μ2 : Mu}
theorem fAll_at {f : FE} {fs : List FE} {a : D} {ds : List D} (h : f ρ μ = some (.ok a μ')) (h2 : fAll fs ρ μ' = some (.ok ds μ2)) : fAll (f :: fs) ρ μ = some (.ok (a :: ds) μ2) := by
  rw [fAll_cons, bnd_at h, bnd_at h2]
  rfl
theorem callA_at {F : List D → M D} {fs : List FE} {ds : List D} {r : Option (R D)} (h : fAll fs ρ μ = some (.ok ds μ')) (h2 : F ds μ' = r) : fCall F fs ρ μ = r := by
  unfold fCall
  rw [bnd_at h, h2]
theorem bodyF_ex {F0 : FS} {n N : Nat} {ds : List D} {c : Str} (hn : ds.length = n) (h : F0 (ds.map some ++ List.replicate (N - n) none) μ = some (.ex c μ')) : bodyF F0 n N ds μ = some (.ex c μ') := by
  unfold bodyF
  rw [if_pos hn, h]
theorem seq_ex {f1 f2 : FS} {c : Str} (h : f1 ρ μ = some (.ex c μ')) : fSeq f1 f2 ρ μ = some (.ex c μ') := by
  unfold fSeq
  rw [bnd_ex h]
theorem drop_ex {fa : FE} {c : Str} (h : fa ρ μ = some (.ex c μ')) : fDrop fa ρ μ = some (.ex c μ') := by
  unfold fDrop
  rw [bnd_ex h]
theorem rt_ex {fa : FE} {c : Str} (h : fa ρ μ = some (.ex c μ')) : fRet fa ρ μ = some (.ex c μ') := by
  unfold fRet
  rw [bnd_ex h]
theorem drop_at {fa : FE} {d : D} (h : fa ρ μ = some (.ok d μ')) : fDrop fa ρ μ = some (.ok (.nx ρ) μ') := by
  unfold fDrop
  rw [bnd_at h]
  rfl
theorem tNot_eq {ft : FT} {b : Bool} (h : ft ρ = Tr.ret b) : tNotF ft ρ = Tr.ret (!b) := by
  unfold tNotF
  rw [h, bnd_ret]
theorem tOr_eq {ft fu : FT} {b : Bool} (h : ft ρ = Tr.ret b) : tOrF ft fu ρ = if b = true then Tr.ret true else fu ρ := by
  unfold tOrF
  rw [h, bnd_ret]
theorem letters_in {d : D} {z y : Str} {ws rows : D} {x2 : Option D} (he : d = .tup [.v (.str "boxes"), .v (.str z), ws, rows]) (hl : y.length ≤ 16777216) : fB dAll [fLc (fItm (fVar 1)) (gN 2) (tYesF) (Tr.f2 dIn (fVar 2) (Tr.f2 dIx (fVar 0) (fC (.v (.int 1))))) [2]] [some d, some (.v (.str y)), x2] = Tr.ret (.v (.bl (y.cps.toList.all fun x => decide (x ∈ z.cps.toList)))) := by
  refine fB1_eq (a := .lst (y.cps.toList.map fun x => .v (.bl (decide (x ∈ z.cps.toList))))) (fLc_eval (fItm_str (fVar_eq (i := 1) rfl)) (by rw [chars_len]; exact hl) ?_) lif_all
  rw [chars_tx]
  refine lcGo_mapL fun x hx => ?_
  exact f2_eq (fVar_eq (i := 2) (d := dt [x]) rfl) (f2_eq (fVar_eq (i := 0) rfl) (fb := fC (.v (.int 1))) rfl (by rw [he]; exact lif_ixT1)) lif_inC
/-- whether a thing is a text of these letters -/
def textOf (z : Str) : D → Bool
  | .v (.str y) => lowS y && y.cps.toList.all fun x => decide (x ∈ z.cps.toList)
  | _ => false
end
section
variable {ρ ρ' : En} {μ μ' μ2 : Mu}
abbrev pt (t : List Nat) : PyData := .str (tx t)
theorem toPs_dt : ∀ {ts : List (List Nat)}, toPs (ts.map dt) = some (ts.map pt)
  | [] => rfl
  | t :: ts => by
    rw [List.map_cons]
    unfold toPs
    rw [toPs_dt]
    rfl
theorem toQs_dt {μ : Mu} : ∀ {ts : List (List Nat)}, toQs μ (ts.map dt) = some (ts.map pt)
  | [] => rfl
  | t :: ts => by
    rw [List.map_cons]
    unfold toQs
    rw [toQs_dt]
    rfl
theorem strOk_tx {t : List Nat} (h : ∀ x ∈ t, x < 128) : PyData.strOk (tx t) = true := by
  unfold PyData.strOk
  rw [Array.all_eq_true]
  intro i hi
  have hm : (tx t).cps[i] ∈ t := by
    have := Array.getElem_mem hi
    rw [← Array.mem_toList_iff] at this
    rw [tx_cps] at this
    exact this
  have := h _ hm
  rw [decide_eq_true_eq]
  exact Nat.lt_trans this (by decide)
theorem lay_pts {B : Nat} : ∀ {ts : List (List Nat)}, OkB B ts → PyData.canLayAll0 (ts.map pt) = true ∧ PyData.depthAll (ts.map pt) = 0 ∧ PyData.showableAll (ts.map pt) = true ∧ PyData.leavesShortAll 8 (ts.map pt) = true ∧ PyData.bulkAll (ts.map pt) ≤ ts.length * (B + 1)
  | [], _ => ⟨rfl, rfl, rfl, rfl, Nat.zero_le _⟩
  | t :: ts, h => by
    obtain ⟨h1, h2, h3, h4, h5⟩ := lay_pts (ts := ts) fun x hx => h x (List.mem_cons_of_mem _ hx)
    obtain ⟨a1, a2⟩ := h t List.mem_cons_self
    rw [List.map_cons]
    refine ⟨?_, ?_, ?_, ?_, ?_⟩
    · unfold PyData.canLayAll0
      rw [h1]
      unfold PyData.canLay0
      rw [strOk_tx a2]
      rfl
    · unfold PyData.depthAll
      rw [h2]
      unfold PyData.depth
      rfl
    · unfold PyData.showableAll
      rw [h3]
      unfold PyData.showable
      rfl
    · unfold PyData.leavesShortAll
      rw [h4, Bool.and_true]
      unfold PyData.leavesShort
      rw [List.all_eq_true]
      intro x hx
      rw [tx_cps] at hx
      have := a2 x hx
      rw [decide_eq_true_eq]
      exact Nat.lt_trans this (by decide)
    · unfold PyData.bulkAll
      have e : PyData.bulk (pt t) = t.length := by
        unfold PyData.bulk
        exact tx_len
      rw [e, List.length_cons, Nat.succ_mul]
      omega
theorem shown_text {t : List Nat} (hl : t.length ≤ 32768) (h : ∀ x ∈ t, x < 128) : ∃ s, shownD (pt t) = some (.v (.str s)) := by
  refine ⟨_, if_pos ⟨?_, ?_, ?_⟩⟩
  · unfold SeqAt.shaped PyData.canLay0 PyData.depth
    rw [strOk_tx h]
    rfl
  · unfold PyData.showable
    rfl
  · have := PyData.shown_le_bulk 8 (by decide) (pt t) (by
      unfold PyData.leavesShort
      rw [List.all_eq_true]
      intro x hx
      rw [tx_cps] at hx
      have := h x hx
      rw [decide_eq_true_eq]
      exact Nat.lt_trans this (by decide))
    have e : PyData.bulk (pt t) = t.length := by
      unfold PyData.bulk
      exact tx_len
    rw [e] at this
    omega
theorem int_short : ∀ k : Nat, k < 501 → (PyData.shown (.int (k : Nat))).length ≤ 8 := by decide +kernel
theorem int_log : ∀ k : Nat, k < 501 → ((k : Nat) : Int).natAbs.log2 < 1920 := by decide +kernel
theorem shown_pair {k B : Nat} {ts : List (List Nat)} (hk : k < 501) (hB : ts.length * (B + 1) ≤ 1000000) (h : OkB B ts) : ∃ s, shownD (.tuple [.int (k : Nat), .list (ts.map pt)]) = some (.v (.str s)) := by
  obtain ⟨h1, h2, h3, h4, h5⟩ := lay_pts h
  refine ⟨_, if_pos ⟨?_, ?_, ?_⟩⟩
  · simp only [SeqAt.shaped, PyData.canLay0, PyData.canLayAll0, PyData.depth, PyData.depthAll, h1, h2]
    rfl
  · simp only [PyData.showable, PyData.showableAll, h3, Bool.and_true, decide_eq_true_eq]
    exact int_log k hk
  · have := PyData.shown_le_bulk 8 (by decide) (.tuple [.int (k : Nat), .list (ts.map pt)]) (by
      simp only [PyData.leavesShort, PyData.leavesShortAll, h4, Bool.and_true, decide_eq_true_eq]
      exact int_short k hk)
    simp only [PyData.bulk, PyData.bulkAll] at this
    omega
theorem textOf_dt {z : Str} {w : List Nat} (hz : lowS z = true) (h : ∀ x ∈ w, x ∈ z.cps.toList) : textOf z (dt w) = true := by
  show (lowS (tx w) && (tx w).cps.toList.all fun x => decide (x ∈ z.cps.toList)) = true
  unfold lowS at hz ⊢
  rw [tx_cps, Bool.and_eq_true, List.all_eq_true, List.all_eq_true]
  rw [List.all_eq_true] at hz
  exact ⟨fun x hx => hz x (h x hx), fun x hx => decide_eq_true (h x hx)⟩
end
section
variable {q : Str} {c : List Int} {n m l : Nat} {pre tail P : Mu} {ρ : En}
theorem lif_mulT {x : D} {xs : List D} {k : Int} (h2 : 2 ≤ k) (h3 : k ≤ 1000) (hl : (x :: xs).length ≤ 1000) : lif (dMul (.tup (x :: xs)) (di k)) = Tr.ret (.tup (repD k.toNat (x :: xs))) := lif_eq fun μ => by
  unfold dMul
  dsimp only
  rw [if_pos ⟨by simp, h2, h3, hl⟩]
end
section
variable {ρ ρ' : En} {μ μ' μ2 : Mu}
theorem tst_at {fa : FE} {b : Bool} (h : fa ρ μ = some (.ok (.v (.bl b)) μ')) : tst fa ρ μ = some (.ok b μ') := by
  unfold tst
  rw [bnd_at h]
  rfl
theorem tNot_at {ft : FT} {b : Bool} (h : ft ρ μ = some (.ok b μ')) : tNotF ft ρ μ = some (.ok (!b) μ') := by
  unfold tNotF
  rw [bnd_at h]
  rfl
theorem tOr_at {ft fu : FT} {r : Option (R Bool)} (h : ft ρ μ = some (.ok false μ')) (h2 : fu ρ μ' = r) : tOrF ft fu ρ μ = r := by
  unfold tOrF
  rw [bnd_at h]
  exact h2
theorem ifF_at {ft : FT} {f1 f2 : FS} {r : Option (R Out)} (h : ft ρ μ = some (.ok false μ')) (h2 : f2 ρ μ' = r) : fIfS ft f1 f2 ρ μ = r := by
  unfold fIfS
  rw [bnd_at h]
  exact h2
theorem callK_at {F : List D → M D} {fs kfs : List FE} {ds zs : List D} {perm : List Nat} {r : Option (R D)} (h : fAll fs ρ = Tr.ret ds) (h1 : fAll kfs ρ = Tr.ret zs) (h2 : F (permL perm (ds ++ zs)) μ = r) : fCallK F fs kfs perm ρ μ = r := by
  unfold fCallK
  rw [h, bnd_ret, h1, bnd_ret, h2]
theorem caught_at {n i : Nat} {c : Str} {own : Str → Bool} {fb : Nat → FE} (hv : ρ[i]? = some (some (.lam n))) (h : fb n ρ μ = some (.ex c μ)) (ho : own c = true) : fCaught own fb (fVar i) ρ μ = some (.ok (.exn c) μ) := by
  unfold fCaught
  rw [fVar_eq hv, bnd_ret]
  dsimp only
  rw [h]
  dsimp only
  rw [if_pos ho]
theorem isExn_at {T : Str → Str → Option Bool} {cls c : Str} {b : Bool} {fa : FE} (h : fa ρ μ = some (.ok (.exn c) μ')) (hT : T c cls = some b) : fIsExn T cls fa ρ μ = some (.ok (.v (.bl b)) μ') := by
  unfold fIsExn
  rw [bnd_at h]
  refine lif_at ?_
  dsimp only
  rw [hT]
  rfl
end
section
variable {q : Str} {g c : List Int} {r t : Int} {n m l : Nat} {pre tail tl P : Mu} {ρ : En}
theorem low_of (h : lowT tl = true) : lowAll (SM q g c r t tl) = true := by
  have := low_SM (q := q) (g := g) (c := c) (r := r) (t := t) (cs := []) h
  rw [List.append_nil] at this
  exact this
theorem lowT_dts {ts : List (List Nat)} {ys : List D} (hy : lowDs 0 ys = true) : lowT [.lst (ts.map dt ++ ys)] = true := by
  show (lowDs 0 (ts.map dt ++ ys) && true) = true
  rw [Bool.and_true]
  induction ts with
  | nil => exact hy
  | cons t ts ih =>
    show (lowD 0 (dt t) && lowDs 0 (ts.map dt ++ ys)) = true
    rw [ih]
    rfl
theorem Dw.itm {fa : FE} {R : List D → Mu → Prop} (h : Dw q c n tail (fa ρ) fun d tl => ∃ xs, d = .lst xs ∧ R xs tl) : Dw q c n tail (fItm fa ρ) R := by
  unfold fItm
  refine Dw.mono (n := n + 0) (Dw.bnd (Dw.mono h (Nat.le_refl _) fun d tl ⟨xs, e, z⟩ => ?_)) (Nat.le_refl _) fun _ _ z => z
  subst e
  exact Dw.eq (a := xs) rfl z
theorem Dw.forD {k0 k : Nat} {fi : FA} {gt : FG} {fb : FS} {I : List D → En → Mu → Prop} (hi : Dw q c k0 tail (fi ρ) fun ds tl => n * ds.length ≤ k ∧ I ds ρ tl) (h : ∀ d ds ρ tl, I (d :: ds) ρ tl → Dw q c n tl (Tr.bnd (lif (gt d ρ)) fb) fun o tl' => ∃ ρ', o = .nx ρ' ∧ I ds ρ' tl') :
    Dw q c (k0 + k) tail (fFor fi gt fb ρ) fun o tl => ∃ ρ', o = .nx ρ' ∧ I [] ρ' tl := by
  unfold fFor
  exact Dw.bnd (Dw.mono hi (Nat.le_refl _) fun ds tl ⟨h1, i⟩ => Dw.mono (Dw.loop h i) h1 fun _ _ z => z)
theorem Dw.f2D {f : Op2} {fa fb : FE} {R : D → Mu → Prop} (h : Dw q c n tail (fa ρ) fun a tl => Dw q c m tl (fb ρ) fun b tl' => ∃ d, lif (f a b) = Tr.ret d ∧ R d tl') : Dw q c (n + m) tail (Tr.f2 f fa fb ρ) R := by
  unfold Tr.f2
  refine Dw.bnd (Dw.mono h (Nat.le_refl _) fun a tl z => ?_)
  exact Dw.mono (n := m + 0) (Dw.bnd (Dw.mono z (Nat.le_refl _) fun b tl ⟨d, e, z⟩ => Dw.eq e z)) (Nat.le_refl _) fun _ _ z => z
abbrev okW (z : Str) (w : List Nat) : Prop := w.length ≤ 6 ∧ ∀ x ∈ w, x ∈ z.cps.toList
end
section
variable {q : Str} {c : List Int} {n m l : Nat} {pre tail tl P : Mu} {ρ : En}
theorem lams_at {i j : Nat} {g : List Int} {r t : Int} : fItm (fLst [fLam 0 q i, fLam 0 q j]) ρ (SM q g c r t tl) = some (.ok [.lam i, .lam j] (SM q g c r t tl)) := by
  have e : ∀ k, fLam 0 q k ρ (SM q g c r t tl) = some (.ok (.lam k) (SM q g c r t tl)) := fun k => by
    unfold fLam
    rw [if_pos]
    show decide (q = q) = true
    exact decide_eq_true rfl
  unfold fItm fLst
  rw [bnd_assoc, bnd_at (fAll_at (e i) (fAll_at (e j) (ret_of fAll_nil)))]
  rfl
/-- a loop of tasks -/
theorem tasks_ok {fb : FS} {i j : Nat} {ρ0 : Option D → En} (h0 : ∀ x y : Option D, (ρ0 x).set 10 y = ρ0 y) (h : ∀ k, k = i ∨ k = j → ∀ μ, fb (ρ0 (some (.lam k))) μ = some (.ok (.nx (ρ0 (some (.lam k)))) μ)) {x : Option D} :
    Dw q c 0 tl (fFor (fItm (fLst [fLam 0 q i, fLam 0 q j])) (gN 10) fb (ρ0 x)) fun o tl' => tl' = tl ∧ ∃ y, o = .nx (ρ0 y) := by
  refine Dw.mono (n := 0 + 0) (Dw.forD (k0 := 0) (n := 0) (I := fun ds ρ tl' => tl' = tl ∧ (∀ d ∈ ds, d = .lam i ∨ d = .lam j) ∧ ∃ y, ρ = ρ0 y) (Dw.at (fun g r t => lams_at) ⟨Nat.le_of_eq (Nat.zero_mul _), rfl, ?_, x, rfl⟩) fun d ds ρ tl' I => ?_) (Nat.le_refl _) fun o tl' ⟨ρ', e, e2, _, y, e3⟩ => ⟨e2, y, by rw [e, e3]⟩
  · intro d hd
    simp only [List.mem_cons, List.not_mem_nil, or_false] at hd
    exact hd
  · obtain ⟨rfl, hds, y, rfl⟩ := I
    rw [lif_gN, bnd_ret, h0]
    have hd := hds d List.mem_cons_self
    have key : ∃ k, (k = i ∨ k = j) ∧ d = .lam k := by
      rcases hd with e | e
      · exact ⟨i, .inl rfl, e⟩
      · exact ⟨j, .inr rfl, e⟩
    obtain ⟨k, hk, rfl⟩ := key
    exact Dw.at (fun g r t => h k hk _) ⟨_, rfl, rfl, fun d hd => hds d (List.mem_cons_of_mem _ hd), _, rfl⟩
end
theorem turns_eq {n : Nat} : ∃ k : Nat, k ≤ 7 ∧ ∀ {ns : List Int} {ρ : En}, ns.length = n → ρ[0]? = some (some (.lst (ns.map di))) → fRng1 [Tr.f2 dAdd (fC (.v (.int 2))) (fB dMin2 [fB dLen [fVar 0], fC (.v (.int 5))])] ρ = Tr.ret (rngD 0 k) := by
  refine ⟨2 + min n 5, by omega, fun {ns ρ} hn h => ?_⟩
  refine rng1_eq (f2_eq rfl (fB2_eq (fB1_eq (fVar_eq h) lif_lenL) rfl (lif_eq fun μ => rfl)) ?_) (by omega)
  rw [List.length_map, hn]
  refine lif_add.trans ?_
  congr 3
  split <;> omega
end Tr
/-! ## TrU2 -/
set_option Elab.async false
set_option linter.all false
set_option maxRecDepth 100000
set_option maxHeartbeats 4000000
/-! More of what is said of trees alone: conditions as truths, comprehensions that ask of all. -/
namespace Tr
open PySem PySem.Spec PyProof.Rows L2
abbrev bl (b : Bool) : D := .v (.bl b)
section
variable {ρ : En}
theorem tOrB {ft fu : FT} {a b : Bool} (h : ft ρ = ret a) (h2 : a = false → fu ρ = ret b) : tOrF ft fu ρ = ret (a || b) := by
  rw [tOr_eq h]
  cases a with
  | true => rfl
  | false => rw [if_neg (by decide)]; exact h2 rfl
theorem tAndB {ft fu : FT} {a b : Bool} (h : ft ρ = ret a) (h2 : a = true → fu ρ = ret b) : tAndF ft fu ρ = ret (a && b) := by
  rw [tAnd_eq h]
  cases a with
  | false => rfl
  | true => rw [if_pos rfl]; exact h2 rfl
theorem fAndB {fa fb : FE} {a b : Bool} (h : fa ρ = ret (bl a)) (h2 : a = true → fb ρ = ret (bl b)) : fAnd fa fb ρ = ret (bl (a && b)) := by
  unfold fAnd
  rw [h, bnd_ret]
  cases a with
  | false => rfl
  | true => exact h2 rfl
theorem fNotB {fa : FE} {a : Bool} (h : fa ρ = ret (bl a)) : fNot fa ρ = ret (bl (!a)) := by
  unfold fNot
  rw [h, bnd_ret]
theorem f3_le_lt {fa fb fc : FE} {a b c : Int} (h1 : fa ρ = ret (di a)) (h2 : fb ρ = ret (di b)) (h3 : fc ρ = ret (di c)) : f3 dLe dLt fa fb fc ρ = ret (bl (decide (a ≤ b) && decide (b < c))) := by
  unfold f3
  rw [h1, bnd_ret, h2, bnd_ret]
  unfold dLe
  rw [lif_cmp, bnd_ret]
  cases decide (a ≤ b) with
  | false => rfl
  | true => rw [Bool.true_and]; dsimp only; rw [h3, bnd_ret, lif_lt]
theorem f3_le_le {fa fb fc : FE} {a b c : Int} (h1 : fa ρ = ret (di a)) (h2 : fb ρ = ret (di b)) (h3 : fc ρ = ret (di c)) : f3 dLe dLe fa fb fc ρ = ret (bl (decide (a ≤ b) && decide (b ≤ c))) := by
  unfold f3
  rw [h1, bnd_ret, h2, bnd_ret]
  unfold dLe
  rw [lif_cmp, bnd_ret]
  cases decide (a ≤ b) with
  | false => rfl
  | true => rw [Bool.true_and]; dsimp only; rw [h3, bnd_ret, lif_cmp]
theorem noex_ret {α : Type} {a : α} : noex (ret a) = ret a := rfl
/-- all([… for x in xs]) -/
theorem allT {fi : FA} {fe : FE} {i : Nat} {own : List Nat} {xs : List D} {g : D → Bool} (h : fi ρ = ret xs) (hl : xs.length ≤ 16777216) (he : ∀ d ∈ xs, fe ((wipeE ρ own).set i (some d)) = ret (bl (g d))) :
    fB dAll [fLc fi (gN i) tYesF fe own] ρ = ret (bl (xs.all g)) := by
  refine fB1_eq (fLc_eval h hl (lcGo_map (g := fun d => bl (g d)) he)) lif_allP
/-- [1 for x in xs if …] != [] -/
theorem someT {fi : FA} {ft : FT} {i : Nat} {own : List Nat} {xs : List D} {p : D → Bool} (h : fi ρ = ret xs) (hl : xs.length ≤ 16777216) (he : ∀ d ∈ xs, ft ((wipeE ρ own).set i (some d)) = ret (p d)) :
    f2 dNe (fLc fi (gN i) ft (fC (.v (.int 1))) own) (fLst []) ρ = ret (bl (xs.any p)) := by
  have e1 := fLc_eval (gt := gN i) (ft := ft) (fe := fC (.v (.int 1))) (own := own) (out := (xs.filter p).map fun _ => di 1) h hl (lcGo_pure fun d hd => ⟨_, lif_gN, he d hd, fun _ => rfl⟩)
  have e2 : lif (dNe (.lst ((xs.filter p).map fun _ => di 1)) (.lst [])) = ret (bl (xs.any p)) := by
    rw [lif_neNil (plDs_iff.mpr fun d hd => by obtain ⟨_, _, rfl⟩ := List.mem_map.mp hd; rfl) (by rw [dps_v fun d hd => by obtain ⟨_, _, rfl⟩ := List.mem_map.mp hd; exact ⟨_, rfl⟩]; omega)]
    congr 3
    rw [Bool.eq_iff_iff, List.any_eq_true]
    cases hf : xs.filter p with
    | nil =>
      simp only [List.map_nil, List.isEmpty_nil, Bool.not_true, Bool.false_eq_true, false_iff]
      rintro ⟨x, hx, hp⟩
      have : x ∈ xs.filter p := List.mem_filter.mpr ⟨hx, hp⟩
      rw [hf] at this
      cases this
    | cons y ys =>
      simp only [List.map_cons, List.isEmpty_cons, Bool.not_false, true_iff]
      have : y ∈ xs.filter p := by rw [hf]; exact List.mem_cons_self
      exact ⟨y, (List.mem_filter.mp this).1, (List.mem_filter.mp this).2⟩
  exact f2_eq e1 (fLst_eq fAll_nil) e2
theorem isI_eq {fa : FE} {d : D} {s : String} (h : fa ρ = ret d) (hp : plD d = true) (hs : s ∈ isTys) : fB dIsI [fa, fC (.v (.ty s))] ρ = ret (bl (kd d == s || (kd d == "bool" && s == "int"))) := fB2_eq (fb := fC (.v (.ty s))) h rfl (isI_pl hp hs)
theorem tupIs {d : D} (h : ∀ xs, d ≠ .tup xs) : (kd d == "tuple" || (kd d == "bool" && "tuple" == "int")) = false := by
  cases d with
  | tup xs => exact absurd rfl (h xs)
  | v x => cases x <;> rfl
  | _ => rfl
end
def numI : D → Int
  | .v (.int i) => i
  | _ => 0
def riseZ (l : List Int) : Bool := (List.range (l.length - 1)).all fun k => decide (l.getD k 0 < l.getD (k + 1) 0)
theorem riseZ_cons {a b : Int} {l : List Int} : riseZ (a :: b :: l) = (decide (a < b) && riseZ (b :: l)) := by
  unfold riseZ
  have e : (a :: b :: l).length - 1 = (b :: l).length - 1 + 1 := by simp
  rw [e, List.range_succ_eq_map, List.all_cons, List.all_map]
  rfl
theorem riseZ_up : ∀ {l : List Int}, riseZ l = true ↔ UpI l
  | [] => by simp [riseZ]
  | [a] => by simp [riseZ]
  | a :: b :: l => by
    rw [riseZ_cons, Bool.and_eq_true, decide_eq_true_iff, riseZ_up (l := b :: l)]
    constructor
    · rintro ⟨h1, h2⟩
      refine List.pairwise_cons.mpr ⟨fun y hy => ?_, h2⟩
      rcases List.mem_cons.mp hy with e | hy
      · rw [e]; exact h1
      · exact Int.lt_trans h1 ((List.pairwise_cons.mp h2).1 y hy)
    · intro h
      obtain ⟨h1, h2⟩ := List.pairwise_cons.mp h
      exact ⟨h1 b List.mem_cons_self, h2⟩
theorem sortI_same {l : List Int} : l = sortI l ↔ riseZ l = true := by
  rw [riseZ_up]
  constructor
  · intro h
    rw [h]
    exact sortI_rise _
  · intro h
    exact riseI_eq h (sortI_rise _) fun x => sortI_in.symm
theorem ints_of {n : Int} : ∀ {xs : List D}, xs.all (isNumB · n) = true → xs = (xs.map numI).map di
  | [], _ => rfl
  | d :: ds, h => by
    rw [List.all_cons, Bool.and_eq_true] at h
    obtain ⟨h1, h2⟩ := h
    rw [List.map_cons, List.map_cons, ← ints_of h2]
    congr 1
    unfold isNumB at h1
    split at h1
    · rfl
    · cases h1
theorem toPs_ints : ∀ (l : List Int), toPs (l.map di) = some (l.map PyData.int)
  | [] => by
    rw [List.map_nil, toPs]
    rfl
  | i :: l => by
    rw [List.map_cons, toPs, toPs_ints l]
    rfl
theorem eqvAll_ints : ∀ {l m : List Int}, PyData.eqvAll (l.map PyData.int) (m.map PyData.int) = decide (l = m)
  | [], [] => rfl
  | a :: l, [] => rfl
  | [], b :: m => rfl
  | a :: l, b :: m => by
    rw [List.map_cons, List.map_cons, PyData.eqvAll, PyData.eqv, eqvAll_ints (l := l) (m := m), Bool.eq_iff_iff]
    simp
theorem eq_ints {l m : List Int} : dEqB (.lst (l.map di)) (.lst (m.map di)) = some (decide (l = m)) := by
  obtain ⟨p, q, h1, h2, h3⟩ := dEqB_pl (a := .lst (l.map di)) (b := .lst (m.map di)) (plDs_ints l) (plDs_ints m) (by rw [dp, dps_v fun d hd => by obtain ⟨_, _, rfl⟩ := List.mem_map.mp hd; exact ⟨_, rfl⟩]; omega) (by rw [dp, dps_v fun d hd => by obtain ⟨_, _, rfl⟩ := List.mem_map.mp hd; exact ⟨_, rfl⟩]; omega)
  rw [toP, toPs_ints] at h1 h2
  cases h1
  cases h2
  rw [h3, PyData.eqv, eqvAll_ints]
theorem fSortSetG_text {fa : FE} {ρ : En} {z : Str} (h : fa ρ = ret (.v (.str z))) (hl : z.length ≤ 60) : fSortSetG fa ρ = ret (.lst (((sortU z.cps.toList).map fun c => [c]).map fun l => .v (.str (tx l)))) := by
  unfold fSortSetG
  rw [h, bnd_ret]
  refine lif_eq fun μ => ?_
  show (if z.length ≤ 60 then some _ else none) = _
  rw [if_pos hl, List.map_map]
  rfl
theorem fSortSetG_ints {fa : FE} {ρ : En} {l : List Int} (h : fa ρ = ret (.tup (l.map di))) (hl : l.length ≤ 60) : fSortSetG fa ρ = ret (.lst ((sortI l).map di)) := by
  unfold fSortSetG
  rw [h, bnd_ret]
  refine lif_eq fun μ => ?_
  show (intsB (l.map di)).bind _ = _
  rw [intsB_map, Option.bind_some, if_pos hl]
theorem asg_eq {fa : FE} {gt : FG} {d : D} {ρ ρ' : En} (h : fa ρ = ret d) (h2 : lif (gt d ρ) = ret ρ') : fAsg fa gt ρ = ret (.nx ρ') := by
  unfold fAsg
  rw [h, bnd_ret, h2, bnd_ret]
theorem le_nat {a b : Nat} : decide ((a : Int) ≤ (b : Int)) = decide (a ≤ b) := by
  rw [Bool.eq_iff_iff]
  simp
theorem getD_someI {l : List Int} {k : Nat} (h : k < l.length) : l[k]? = some (l.getD k 0) := by
  rw [List.getD_eq_getElem?_getD, List.getElem?_eq_getElem h]
  rfl
section
variable {q : Str} {c : List Int} {n m : Nat} {pre tail : Mu} {ρ : En}
theorem Dw.fB1 {f : OpN} {fa : FE} {R : D → Mu → Prop} (h : Dw q c n tail (fa ρ) fun a tl => ∃ d, lif (f [a]) = Tr.ret d ∧ R d tl) : Dw q c n tail (fB f [fa] ρ) R := by
  unfold fB
  refine Dw.mono (n := n + 0) (Dw.bnd (m := 0) ?_) (Nat.le_refl _) fun _ _ z => z
  rw [fAll_cons]
  refine Dw.mono (n := n + 0) (Dw.bnd (m := 0) (Dw.mono h (Nat.le_refl _) fun a tl ⟨d, e, r⟩ => ?_)) (Nat.le_refl _) fun _ _ z => z
  rw [fAll_nil, bnd_ret]
  refine Dw.ret ?_
  rw [e]
  exact Dw.ret r
theorem Dw.tst {fa : FE} {R : Bool → Mu → Prop} (h : Dw q c n tail (fa ρ) fun a tl => ∃ b, a = bl b ∧ R b tl) : Dw q c n tail (Tr.tst fa ρ) R := by
  unfold Tr.tst
  refine Dw.mono (n := n + 0) (Dw.bnd (m := 0) (Dw.mono h (Nat.le_refl _) fun a tl ⟨b, e, r⟩ => ?_)) (Nat.le_refl _) fun _ _ z => z
  rw [e, asB_bl]
  exact Dw.ret r
/-- a comprehension whose condition draws -/
theorem Dw.lcC {i : Nat} {ft : FT} {fe : FE} {I : List D → List D → Mu → Prop} (h : ∀ acc d ds tl, I acc (d :: ds) tl → Dw q c n tl (ft (ρ.set i (some d))) fun b tl' => if b = true then ∃ y, fe (ρ.set i (some d)) = Tr.ret y ∧ I (acc ++ [y]) ds tl' else I acc ds tl') :
    ∀ {ds acc : List D} {tail : Mu}, I acc ds tail → Dw q c (n * ds.length) tail (lcGo (gN i) ft fe ρ ds) fun out tl => I (acc ++ out) [] tl
  | [], acc, tail, j => Dw.ret (by rw [List.append_nil]; exact j)
  | d :: ds, acc, tail, j => by
    unfold lcGo
    rw [lif_gN, bnd_ret]
    refine Dw.mono (n := n + n * ds.length) (Dw.bnd (Dw.mono (Dw.noex (h acc d ds tail j)) (Nat.le_refl _) fun b tl j' => ?_)) (by rw [List.length_cons, Nat.mul_succ, Nat.add_comm]; exact Nat.le_refl _) fun _ _ z => z
    cases b with
    | false =>
      rw [if_neg (by decide)] at j' ⊢
      exact Dw.lcC h j'
    | true =>
      rw [if_pos rfl] at j' ⊢
      obtain ⟨y, e, j'⟩ := j'
      rw [e, noex_ret, bnd_ret]
      refine Dw.mono (n := n * ds.length + 0) (Dw.bnd (Dw.mono (Dw.lcC h j') (Nat.le_refl _) fun out tl' j2 => Dw.ret ?_)) (Nat.le_refl _) fun _ _ z => z
      rw [List.append_assoc] at j2
      exact j2
theorem Dw.lcVC {k0 k : Nat} {i : Nat} {fi : FA} {ft : FT} {fe : FE} {own : List Nat} {P : D → Mu → Prop} {J : List D → List D → Mu → Prop} (hi : Dw q c k0 tail (fi ρ) fun ds tl => ds.length ≤ 16777216 ∧ n * ds.length ≤ k ∧ J [] ds tl)
    (h : ∀ acc d ds tl, J acc (d :: ds) tl → Dw q c n tl (ft ((wipeE ρ own).set i (some d))) fun b tl' => if b = true then ∃ y, fe ((wipeE ρ own).set i (some d)) = Tr.ret y ∧ J (acc ++ [y]) ds tl' else J acc ds tl') (he : ∀ out tl, J out [] tl → P (.lst out) tl) : Dw q c (k0 + k) tail (fLc fi (gN i) ft fe own ρ) P := by
  unfold fLc fLcG
  refine Dw.bnd (Dw.mono hi (Nat.le_refl _) fun ds tl ⟨h1, h2, j⟩ => ?_)
  rw [if_pos h1]
  refine Dw.mono (n := n * ds.length + 0) (Dw.bnd (Dw.mono (Dw.lcC h j) (Nat.le_refl _) fun out tl z => Dw.ret (he _ _ (by rw [List.nil_append] at z; exact z)))) (by omega) fun _ _ z => z
end
mutual
theorem pl_nl : ∀ {d : D}, plD d = true → nlD d = true
  | .v x, _ => by unfold nlD; rfl
  | .tup xs, h => by
    unfold nlD
    exact pls_nl (by unfold plD at h; exact h)
  | .lst xs, h => by
    unfold nlD
    exact pls_nl (by unfold plD at h; exact h)
  | .r n, h => by unfold plD at h; cases h
  | .exn n, h => by unfold plD at h; cases h
  | .lam n, h => by unfold plD at h; cases h
theorem pls_nl : ∀ {ds : List D}, plDs ds = true → nlDs ds = true
  | [], _ => by unfold nlDs; rfl
  | d :: ds, h => by
    unfold plDs at h
    rw [Bool.and_eq_true] at h
    unfold nlDs
    rw [pl_nl h.1, pls_nl h.2]
    rfl
end
/-- cells of the law's own: lists of plain things -/
def plT (tl : Mu) : Prop := ∀ c ∈ tl, ∃ xs, c = .lst xs ∧ plDs xs = true
theorem plT_nil : plT [] := fun _ h => nomatch h
theorem plT_app {a b : Mu} (h1 : plT a) (h2 : plT b) : plT (a ++ b) := fun c hc => (List.mem_append.mp hc).elim (h1 c) (h2 c)
theorem plT_one {xs : List D} (h : plDs xs = true) : plT [.lst xs] := fun c hc => by
  rw [List.mem_singleton] at hc
  exact ⟨xs, hc, h⟩
theorem plT_low {tl : Mu} (h : plT tl) : lowT tl = true := by
  unfold lowT
  rw [List.all_eq_true]
  intro c hc
  obtain ⟨xs, rfl, hx⟩ := h c hc
  exact lows_pl hx
theorem nl_ints (l : List Int) : nlDs (l.map di) = true := pls_nl (plDs_ints l)
theorem plT_nl {q : Str} {g c : List Int} {r t : Int} {tl : Mu} (h : plT tl) : nlMu (SM q g c r t tl) = true := by
  unfold nlMu
  rw [List.all_eq_true]
  intro x hx
  rcases List.mem_cons.mp hx with rfl | hx
  · rfl
  rcases List.mem_cons.mp hx with rfl | hx
  · exact nl_ints g
  rcases List.mem_cons.mp hx with rfl | hx
  · have e : nlD (.lst (c.map di)) = true := by unfold nlD; exact nl_ints c
    show nlK _ = true
    simp [nlK, nlD, nl_ints c]
  · obtain ⟨xs, rfl, hy⟩ := h x hx
    exact pls_nl hy
section
variable {q : Str} {c : List Int} {n m : Nat} {pre tl : Mu} {ρ : En}
theorem Dw.nol {F : List D → M D} {ds : List D} {P : D → Prop} (h0 : nlDs ds = true) (hT : plT tl) (h : Dw q c n tl (F ds) fun d tl' => tl' = tl ∧ nlD d = true ∧ P d) : Dw q c n tl (nolF F ds) fun d tl' => tl' = tl ∧ P d := fun g r t p0 p1 => by
  obtain ⟨d, g', r', t', tl', e, p2, p3, rfl, hn, hP⟩ := h g r t p0 p1
  exact ⟨d, g', r', t', tl', nol_at h0 (plT_nl hT) e hn (plT_nl hT), p2, p3, rfl, hP⟩
theorem lam_at {g : List Int} {r t : Int} {k : Nat} : fLam 0 q k ρ (SM q g c r t tl) = some (.ok (.lam k) (SM q g c r t tl)) := by
  unfold fLam
  rw [if_pos]
  show decide (q = q) = true
  exact decide_eq_true rfl
theorem lamsL {ks : List Nat} {g : List Int} {r t : Int} : fItm (fLst (ks.map (fLam 0 q))) ρ (SM q g c r t tl) = some (.ok (ks.map .lam) (SM q g c r t tl)) := by
  have e : fAll (ks.map (fLam 0 q)) ρ (SM q g c r t tl) = some (.ok (ks.map .lam) (SM q g c r t tl)) := by
    induction ks with
    | nil => exact ret_of fAll_nil
    | cons k ks ih => exact fAll_at lam_at ih
  unfold fItm fLst
  rw [bnd_assoc, bnd_at e]
  rfl
/-- a loop of tasks -/
theorem tasksL {fb : FS} {i : Nat} {ks : List Nat} {ρ0 : Option D → En} (h0 : ∀ x y : Option D, (ρ0 x).set i y = ρ0 y) (h : ∀ k ∈ ks, ∀ g r t, fb (ρ0 (some (.lam k))) (SM q g c r t tl) = some (.ok (.nx (ρ0 (some (.lam k)))) (SM q g c r t tl))) {x : Option D} :
    Dw q c 0 tl (fFor (fItm (fLst (ks.map (fLam 0 q)))) (gN i) fb (ρ0 x)) fun o tl' => tl' = tl ∧ ∃ y, o = .nx (ρ0 y) := by
  refine Dw.mono (n := 0 + 0) (Dw.forD (k0 := 0) (n := 0) (I := fun ds ρ tl' => tl' = tl ∧ (∀ d ∈ ds, ∃ k ∈ ks, d = .lam k) ∧ ∃ y, ρ = ρ0 y) (Dw.at (fun g r t => lamsL) ⟨Nat.le_of_eq (Nat.zero_mul _), rfl, ?_, x, rfl⟩) fun d ds ρ tl' I => ?_) (Nat.le_refl _) fun o tl' ⟨ρ', e, e2, _, y, e3⟩ => ⟨e2, y, by rw [e, e3]⟩
  · intro d hd
    obtain ⟨k, hk, rfl⟩ := List.mem_map.mp hd
    exact ⟨k, hk, rfl⟩
  · obtain ⟨rfl, hds, y, rfl⟩ := I
    rw [lif_gN, bnd_ret, h0]
    obtain ⟨k, hk, rfl⟩ := hds d List.mem_cons_self
    exact Dw.at (fun g r t => h k hk g r t) ⟨_, rfl, rfl, fun d hd => hds d (List.mem_cons_of_mem _ hd), _, rfl⟩
end
section
variable {q : Str} {c : List Int} {n m : Nat} {tl : Mu} {ρ : En}
/-- what makes cells, and draws nothing -/
theorem Dw.atT {α : Type} {f : M α} {P : α → Mu → Prop} {a : α} {tl' : Mu} (h : ∀ (g : List Int) (r t : Int), f (SM q g c r t tl) = some (.ok a (SM q g c r t tl'))) (hp : P a tl') : Dw q c n tl f P := fun g r t h0 h1 => ⟨a, g, r, t, tl', h g r t, h0, by omega, hp⟩
theorem Dw.ifN {ft : FT} {f1 f2 : FS} {Q : Out → Mu → Prop} (h : Dw q c n tl (ft ρ) fun b tl' => b = false ∧ Dw q c m tl' (f2 ρ) Q) : Dw q c (n + m) tl (fIfS ft f1 f2 ρ) Q := by
  unfold fIfS
  refine Dw.bnd (Dw.mono h (Nat.le_refl _) fun b tl' ⟨e, k⟩ => ?_)
  subst e
  rw [if_neg (by decide)]
  exact k
theorem Dw.tNot {ft : FT} {R : Bool → Mu → Prop} (h : Dw q c n tl (ft ρ) fun b tl' => R (!b) tl') : Dw q c n tl (tNotF ft ρ) R := by
  unfold tNotF
  exact Dw.mono (n := n + 0) (Dw.bnd (m := 0) (Dw.mono h (Nat.le_refl _) fun b tl' k => Dw.ret k)) (Nat.le_refl _) fun _ _ z => z
theorem Dw.tOr {ft fu : FT} {R : Bool → Mu → Prop} (h1 : ∀ g r t, ft ρ (SM q g c r t tl) = some (.ok false (SM q g c r t tl))) (h : Dw q c n tl (fu ρ) R) : Dw q c n tl (tOrF ft fu ρ) R := fun g r t h0 hb => by
  obtain ⟨b, g', r', t', tl', e, k⟩ := h g r t h0 hb
  exact ⟨b, g', r', t', tl', tOr_at (h1 g r t) e, k⟩
end
theorem closeF_ex {F : List D → M D} {ds : List D} {μ : Mu} {e : Str} (hl : lowAll μ = true) (h : F ds μ = some (.ex e μ)) : closeF F ds μ = some (.ex e μ) := by
  unfold closeF
  rw [h]
  unfold closeR
  dsimp only
  have h1 : lowMu μ.length μ = true := by
    have := low_ext (cs := []) hl
    rw [List.append_nil] at this
    exact this
  rw [if_pos h1, List.take_length]
end Tr
/-! ## TrW2 -/
set_option Elab.async false
set_option linter.all false
/-! Small machines that read texts: walks, counts of the texts that lead somewhere. Plain lists of numbers. -/
namespace Mach
open Tr
def addAt (m : List Nat) (g v : Nat) : List Nat := m.set g (m.getD g 0 + v)
def rowAdd (v : Nat) (row m : List Nat) : List Nat := row.foldl (fun m g => addAt m g v) m
def stepC : List Nat → List (List Nat) → List Nat → List Nat
  | c :: cs, r :: rs, m => stepC cs rs (rowAdd c r m)
  | _, _, m => m
def cnt (R : List (List Nat)) : Nat → List Nat
  | 0 => 1 :: List.replicate (R.length - 1) 0
  | k + 1 => stepC (cnt R k) R (List.replicate R.length 0)
def dot : List Nat → List Nat → Nat
  | a :: v, b :: w => a * b + dot v w
  | _, _ => 0
def hist (N : Nat) (S : List Nat) : List Nat := S.foldr (fun s m => addAt m s 1) (List.replicate N 0)
theorem addAt_len {m : List Nat} {g v : Nat} : (addAt m g v).length = m.length := by simp [addAt]
theorem addAt_get {m : List Nat} {g v t : Nat} (h : g < m.length) : (addAt m g v).getD t 0 = m.getD t 0 + if t = g then v else 0 := by
  unfold addAt
  rw [List.getD_eq_getElem?_getD, List.getElem?_set]
  by_cases e : g = t
  · rw [if_pos e, if_pos h, if_pos e.symm, ← e]
    rfl
  · rw [if_neg e, if_neg fun z => e z.symm, Nat.add_zero, List.getD_eq_getElem?_getD]
theorem rowAdd_len {v : Nat} : ∀ {row m : List Nat}, (rowAdd v row m).length = m.length
  | [], m => rfl
  | g :: row, m => by
    show (rowAdd v row (addAt m g v)).length = _
    rw [rowAdd_len, addAt_len]
theorem rowAdd_get {v t : Nat} : ∀ {row m : List Nat}, (∀ g ∈ row, g < m.length) → (rowAdd v row m).getD t 0 = m.getD t 0 + v * row.count t
  | [], m, _ => by simp [rowAdd]
  | g :: row, m, h => by
    show (rowAdd v row (addAt m g v)).getD t 0 = _
    rw [rowAdd_get fun x hx => by rw [addAt_len]; exact h x (List.mem_cons_of_mem _ hx), addAt_get (h g List.mem_cons_self), List.count_cons]
    by_cases e : t = g
    · rw [if_pos e, if_pos (by simp [e]), Nat.mul_add, Nat.mul_one]; omega
    · rw [if_neg e, if_neg (by simpa using fun z => e z.symm), Nat.add_zero, Nat.add_zero]
theorem stepC_len : ∀ {cs : List Nat} {rs : List (List Nat)} {m : List Nat}, (stepC cs rs m).length = m.length
  | [], rs, m => by rw [stepC]; simp
  | c :: cs, [], m => by rw [stepC]; simp
  | c :: cs, r :: rs, m => by rw [stepC, stepC_len, rowAdd_len]
theorem stepC_get {t : Nat} : ∀ {cs : List Nat} {rs : List (List Nat)} {m : List Nat}, (∀ r ∈ rs, ∀ g ∈ r, g < m.length) → (stepC cs rs m).getD t 0 = m.getD t 0 + dot cs (rs.map (·.count t))
  | [], rs, m, _ => by
    rw [stepC]
    · cases rs <;> simp [dot]
    · simp
  | c :: cs, [], m, _ => by
    rw [stepC]
    · simp [dot]
    · simp
  | c :: cs, r :: rs, m, h => by
    rw [stepC, stepC_get fun x hx g hg => by rw [rowAdd_len]; exact h x (List.mem_cons_of_mem _ hx) g hg, rowAdd_get (h r List.mem_cons_self), List.map_cons, dot]
    omega
theorem ext_getD {l m : List Nat} (h1 : l.length = m.length) (h2 : ∀ t, l.getD t 0 = m.getD t 0) : l = m := by
  apply List.ext_getElem h1
  intro i p q
  have := h2 i
  rw [List.getD_eq_getElem?_getD, List.getD_eq_getElem?_getD, List.getElem?_eq_getElem p, List.getElem?_eq_getElem q] at this
  exact this
theorem hist_len {N : Nat} : ∀ {S : List Nat}, (hist N S).length = N
  | [] => by simp [hist]
  | s :: S => by
    show (addAt (hist N S) s 1).length = N
    rw [addAt_len, hist_len]
theorem zero_get {N t : Nat} : (List.replicate N 0).getD t 0 = 0 := by
  rw [List.getD_eq_getElem?_getD, List.getElem?_replicate]
  split <;> rfl
theorem hist_get {N t : Nat} : ∀ {S : List Nat}, (∀ s ∈ S, s < N) → (hist N S).getD t 0 = S.count t
  | [], _ => by
    show (List.replicate N 0).getD t 0 = _
    rw [zero_get]
    rfl
  | s :: S, h => by
    show (addAt (hist N S) s 1).getD t 0 = _
    rw [addAt_get (by rw [hist_len]; exact h s List.mem_cons_self), hist_get fun x hx => h x (List.mem_cons_of_mem _ hx), List.count_cons]
    by_cases e : t = s
    · rw [if_pos e, if_pos (by simp [e])]
    · rw [if_neg e, if_neg (by simpa using fun z => e z.symm)]
theorem dot_zero {N : Nat} : ∀ {w : List Nat}, dot (List.replicate N 0) w = 0 := by
  induction N with
  | zero => intro w; simp [dot]
  | succ N ih =>
    intro w
    cases w with
    | nil => simp [dot]
    | cons b w => rw [List.replicate_succ, dot, ih]; omega
theorem dot_add : ∀ {v w : List Nat} {s : Nat}, s < v.length → v.length = w.length → dot (addAt v s 1) w = dot v w + w.getD s 0
  | [], _, _, h, _ => absurd h (Nat.not_lt_zero _)
  | a :: v, [], _, _, h => by cases h
  | a :: v, b :: w, 0, _, _ => by
    show dot ((a + 1) :: v) (b :: w) = dot (a :: v) (b :: w) + b
    rw [dot, dot, Nat.add_mul]
    omega
  | a :: v, b :: w, s + 1, h, e => by
    have ih := dot_add (v := v) (w := w) (s := s) (by simpa using h) (by simpa using e)
    have e1 : addAt (a :: v) (s + 1) 1 = a :: addAt v s 1 := rfl
    rw [e1, dot, dot, ih]
    show _ = _ + w.getD s 0
    omega
theorem flat_count {R : List (List Nat)} {t : Nat} : ∀ {S : List Nat}, (∀ s ∈ S, s < R.length) → (S.flatMap fun s => R.getD s []).count t = dot (hist R.length S) (R.map (·.count t))
  | [], _ => by
    show 0 = dot (List.replicate _ 0) _
    rw [dot_zero]
  | s :: S, h => by
    have hs := h s List.mem_cons_self
    show _ = dot (addAt (hist R.length S) s 1) _
    rw [List.flatMap_cons, List.count_append, flat_count fun x hx => h x (List.mem_cons_of_mem _ hx), dot_add (by rw [hist_len]; exact hs) (by rw [hist_len, List.length_map])]
    have e : (R.map (·.count t)).getD s 0 = (R.getD s []).count t := by
      rw [List.getD_eq_getElem?_getD, List.getElem?_map, List.getD_eq_getElem?_getD, List.getElem?_eq_getElem hs]
      rfl
    rw [e]
    omega
def stS (R : List (List Nat)) : Nat → List Nat
  | 0 => [0]
  | k + 1 => (stS R k).flatMap fun s => R.getD s []
/-- rows of so many goals, all of them states -/
def Good (nl : Nat) (R : List (List Nat)) : Prop := 1 ≤ R.length ∧ ∀ r ∈ R, r.length = nl ∧ ∀ i ∈ r, i < R.length
theorem getD_mem {R : List (List Nat)} {s : Nat} (h : s < R.length) : R.getD s [] ∈ R := by
  rw [List.getD_eq_getElem?_getD, List.getElem?_eq_getElem h]
  exact List.getElem_mem h
theorem stS_lt {nl : Nat} {R : List (List Nat)} (g : Good nl R) : ∀ {k : Nat}, ∀ s ∈ stS R k, s < R.length
  | 0, s, h => by
    rw [stS, List.mem_singleton] at h
    rw [h]
    exact g.1
  | k + 1, s, h => by
    rw [stS, List.mem_flatMap] at h
    obtain ⟨u, hu, hs⟩ := h
    exact (g.2 _ (getD_mem (stS_lt g u hu))).2 s hs
theorem cnt_len {R : List (List Nat)} (h : 1 ≤ R.length) : ∀ {k : Nat}, (cnt R k).length = R.length
  | 0 => by rw [cnt, List.length_cons, List.length_replicate]; omega
  | k + 1 => by rw [cnt, stepC_len, List.length_replicate]
theorem cnt_hist {nl : Nat} {R : List (List Nat)} (g : Good nl R) : ∀ {k : Nat}, cnt R k = hist R.length (stS R k)
  | 0 => by
    have h := g.1
    rw [cnt, stS]
    show _ = addAt (List.replicate R.length 0) 0 1
    obtain ⟨n, hn⟩ : ∃ n, R.length = n + 1 := ⟨R.length - 1, by omega⟩
    rw [hn, List.replicate_succ]
    rfl
  | k + 1 => by
    refine ext_getD (by rw [cnt, stepC_len, hist_len, List.length_replicate]) fun t => ?_
    rw [hist_get (stS_lt g), cnt, stepC_get (fun r hr i hi => by rw [List.length_replicate]; exact (g.2 r hr).2 i hi), zero_get, stS, flat_count (stS_lt g), cnt_hist g (k := k), Nat.zero_add]
/-! texts -/
def lineW (z : List Nat) : Nat → List (List Nat)
  | 0 => [[]]
  | k + 1 => (lineW z k).flatMap fun w => z.map fun x => w ++ [x]
def foundW (z : List Nat) : Nat → List (List Nat)
  | 0 => [[]]
  | k + 1 => foundW z k ++ lineW z (k + 1)
def ix (z : List Nat) (x : Nat) : Nat := z.idxOf x
def ledN (z : List Nat) (R : List (List Nat)) (s : Nat) (w : List Nat) : Nat := w.foldl (fun s x => (R.getD s []).getD (ix z x) 0) s
theorem line_len {z : List Nat} : ∀ {k : Nat}, ∀ w ∈ lineW z k, w.length = k ∧ ∀ x ∈ w, x ∈ z
  | 0, w, h => by
    rw [lineW, List.mem_singleton] at h
    rw [h]
    exact ⟨rfl, fun x hx => nomatch hx⟩
  | k + 1, w, h => by
    rw [lineW, List.mem_flatMap] at h
    obtain ⟨u, hu, hw⟩ := h
    obtain ⟨x, hx, rfl⟩ := List.mem_map.mp hw
    obtain ⟨h1, h2⟩ := line_len u hu
    refine ⟨by rw [List.length_append, h1, List.length_singleton], fun y hy => ?_⟩
    rcases List.mem_append.mp hy with h | h
    · exact h2 y h
    · rw [List.mem_singleton] at h; rw [h]; exact hx
theorem found_len {z : List Nat} : ∀ {k : Nat}, ∀ w ∈ foundW z k, w.length ≤ k ∧ ∀ x ∈ w, x ∈ z
  | 0, w, h => by
    rw [foundW, List.mem_singleton] at h
    rw [h]
    exact ⟨Nat.le_refl _, fun x hx => nomatch hx⟩
  | k + 1, w, h => by
    rw [foundW] at h
    rcases List.mem_append.mp h with h | h
    · obtain ⟨h1, h2⟩ := found_len w h
      exact ⟨by omega, h2⟩
    · obtain ⟨h1, h2⟩ := line_len w h
      exact ⟨by omega, h2⟩
theorem found_filter {z : List Nat} {p : List Nat → Bool} : ∀ {n : Nat}, (foundW z n).filter (fun w => w.length == n && p w) = (lineW z n).filter p
  | 0 => by
    rw [foundW, lineW]
    simp [List.filter_cons]
  | n + 1 => by
    rw [foundW, List.filter_append]
    have e : (foundW z n).filter (fun w => w.length == n + 1 && p w) = [] := by
      rw [List.filter_eq_nil_iff]
      intro w hw
      have := (found_len w hw).1
      have : ¬ w.length = n + 1 := by omega
      simp [this]
    rw [e, List.nil_append]
    refine List.filter_congr fun w hw => ?_
    have := (line_len w hw).1
    simp [this]
theorem led_snoc {z : List Nat} {R : List (List Nat)} {s x : Nat} {w : List Nat} : ledN z R s (w ++ [x]) = (R.getD (ledN z R s w) []).getD (ix z x) 0 := by
  unfold ledN
  rw [List.foldl_append]
  rfl
theorem ix_lt {z : List Nat} {x : Nat} (h : x ∈ z) : ix z x < z.length := List.idxOf_lt_length_iff.mpr h
theorem go_lt {nl : Nat} {z : List Nat} {R : List (List Nat)} (g : Good nl R) (hz : z.length = nl) {s x : Nat} (hs : s < R.length) (hx : x ∈ z) : (R.getD s []).getD (ix z x) 0 < R.length := by
  obtain ⟨h1, h2⟩ := g.2 _ (getD_mem hs)
  have := ix_lt hx
  rw [List.getD_eq_getElem?_getD, List.getElem?_eq_getElem (by omega)]
  exact h2 _ (List.getElem_mem _)
theorem led_lt {nl : Nat} {z : List Nat} {R : List (List Nat)} (g : Good nl R) (hz : z.length = nl) : ∀ {w : List Nat} {s : Nat}, s < R.length → (∀ x ∈ w, x ∈ z) → ledN z R s w < R.length
  | [], s, hs, _ => hs
  | x :: w, s, hs, h => led_lt g hz (w := w) (go_lt g hz hs (h x List.mem_cons_self)) fun y hy => h y (List.mem_cons_of_mem _ hy)
theorem ix_nth : ∀ {z : List Nat}, z.Nodup → ∀ {i : Nat} (h : i < z.length), ix z z[i] = i
  | a :: z, hn, 0, _ => by simp [ix]
  | a :: z, hn, i + 1, h => by
    have hn := List.nodup_cons.mp hn
    have hi : i < z.length := by simpa using h
    have ih := ix_nth hn.2 hi
    have hne : ¬ a = z[i] := fun e => hn.1 (e ▸ List.getElem_mem hi)
    unfold ix at ih ⊢
    rw [List.getElem_cons_succ, List.idxOf_cons]
    rw [show (a == z[i]) = false by simpa using hne, ih]
    rfl
theorem row_back {z row : List Nat} (hn : z.Nodup) (hl : row.length = z.length) : (z.map fun x => row.getD (ix z x) 0) = row := by
  apply List.ext_getElem (by rw [List.length_map, hl])
  intro i p q
  rw [List.getElem_map, ix_nth hn, List.getD_eq_getElem?_getD, List.getElem?_eq_getElem q]
  rfl
theorem states_eq {z : List Nat} {R : List (List Nat)} (g : Good z.length R) (hn : z.Nodup) : ∀ {k : Nat}, (lineW z k).map (ledN z R 0) = stS R k
  | 0 => rfl
  | k + 1 => by
    rw [lineW, stS, ← states_eq g hn (k := k), List.map_flatMap, List.flatMap_map]
    have : ∀ {l : List (List Nat)} {f h : List Nat → List Nat}, (∀ w ∈ l, f w = h w) → l.flatMap f = l.flatMap h := fun {l f h} e => by
      rw [List.flatMap_def, List.flatMap_def, List.map_congr_left e]
    refine this fun w hw => ?_
    rw [List.map_map]
    have hl := led_lt g rfl (w := w) (s := 0) (by have := g.1; omega) (line_len w hw).2
    have e := row_back hn (g.2 _ (getD_mem hl)).1
    conv => rhs; rw [← e]
    refine List.map_congr_left fun x hx => ?_
    exact led_snoc
theorem line_many {z : List Nat} : ∀ {k : Nat}, (lineW z k).length = z.length ^ k
  | 0 => rfl
  | k + 1 => by
    have : ∀ (l : List (List Nat)), (l.flatMap fun w => z.map fun x => w ++ [x]).length = l.length * z.length := fun l => by
      induction l with
      | nil => simp
      | cons w l ih => rw [List.flatMap_cons, List.length_append, ih, List.length_map, List.length_cons, Nat.add_mul]; omega
    rw [lineW, this, line_many (k := k), Nat.pow_succ]
def countG (R : List (List Nat)) (G : List Nat) (n : Nat) : Nat := (G.map fun g => (cnt R n).getD g 0).sum
theorem sum_count {S : List Nat} : ∀ {G : List Nat}, G.Nodup → (G.map fun g => S.count g).sum = (S.filter fun s => decide (s ∈ G)).length
  | [], _ => by
    rw [List.filter_eq_nil_iff.mpr (fun s _ => by simp)]
    rfl
  | g :: G, h => by
    have h := List.nodup_cons.mp h
    rw [List.map_cons, List.sum_cons, sum_count h.2]
    have h1 := h.1
    clear h
    induction S with
    | nil => rfl
    | cons s S ih =>
      rw [List.count_cons, List.filter_cons, List.filter_cons]
      by_cases e : s = g
      · have e2 : ¬ s ∈ G := e ▸ h1
        simp only [e, beq_self_eq_true, if_true, List.mem_cons, true_or, decide_true, List.length_cons]
        rw [e] at e2
        simp only [e2, decide_false, Bool.false_eq_true, if_false]
        simp only [List.mem_cons] at ih
        omega
      · have e3 : (s == g) = false := by simpa using e
        simp only [e3, Bool.false_eq_true, if_false, List.mem_cons, e, false_or]
        by_cases e2 : s ∈ G
        · simp only [e2, decide_true, if_true, List.length_cons, List.mem_cons]
          simp only [List.mem_cons] at ih
          omega
        · simp only [e2, decide_false, Bool.false_eq_true, if_false]
          simp only [List.mem_cons] at ih
          omega
theorem count_filter {z : List Nat} {R : List (List Nat)} {G : List Nat} (g : Good z.length R) (hn : z.Nodup) (hG : G.Nodup) {n : Nat} : countG R G n = ((lineW z n).filter fun w => decide (ledN z R 0 w ∈ G)).length := by
  unfold countG
  have e : (G.map fun x => (cnt R n).getD x 0) = G.map fun x => (stS R n).count x := List.map_congr_left fun x _ => by
    rw [cnt_hist g, hist_get (stS_lt g)]
  rw [e, sum_count hG, ← states_eq g hn, List.filter_map, List.length_map]
  rfl
theorem countG_le {z : List Nat} {R : List (List Nat)} {G : List Nat} (g : Good z.length R) (hn : z.Nodup) (hG : G.Nodup) {n : Nat} : countG R G n ≤ z.length ^ n := by
  rw [count_filter g hn hG, ← line_many]
  exact List.length_filter_le _ _
end Mach
/-! ## L66a -/
set_option Elab.async false
set_option linter.all false
set_option maxRecDepth 100000
set_option maxHeartbeats 4000000
namespace K66
open PySem PySem.Spec PyProof.Rows L2 Tr
def topS (i : Nat) : Stmt := PySem.Challenge.pw_oneuseheads_k66_machines_judged_and_led.main.body.getD i (.Pass ⟨0, 0, 0, 0⟩)
def isaT : Str → Str → Option Bool := fun c d =>
  if c = "BadMachine" ∧ d = "BadMachine" then some true else
  if c = "BadMachine" ∧ d = "BadNumber" then some false else
  if c = "BadMachine" ∧ d = "BadText" then some false else
  if c = "BadNumber" ∧ d = "BadMachine" then some false else
  if c = "BadNumber" ∧ d = "BadNumber" then some true else
  if c = "BadNumber" ∧ d = "BadText" then some false else
  if c = "BadText" ∧ d = "BadMachine" then some false else
  if c = "BadText" ∧ d = "BadNumber" then some false else
  if c = "BadText" ∧ d = "BadText" then some true else
  none
def ownT : Str → Bool := fun c => decide (c = "BadMachine") || decide (c = "BadNumber") || decide (c = "BadText")
/-- what the top has left: the built-ins are the built-ins, the constants, the errors -/
structure Bt (K : PySem.W.Frag) (mg : Str → Option Value) : Prop where
  n_abs : mg "abs" = none
  n_all : mg "all" = none
  n_bool : mg "bool" = none
  n_enumerate : mg "enumerate" = none
  n_int : mg "int" = none
  n_isinstance : mg "isinstance" = none
  n_len : mg "len" = none
  n_list : mg "list" = none
  n_min : mg "min" = none
  n_range : mg "range" = none
  n_repr : mg "repr" = none
  n_set : mg "set" = none
  n_sorted : mg "sorted" = none
  n_str : mg "str" = none
  n_sum : mg "sum" = none
  n_tuple : mg "tuple" = none
  n_LETTERS : GC mg "LETTERS" (.str "abcdefghijklmnopqrstuvwxyz")
  n_MOST_LENGTH : GC mg "MOST_LENGTH" (.int 1000)
  n_MOST_LETTERS : GC mg "MOST_LETTERS" (.int 26)
  n_MOST_STATES : GC mg "MOST_STATES" (.int 400)
  n_BadMachine : ExK K mg "BadMachine"
  n_BadNumber : ExK K mg "BadNumber"
  n_BadText : ExK K mg "BadText"
  k_BadMachine : ∃ D, mg "BadMachine" = some (.ref D)
  k_BadNumber : ∃ D, mg "BadNumber" = some (.ref D)
  k_BadText : ∃ D, mg "BadText" = some (.ref D)
  n_isa : IsaOk K mg isaT
  n_dig : PySem.W.nsIn K cStatics digKey = some none
  n_own : ∃ c, mg "HeadError" = some c ∧ ∀ n, ownT n = true → ∀ C, mg n = some (.ref C) → PySem.W.exmOne K (.ref C) c = some true
section
variable {P : Program} {w : World} {K : PySem.W.Frag} {mg : Str → Option Value} {base : Heap}
theorem sc__law_caught : FnScope ["_law_action", "_law_found", "error"] ["_law_action"] (defScope (topS 29)) := ⟨rfl, rfl, rfl, by decide +kernel, rfl, by decide +kernel, by decide +kernel⟩
/-! ### is_whole -/
abbrev s_is_whole : Stmt := topS 6
theorem sc_is_whole : FnScope ["value"] ["value"] (defScope s_is_whole) := ⟨rfl, rfl, rfl, by decide +kernel, rfl, by decide +kernel, by decide +kernel⟩
def f_is_whole : FS := fRet (fAnd (fB dIsI [fVar 0, fC (.v (.ty "int"))]) (fNot (fB dIsI [fVar 0, fC (.v (.ty "bool"))])))
def F_is_whole : List D → M D := bodyF f_is_whole 1 1
theorem ok_is_whole {fa : Addr} {fd : FuncData} (F : Fun K "is_whole" "is_whole" s_is_whole fa fd) (gm : mg "is_whole" = some (.ref fa)) (bd : Binds K fd ["value"] []) (B : Bt K mg)  : FnAt P w K mg base 1 fa fd ["value"] "is_whole" F_is_whole := by
  refine okF (k := 0) (N := ["value"]) F sc_is_whole gm bd fun LO cdv A outer s H E hr => ?_
  have scN := sc_is_whole.nd
  exact dss_one (ds_ret flat_WD (de_and (de_callB call_isID B.n_isinstance (da_cons (de_var 0) (da_cons (de_bty B.n_int) (da_nil)))) (de_one (de_not (de_callB call_isID B.n_isinstance (da_cons (de_var 0) (da_cons (de_bty B.n_bool) (da_nil))))))))
/-! ### is_text -/
abbrev s_is_text : Stmt := topS 9
theorem sc_is_text : FnScope ["value", "sign"] ["value"] (defScope s_is_text) := ⟨rfl, rfl, rfl, by decide +kernel, rfl, by decide +kernel, by decide +kernel⟩
def f_is_text : FS := fRet (fAnd (fB dIsI [fVar 0, fC (.v (.ty "str"))]) (fB dAll [fLc (fItm (fVar 0)) (gN 1) (tYesF) (f2 dIn (fVar 1) (fC (.v (.str "abcdefghijklmnopqrstuvwxyz")))) [1]]))
def F_is_text : List D → M D := bodyF f_is_text 1 2
theorem ok_is_text {fa : Addr} {fd : FuncData} (F : Fun K "is_text" "is_text" s_is_text fa fd) (gm : mg "is_text" = some (.ref fa)) (bd : Binds K fd ["value"] []) (B : Bt K mg)  : FnAt P w K mg base 1 fa fd ["value"] "is_text" F_is_text := by
  refine okF (k := 0) (N := ["value", "sign"]) F sc_is_text gm bd fun LO cdv A outer s H E hr => ?_
  have scN := sc_is_text.nd
  exact dss_one (ds_ret flat_WD (de_and (de_callB call_isID B.n_isinstance (da_cons (de_var 0) (da_cons (de_bty B.n_str) (da_nil)))) (de_one (de_callB (call_allD rfl) B.n_all (da_cons (de_lcG finL_ok (own := [("sign", 1)]) rfl scN (by rfl) (di_any (de_var 0)) (fun _ _ _ _ _ => dg_name scN) (fun _ _ _ _ _ => dts_nil) (fun _ _ _ _ _ => de_cmp op_inDD (de_var 1) (de_gc B.n_LETTERS (okV_of (by decide +kernel))))) (da_nil))))))
/-! ### is_number -/
abbrev s_is_number : Stmt := topS 14
theorem sc_is_number : FnScope ["value", "end"] ["value", "end"] (defScope s_is_number) := ⟨rfl, rfl, rfl, by decide +kernel, rfl, by decide +kernel, by decide +kernel⟩
def f_is_number : FS := fRet (fAnd (fCall F_is_whole [fVar 0]) (f3 dLe dLt (fC (.v (.int 0))) (fVar 0) (fVar 1)))
def F_is_number : List D → M D := bodyF f_is_number 2 2
theorem ok_is_number {fa : Addr} {fd : FuncData} (F : Fun K "is_number" "is_number" s_is_number fa fd) (gm : mg "is_number" = some (.ref fa)) (bd : Binds K fd ["value", "end"] []) (B : Bt K mg) (h_is_whole : Fn P w K mg base 1 "is_whole" F_is_whole) : FnAt P w K mg base 2 fa fd ["value", "end"] "is_number" F_is_number := by
  refine okF (k := 1) (N := ["value", "end"]) F sc_is_number gm bd fun LO cdv A outer s H E hr => ?_
  have scN := sc_is_number.nd
  exact dss_one (ds_ret flat_WD (de_and (de_call h_is_whole (takes_of rfl rfl rfl rfl) (hr.mono (by decide)) (da_cons (de_var 0) (da_nil))) (de_one (de_chain op_leD op_ltD (de_int) (de_var 0) (de_var 1)))))
/-! ### are_letters -/
abbrev s_are_letters : Stmt := topS 15
theorem sc_are_letters : FnScope ["value", "k"] ["value"] (defScope s_are_letters) := ⟨rfl, rfl, rfl, by decide +kernel, rfl, by decide +kernel, by decide +kernel⟩
def f_are_letters : FS := fSeq (fIfS (tOrF (tNotF (tst (fCall F_is_text [fVar 0]))) (tNotF (tst (f3 dLe dLe (fC (.v (.int 1))) (fB dLen [fVar 0]) (fC (.v (.int 26))))))) (fRet (fC (.v (.bl false)))) (fNx)) (fRet (fB dAll [fLc (fRng1 [f2 (dInt iSub) (fB dLen [fVar 0]) (fC (.v (.int 1)))]) (gN 1) (tYesF) (f2 dLt (f2 dIx (fVar 0) (fVar 1)) (f2 dIx (fVar 0) (f2 dAdd (fVar 1) (fC (.v (.int 1)))))) [1]]))
def F_are_letters : List D → M D := bodyF f_are_letters 1 2
theorem ok_are_letters {fa : Addr} {fd : FuncData} (F : Fun K "are_letters" "are_letters" s_are_letters fa fd) (gm : mg "are_letters" = some (.ref fa)) (bd : Binds K fd ["value"] []) (B : Bt K mg) (h_is_text : Fn P w K mg base 1 "is_text" F_is_text) : FnAt P w K mg base 2 fa fd ["value"] "are_letters" F_are_letters := by
  refine okF (k := 1) (N := ["value", "k"]) F sc_are_letters gm bd fun LO cdv A outer s H E hr => ?_
  have scN := sc_are_letters.nd
  exact dss_cons (ds_if flat_WD (dt_bool (dw_or (dt_not (dt_val (de_call h_is_text (takes_of rfl rfl rfl rfl) (hr.mono (by decide)) (da_cons (de_var 0) (da_nil))))) (dw_or1 (dt_not (dt_chain op_leD op_leD (de_int) (de_callB call_lenD B.n_len (da_cons (de_var 0) (da_nil))) (de_gc B.n_MOST_LETTERS trivial)))))) (dss_one (ds_ret flat_WD (de_bl))) (dss_nil)) (dss_one (ds_ret flat_WD (de_callB (call_allD rfl) B.n_all (da_cons (de_lcG finL_ok (own := [("k", 1)]) rfl scN (by rfl) (di_range1 B.n_range (da_cons (de_bin op_subD (de_callB call_lenD B.n_len (da_cons (de_var 0) (da_nil))) (de_int)) (da_nil))) (fun _ _ _ _ _ => dg_name scN) (fun _ _ _ _ _ => dts_nil) (fun _ _ _ _ _ => de_cmp op_ltD (de_ix ix_D (de_var 0) (de_var 1)) (de_ix ix_D (de_var 0) (de_bin op_addD (de_var 1) (de_int))))) (da_nil)))))
/-! ### is_state -/
abbrev s_is_state : Stmt := topS 16
theorem sc_is_state : FnScope ["value", "size", "many", "goal"] ["value", "size", "many"] (defScope s_is_state) := ⟨rfl, rfl, rfl, by decide +kernel, rfl, by decide +kernel, by decide +kernel⟩
def f_is_state : FS := fRet (fAnd (fB dIsI [fVar 0, fC (.v (.ty "tuple"))]) (fAnd (f2 dEq (fB dLen [fVar 0]) (fVar 1)) (fB dAll [fLc (fItm (fVar 0)) (gN 3) (tYesF) (fCall F_is_number [fVar 3, fVar 2]) [3]])))
def F_is_state : List D → M D := bodyF f_is_state 3 4
theorem ok_is_state {fa : Addr} {fd : FuncData} (F : Fun K "is_state" "is_state" s_is_state fa fd) (gm : mg "is_state" = some (.ref fa)) (bd : Binds K fd ["value", "size", "many"] []) (B : Bt K mg) (h_is_number : Fn P w K mg base 2 "is_number" F_is_number) : FnAt P w K mg base 3 fa fd ["value", "size", "many"] "is_state" F_is_state := by
  refine okF (k := 2) (N := ["value", "size", "many", "goal"]) F sc_is_state gm bd fun LO cdv A outer s H E hr => ?_
  have scN := sc_is_state.nd
  exact dss_one (ds_ret flat_WD (de_and (de_callB call_isID B.n_isinstance (da_cons (de_var 0) (da_cons (de_bty B.n_tuple) (da_nil)))) (de_and (de_cmp (op_eqDD hr) (de_callB call_lenD B.n_len (da_cons (de_var 0) (da_nil))) (de_var 1)) (de_one (de_callB (call_allD rfl) B.n_all (da_cons (de_lcG finL_ok (own := [("goal", 3)]) rfl scN (by rfl) (di_any (de_var 0)) (fun _ _ _ _ _ => dg_name scN) (fun _ _ _ _ _ => dts_nil) (fun _ _ _ _ _ => de_call h_is_number takes0 (hr.mono (by decide)) (da_cons (de_var 3) (da_cons (de_var 2) (da_nil))))) (da_nil)))))))
/-! ### is_machine -/
abbrev s_is_machine : Stmt := topS 17
theorem sc_is_machine : FnScope ["value", "word", "letters", "rows", "good", "row", "state", "k"] ["value"] (defScope s_is_machine) := ⟨rfl, rfl, rfl, by decide +kernel, rfl, by decide +kernel, by decide +kernel⟩
def f_is_machine : FS := fSeq (fIfS (tOrF (tNotF (tst (fB dIsI [fVar 0, fC (.v (.ty "tuple"))]))) (tOrF (tst (f2 dNe (fB dLen [fVar 0]) (fC (.v (.int 4))))) (tOrF (tNotF (tst (fB dIsI [f2 dIx (fVar 0) (fC (.v (.int 0))), fC (.v (.ty "str"))]))) (tst (f2 dNe (f2 dIx (fVar 0) (fC (.v (.int 0)))) (fC (.v (.str "machine")))))))) (fRet (fC (.v (.bl false)))) (fNx)) (fSeq (fAsg (fVar 0) (gT 4 (gsCons (gN 1) (gsCons (gN 2) (gsCons (gN 3) (gsCons (gN 4) (gsNil))))))) (fSeq (fIfS (tOrF (tNotF (tst (fCall F_are_letters [fVar 2]))) (tOrF (tNotF (tst (fB dIsI [fVar 3, fC (.v (.ty "tuple"))]))) (tNotF (tst (f3 dLe dLe (fC (.v (.int 1))) (fB dLen [fVar 3]) (fC (.v (.int 400)))))))) (fRet (fC (.v (.bl false)))) (fNx)) (fSeq (fIfS (tOrF (tNotF (tst (fB dAll [fLc (fItm (fVar 3)) (gN 5) (tYesF) (fCall F_is_state [fVar 5, fB dLen [fVar 2], fB dLen [fVar 3]]) [5]]))) (tNotF (tst (fB dIsI [fVar 4, fC (.v (.ty "tuple"))])))) (fRet (fC (.v (.bl false)))) (fNx)) (fSeq (fIfS (tNotF (tst (fB dAll [fLc (fItm (fVar 4)) (gN 6) (tYesF) (fCall F_is_number [fVar 6, fB dLen [fVar 3]]) [6]]))) (fRet (fC (.v (.bl false)))) (fNx)) (fRet (fB dAll [fLc (fRng1 [f2 (dInt iSub) (fB dLen [fVar 4]) (fC (.v (.int 1)))]) (gN 7) (tYesF) (f2 dLt (f2 dIx (fVar 4) (fVar 7)) (f2 dIx (fVar 4) (f2 dAdd (fVar 7) (fC (.v (.int 1)))))) [7]]))))))
def F_is_machine : List D → M D := bodyF f_is_machine 1 8
theorem ok_is_machine {fa : Addr} {fd : FuncData} (F : Fun K "is_machine" "is_machine" s_is_machine fa fd) (gm : mg "is_machine" = some (.ref fa)) (bd : Binds K fd ["value"] []) (B : Bt K mg) (h_are_letters : Fn P w K mg base 2 "are_letters" F_are_letters) (h_is_state : Fn P w K mg base 3 "is_state" F_is_state) (h_is_number : Fn P w K mg base 2 "is_number" F_is_number) : FnAt P w K mg base 4 fa fd ["value"] "is_machine" F_is_machine := by
  refine okF (k := 3) (N := ["value", "word", "letters", "rows", "good", "row", "state", "k"]) F sc_is_machine gm bd fun LO cdv A outer s H E hr => ?_
  have scN := sc_is_machine.nd
  exact dss_cons (ds_if flat_WD (dt_bool (dw_or (dt_not (dt_val (de_callB call_isID B.n_isinstance (da_cons (de_var 0) (da_cons (de_bty B.n_tuple) (da_nil)))))) (dw_or (dt_cmp (op_neDD hr) (de_callB call_lenD B.n_len (da_cons (de_var 0) (da_nil))) (de_int)) (dw_or (dt_not (dt_val (de_callB call_isID B.n_isinstance (da_cons (de_ix ix_D (de_var 0) (de_int)) (da_cons (de_bty B.n_str) (da_nil)))))) (dw_or1 (dt_cmp (op_neDD hr) (de_ix ix_D (de_var 0) (de_int)) (de_str))))))) (dss_one (ds_ret flat_WD (de_bl))) (dss_nil)) (dss_cons (ds_asg flat_WD (de_var 0) (dg_tup rfl (dgs_cons (dg_name scN) (dgs_cons (dg_name scN) (dgs_cons (dg_name scN) (dgs_cons (dg_name scN) (dgs_nil))))))) (dss_cons (ds_if flat_WD (dt_bool (dw_or (dt_not (dt_val (de_call h_are_letters (takes_of rfl rfl rfl rfl) (hr.mono (by decide)) (da_cons (de_var 2) (da_nil))))) (dw_or (dt_not (dt_val (de_callB call_isID B.n_isinstance (da_cons (de_var 3) (da_cons (de_bty B.n_tuple) (da_nil)))))) (dw_or1 (dt_not (dt_chain op_leD op_leD (de_int) (de_callB call_lenD B.n_len (da_cons (de_var 3) (da_nil))) (de_gc B.n_MOST_STATES trivial))))))) (dss_one (ds_ret flat_WD (de_bl))) (dss_nil)) (dss_cons (ds_if flat_WD (dt_bool (dw_or (dt_not (dt_val (de_callB (call_allD rfl) B.n_all (da_cons (de_lcG finL_ok (own := [("row", 5)]) rfl scN (by rfl) (di_any (de_var 3)) (fun _ _ _ _ _ => dg_name scN) (fun _ _ _ _ _ => dts_nil) (fun _ _ _ _ _ => de_call h_is_state takes0 (hr.mono (by decide)) (da_cons (de_var 5) (da_cons (de_callB call_lenD B.n_len (da_cons (de_var 2) (da_nil))) (da_cons (de_callB call_lenD B.n_len (da_cons (de_var 3) (da_nil))) (da_nil)))))) (da_nil))))) (dw_or1 (dt_not (dt_val (de_callB call_isID B.n_isinstance (da_cons (de_var 4) (da_cons (de_bty B.n_tuple) (da_nil))))))))) (dss_one (ds_ret flat_WD (de_bl))) (dss_nil)) (dss_cons (ds_if flat_WD (dt_not (dt_val (de_callB (call_allD rfl) B.n_all (da_cons (de_lcG finL_ok (own := [("state", 6)]) rfl scN (by rfl) (di_any (de_var 4)) (fun _ _ _ _ _ => dg_name scN) (fun _ _ _ _ _ => dts_nil) (fun _ _ _ _ _ => de_call h_is_number takes0 (hr.mono (by decide)) (da_cons (de_var 6) (da_cons (de_callB call_lenD B.n_len (da_cons (de_var 3) (da_nil))) (da_nil))))) (da_nil))))) (dss_one (ds_ret flat_WD (de_bl))) (dss_nil)) (dss_one (ds_ret flat_WD (de_callB (call_allD rfl) B.n_all (da_cons (de_lcG finL_ok (own := [("k", 7)]) rfl scN (by rfl) (di_range1 B.n_range (da_cons (de_bin op_subD (de_callB call_lenD B.n_len (da_cons (de_var 4) (da_nil))) (de_int)) (da_nil))) (fun _ _ _ _ _ => dg_name scN) (fun _ _ _ _ _ => dts_nil) (fun _ _ _ _ _ => de_cmp op_ltD (de_ix ix_D (de_var 4) (de_var 7)) (de_ix ix_D (de_var 4) (de_bin op_addD (de_var 7) (de_int))))) (da_nil)))))))))
/-! ### need_machine -/
abbrev s_need_machine : Stmt := topS 18
theorem sc_need_machine : FnScope ["machine"] ["machine"] (defScope s_need_machine) := ⟨rfl, rfl, rfl, by decide +kernel, rfl, by decide +kernel, by decide +kernel⟩
def f_need_machine : FS := fIfS (tNotF (tst (fCall F_is_machine [fVar 0]))) (fRaise "BadMachine") (fNx)
def F_need_machine : List D → M D := bodyF f_need_machine 1 1
theorem ok_need_machine {fa : Addr} {fd : FuncData} (F : Fun K "need_machine" "need_machine" s_need_machine fa fd) (gm : mg "need_machine" = some (.ref fa)) (bd : Binds K fd ["machine"] []) (B : Bt K mg) (h_is_machine : Fn P w K mg base 4 "is_machine" F_is_machine) : FnAt P w K mg base 5 fa fd ["machine"] "need_machine" F_need_machine := by
  refine okF (k := 4) (N := ["machine"]) F sc_need_machine gm bd fun LO cdv A outer s H E hr => ?_
  have scN := sc_need_machine.nd
  exact dss_one (ds_if flat_WD (dt_not (dt_val (de_call h_is_machine (takes_of rfl rfl rfl rfl) (hr.mono (by decide)) (da_cons (de_var 0) (da_nil))))) (dss_one (ds_raise B.n_BadMachine rfl (takes_of rfl rfl rfl rfl))) (dss_nil))
/-! ### need_text_of -/
abbrev s_need_text_of : Stmt := topS 19
theorem sc_need_text_of : FnScope ["machine", "text", "letter"] ["machine", "text"] (defScope s_need_text_of) := ⟨rfl, rfl, rfl, by decide +kernel, rfl, by decide +kernel, by decide +kernel⟩
def f_need_text_of : FS := fIfS (tOrF (tNotF (tst (fCall F_is_text [fVar 1]))) (tNotF (tst (fB dAll [fLc (fItm (fVar 1)) (gN 2) (tYesF) (f2 dIn (fVar 2) (f2 dIx (fVar 0) (fC (.v (.int 1))))) [2]])))) (fRaise "BadText") (fNx)
def F_need_text_of : List D → M D := bodyF f_need_text_of 2 3
theorem ok_need_text_of {fa : Addr} {fd : FuncData} (F : Fun K "need_text_of" "need_text_of" s_need_text_of fa fd) (gm : mg "need_text_of" = some (.ref fa)) (bd : Binds K fd ["machine", "text"] []) (B : Bt K mg) (h_is_text : Fn P w K mg base 1 "is_text" F_is_text) : FnAt P w K mg base 2 fa fd ["machine", "text"] "need_text_of" F_need_text_of := by
  refine okF (k := 1) (N := ["machine", "text", "letter"]) F sc_need_text_of gm bd fun LO cdv A outer s H E hr => ?_
  have scN := sc_need_text_of.nd
  exact dss_one (ds_if flat_WD (dt_bool (dw_or (dt_not (dt_val (de_call h_is_text (takes_of rfl rfl rfl rfl) (hr.mono (by decide)) (da_cons (de_var 1) (da_nil))))) (dw_or1 (dt_not (dt_val (de_callB (call_allD rfl) B.n_all (da_cons (de_lcG finL_ok (own := [("letter", 2)]) rfl scN (by rfl) (di_any (de_var 1)) (fun _ _ _ _ _ => dg_name scN) (fun _ _ _ _ _ => dts_nil) (fun _ _ _ _ _ => de_cmp op_inDD (de_var 2) (de_ix ix_D (de_var 0) (de_int)))) (da_nil)))))))) (dss_one (ds_raise B.n_BadText rfl (takes_of rfl rfl rfl rfl))) (dss_nil))
/-! ### led_from -/
abbrev s_led_from : Stmt := topS 20
theorem sc_led_from : FnScope ["machine", "state", "text", "letter"] ["machine", "state", "text"] (defScope s_led_from) := ⟨rfl, rfl, rfl, by decide +kernel, rfl, by decide +kernel, by decide +kernel⟩
def b_led_from_0 : FS := fSet 1 (f2 dIx (f2 dIx (f2 dIx (fVar 0) (fC (.v (.int 2)))) (fVar 1)) (fMs sIndex (f2 dIx (fVar 0) (fC (.v (.int 1)))) [fVar 3]))
def f_led_from : FS := fSeq (fFor (fItm (fVar 2)) (gN 3) b_led_from_0) (fRet (fVar 1))
def F_led_from : List D → M D := bodyF f_led_from 3 4
theorem ok_led_from {fa : Addr} {fd : FuncData} (F : Fun K "led_from" "led_from" s_led_from fa fd) (gm : mg "led_from" = some (.ref fa)) (bd : Binds K fd ["machine", "state", "text"] []) (B : Bt K mg)  : FnAt P w K mg base 1 fa fd ["machine", "state", "text"] "led_from" F_led_from := by
  refine okF (k := 0) (N := ["machine", "state", "text", "letter"]) F sc_led_from gm bd fun LO cdv A outer s H E hr => ?_
  have scN := sc_led_from.nd
  exact dss_cons (ds_for flat_WD (passes_of rfl) rfl (di_any (de_var 2)) (dg_name scN) (dss_one (ds_set flat_WD scN (de_ix ix_D (de_ix ix_D (de_ix ix_D (de_var 0) (de_int)) (de_var 1)) (de_ms1 PySem.F.slot_str_index PySem.F.type_str_index mt_indexD (de_ix ix_D (de_var 0) (de_int)) (de_var 3)))))) (dss_one (ds_ret flat_WD (de_var 1)))
/-! ### lets -/
abbrev s_lets : Stmt := topS 21
theorem sc_lets : FnScope ["machine", "text"] ["machine", "text"] (defScope s_lets) := ⟨rfl, rfl, rfl, by decide +kernel, rfl, by decide +kernel, by decide +kernel⟩
def f_lets : FS := fSeq (fDrop (fCall F_need_machine [fVar 0])) (fSeq (fDrop (fCall F_need_text_of [fVar 0, fVar 1])) (fRet (f2 dIn (fCall F_led_from [fVar 0, fC (.v (.int 0)), fVar 1]) (f2 dIx (fVar 0) (fC (.v (.int 3)))))))
def F_lets : List D → M D := bodyF f_lets 2 2
theorem ok_lets {fa : Addr} {fd : FuncData} (F : Fun K "lets" "lets" s_lets fa fd) (gm : mg "lets" = some (.ref fa)) (bd : Binds K fd ["machine", "text"] []) (B : Bt K mg) (h_need_machine : Fn P w K mg base 5 "need_machine" F_need_machine) (h_need_text_of : Fn P w K mg base 2 "need_text_of" F_need_text_of) (h_led_from : Fn P w K mg base 1 "led_from" F_led_from) : FnAt P w K mg base 6 fa fd ["machine", "text"] "lets" F_lets := by
  refine okF (k := 5) (N := ["machine", "text"]) F sc_lets gm bd fun LO cdv A outer s H E hr => ?_
  have scN := sc_lets.nd
  exact dss_cons (ds_expr flat_WD (de_call h_need_machine (takes_of rfl rfl rfl rfl) (hr.mono (by decide)) (da_cons (de_var 0) (da_nil)))) (dss_cons (ds_expr flat_WD (de_call h_need_text_of (takes_of rfl rfl rfl rfl) (hr.mono (by decide)) (da_cons (de_var 0) (da_cons (de_var 1) (da_nil))))) (dss_one (ds_ret flat_WD (de_cmp op_inDD (de_call h_led_from (takes_of rfl rfl rfl rfl) (hr.mono (by decide)) (da_cons (de_var 0) (da_cons (de_int) (da_cons (de_var 1) (da_nil))))) (de_ix ix_D (de_var 0) (de_int))))))
/-! ### led_on -/
abbrev s_led_on : Stmt := topS 22
theorem sc_led_on : FnScope ["machine", "text", "state"] ["machine", "text"] (defScope s_led_on) := ⟨rfl, rfl, rfl, by decide +kernel, rfl, by decide +kernel, by decide +kernel⟩
def f_led_on : FS := fSeq (fDrop (fCall F_need_machine [fVar 0])) (fSeq (fDrop (fCall F_need_text_of [fVar 0, fVar 1])) (fRet (fLcM (fRng1 [fB dLen [f2 dIx (fVar 0) (fC (.v (.int 2)))]]) (gN 2) (tYesF) (fCall F_led_from [fVar 0, fVar 2, fVar 1]) [2])))
def F_led_on : List D → M D := bodyF f_led_on 2 3
theorem ok_led_on {fa : Addr} {fd : FuncData} (F : Fun K "led_on" "led_on" s_led_on fa fd) (gm : mg "led_on" = some (.ref fa)) (bd : Binds K fd ["machine", "text"] []) (B : Bt K mg) (h_need_machine : Fn P w K mg base 5 "need_machine" F_need_machine) (h_need_text_of : Fn P w K mg base 2 "need_text_of" F_need_text_of) (h_led_from : Fn P w K mg base 1 "led_from" F_led_from) : FnAt P w K mg base 6 fa fd ["machine", "text"] "led_on" F_led_on := by
  refine okF (k := 5) (N := ["machine", "text", "state"]) F sc_led_on gm bd fun LO cdv A outer s H E hr => ?_
  have scN := sc_led_on.nd
  exact dss_cons (ds_expr flat_WD (de_call h_need_machine (takes_of rfl rfl rfl rfl) (hr.mono (by decide)) (da_cons (de_var 0) (da_nil)))) (dss_cons (ds_expr flat_WD (de_call h_need_text_of (takes_of rfl rfl rfl rfl) (hr.mono (by decide)) (da_cons (de_var 0) (da_cons (de_var 1) (da_nil))))) (dss_one (ds_ret flat_WD (de_lcG finM_ok (own := [("state", 2)]) rfl scN (by rfl) (di_range1 B.n_range (da_cons (de_callB call_lenD B.n_len (da_cons (de_ix ix_D (de_var 0) (de_int)) (da_nil))) (da_nil))) (fun _ _ _ _ _ => dg_name scN) (fun _ _ _ _ _ => dts_nil) (fun _ _ _ _ _ => de_call h_led_from takes0 (hr.mono (by decide)) (da_cons (de_var 0) (da_cons (de_var 2) (da_cons (de_var 1) (da_nil)))))))))
/-! ### texts_of_length -/
abbrev s_texts_of_length : Stmt := topS 23
theorem sc_texts_of_length : FnScope ["machine", "length", "counts", "turn", "more", "state", "row", "goal"] ["machine", "length"] (defScope s_texts_of_length) := ⟨rfl, rfl, rfl, by decide +kernel, rfl, by decide +kernel, by decide +kernel⟩
def b_texts_of_length_0 : FS := fPutI (fVar 4) (fVar 7) (f2 dAdd (f2 dIx (fVar 4) (fVar 7)) (f2 dIx (fVar 2) (fVar 5)))
def b_texts_of_length_1 : FS := fFor (fItm (fVar 6)) (gN 7) b_texts_of_length_0
def b_texts_of_length_2 : FS := fSeq (fSet 4 (fMulM (fLst [fC (.v (.int 0))]) (fB dLen [fVar 2]))) (fSeq (fFor (fEnum (f2 dIx (fVar 0) (fC (.v (.int 2))))) (gT 2 (gsCons (gN 5) (gsCons (gN 6) (gsNil)))) b_texts_of_length_1) (fSet 2 (fVar 4)))
def f_texts_of_length : FS := fSeq (fDrop (fCall F_need_machine [fVar 0])) (fSeq (fIfS (tOrF (tNotF (tst (fCall F_is_whole [fVar 1]))) (tNotF (tst (f3 dLe dLe (fC (.v (.int 0))) (fVar 1) (fC (.v (.int 1000))))))) (fRaise "BadNumber") (fNx)) (fSeq (fSet 2 (f2 dAdd (fLst [fC (.v (.int 1))]) (f2 dMul (fLst [fC (.v (.int 0))]) (f2 (dInt iSub) (fB dLen [f2 dIx (fVar 0) (fC (.v (.int 2)))]) (fC (.v (.int 1))))))) (fSeq (fFor (fRng1 [fVar 1]) (gN 3) b_texts_of_length_2) (fRet (fB dSum [fLc (fItm (f2 dIx (fVar 0) (fC (.v (.int 3))))) (gN 5) (tYesF) (f2 dIx (fVar 2) (fVar 5)) [5]])))))
def F_texts_of_length : List D → M D := closeF (bodyF f_texts_of_length 2 8)
theorem ok_texts_of_length {fa : Addr} {fd : FuncData} (F : Fun K "texts_of_length" "texts_of_length" s_texts_of_length fa fd) (gm : mg "texts_of_length" = some (.ref fa)) (bd : Binds K fd ["machine", "length"] []) (B : Bt K mg) (h_need_machine : Fn P w K mg base 5 "need_machine" F_need_machine) (h_is_whole : Fn P w K mg base 1 "is_whole" F_is_whole) : FnAt P w K mg base 6 fa fd ["machine", "length"] "texts_of_length" F_texts_of_length := by
  refine FnAt.close (okF (k := 5) (N := ["machine", "length", "counts", "turn", "more", "state", "row", "goal"]) F sc_texts_of_length gm bd fun LO cdv A outer s H E hr => ?_)
  have scN := sc_texts_of_length.nd
  exact dss_cons (ds_expr flat_WD (de_call h_need_machine (takes_of rfl rfl rfl rfl) (hr.mono (by decide)) (da_cons (de_var 0) (da_nil)))) (dss_cons (ds_if flat_WD (dt_bool (dw_or (dt_not (dt_val (de_call h_is_whole (takes_of rfl rfl rfl rfl) (hr.mono (by decide)) (da_cons (de_var 1) (da_nil))))) (dw_or1 (dt_not (dt_chain op_leD op_leD (de_int) (de_var 1) (de_gc B.n_MOST_LENGTH trivial)))))) (dss_one (ds_raise B.n_BadNumber rfl (takes_of rfl rfl rfl rfl))) (dss_nil)) (dss_cons (ds_set flat_WD scN (de_bin op_addD (de_lst (da_cons (de_int) (da_nil))) (de_bin op_mulD (de_lst (da_cons (de_int) (da_nil))) (de_bin op_subD (de_callB call_lenD B.n_len (da_cons (de_ix ix_D (de_var 0) (de_int)) (da_nil))) (de_int))))) (dss_cons (ds_for flat_WD (passes_of rfl) rfl (di_range1 B.n_range (da_cons (de_var 1) (da_nil))) (dg_name scN) (dss_cons (ds_set flat_WD scN (de_mulM (de_lst (da_cons (de_int) (da_nil))) (de_callB call_lenD B.n_len (da_cons (de_var 2) (da_nil))))) (dss_cons (ds_for flat_WD (passes_of rfl) rfl (di_enum B.n_enumerate (de_ix ix_D (de_var 0) (de_int))) (dg_tup rfl (dgs_cons (dg_name scN) (dgs_cons (dg_name scN) (dgs_nil)))) (dss_one (ds_for flat_WD (passes_of rfl) rfl (di_any (de_var 6)) (dg_name scN) (dss_one (ds_putI flat_WD (de_var 4) (de_var 7) (de_bin op_addD (de_ix ix_D (de_var 4) (de_var 7)) (de_ix ix_D (de_var 2) (de_var 5)))))))) (dss_one (ds_set flat_WD scN (de_var 4)))))) (dss_one (ds_ret flat_WD (de_callB (call_sumD rfl) B.n_sum (da_cons (de_lcG finL_ok (own := [("state", 5)]) rfl scN (by rfl) (di_any (de_ix ix_D (de_var 0) (de_int))) (fun _ _ _ _ _ => dg_name scN) (fun _ _ _ _ _ => dts_nil) (fun _ _ _ _ _ => de_ix ix_D (de_var 2) (de_var 5))) (da_nil))))))))
/-! ### _law_begun -/
abbrev s__law_begun : Stmt := topS 25
theorem sc__law_begun : FnScope ["_law_script", "_law_great", "_law_cell"] ["_law_script"] (defScope s__law_begun) := ⟨rfl, rfl, rfl, by decide +kernel, rfl, by decide +kernel, by decide +kernel⟩
def f__law_begun : FS := fSeq (fSet 1 (fLcM (fItm (fVar 0)) (gN 2) (tst (f2 dGe (fB dAbs [fVar 2]) (f2 (dInt iPow) (fC (.v (.int 10))) (fC (.v (.int 18)))))) (f2 (dInt iSub) (fB dAbs [fVar 2]) (f2 (dInt iPow) (fC (.v (.int 10))) (fC (.v (.int 18))))) [2])) (fRet (fDic ["great", "cells", "rest", "turn"] [fVar 1, fLc (fItm (fVar 0)) (gN 2) (tYesF) (fB dAbs [fVar 2]) [2], fC (.v (.int 0)), fC (.v (.int 0))]))
def F__law_begun : List D → M D := bodyF f__law_begun 1 3
theorem ok__law_begun {fa : Addr} {fd : FuncData} (F : Fun K "_law_begun" "_law_begun" s__law_begun fa fd) (gm : mg "_law_begun" = some (.ref fa)) (bd : Binds K fd ["_law_script"] []) (B : Bt K mg)  : FnAt P w K mg base 1 fa fd ["_law_script"] "_law_begun" F__law_begun := by
  refine okF (k := 0) (N := ["_law_script", "_law_great", "_law_cell"]) F sc__law_begun gm bd fun LO cdv A outer s H E hr => ?_
  have scN := sc__law_begun.nd
  exact dss_cons (ds_setLcG finM_ok flat_WD (own := [("_law_cell", 2)]) rfl scN (by rfl) (di_any (de_var 0)) (fun _ _ _ _ _ => dg_name scN) (fun _ _ _ _ _ => dts_one (dt_cmp op_geD (de_callB call_absD B.n_abs (da_cons (de_var 2) (da_nil))) (de_bin op_powD (de_int) (de_int)))) (fun _ _ _ _ _ => de_bin op_subD (de_callB call_absD B.n_abs (da_cons (de_var 2) (da_nil))) (de_bin op_powD (de_int) (de_int)))) (dss_one (ds_ret flat_WD (de_dic (dp_cons (de_var 1) (dp_cons (de_lcG finL_ok (own := [("_law_cell", 2)]) rfl scN (by rfl) (di_any (de_var 0)) (fun _ _ _ _ _ => dg_name scN) (fun _ _ _ _ _ => dts_nil) (fun _ _ _ _ _ => de_callB call_absD B.n_abs (da_cons (de_var 2) (da_nil)))) (dp_cons (de_int) (dp_cons (de_int) (dp_nil))))))))
/-! ### _law_blended -/
abbrev s__law_blended : Stmt := topS 26
theorem sc__law_blended : FnScope ["_law_state", "_law_turn", "_law_found", "_law_prime", "_law_blend", "_law_cell"] ["_law_state"] (defScope s__law_blended) := ⟨rfl, rfl, rfl, by decide +kernel, rfl, by decide +kernel, by decide +kernel⟩
def b__law_blended_0 : FS := fSet 4 (f2 (dInt iMod) (fB dIntOf [f2 dAdd (f2 dAdd (f2 dMul (fVar 4) (fC (.v (.int 69621)))) (fVar 5)) (fVar 1)]) (fVar 3))
def b__law_blended_1 : FS := fSeq (fSet 4 (f2 dAdd (f2 dMul (fC (.v (.int 48271))) (fVar 1)) (f2 (dInt iFdiv) (fVar 3) (fC (.v (.int 53)))))) (fSeq (fFor (fItm (fGet "cells" (fVar 0))) (gN 5) b__law_blended_0) (fSet 2 (f2 dAdd (f2 dMul (fVar 2) (fC (.v (.int 2147483647)))) (f2 (dInt iMod) (fB dIntOf [f2 (dInt iPow) (fVar 4) (fC (.v (.int 5)))]) (fVar 3)))))
def f__law_blended : FS := fSeq (fPar 1 2 [f2 dAdd (fGet "turn" (fVar 0)) (fC (.v (.int 1))), fC (.v (.int 0))]) (fSeq (fPut "turn" (fVar 0) (fVar 1)) (fSeq (fFor (fItm (fLst [fC (.v (.int 2147483579)), fC (.v (.int 2147483629)), fC (.v (.int 2147483563))])) (gN 3) b__law_blended_1) (fRet (fVar 2))))
def F__law_blended : List D → M D := bodyF f__law_blended 1 6
theorem ok__law_blended {fa : Addr} {fd : FuncData} (F : Fun K "_law_blended" "_law_blended" s__law_blended fa fd) (gm : mg "_law_blended" = some (.ref fa)) (bd : Binds K fd ["_law_state"] []) (B : Bt K mg)  : FnAt P w K mg base 1 fa fd ["_law_state"] "_law_blended" F__law_blended := by
  refine okF (k := 0) (N := ["_law_state", "_law_turn", "_law_found", "_law_prime", "_law_blend", "_law_cell"]) F sc__law_blended gm bd fun LO cdv A outer s H E hr => ?_
  have scN := sc__law_blended.nd
  exact dss_cons (ds_par flat_WD rfl scN (da_cons (de_bin op_addD (de_get hr (de_var 0)) (de_int)) (da_cons (de_int) (da_nil)))) (dss_cons (ds_put flat_WD hr (de_var 0) (de_var 1)) (dss_cons (ds_for flat_WD (passes_of rfl) rfl (di_any (de_lst (da_cons (de_int) (da_cons (de_int) (da_cons (de_int) (da_nil)))))) (dg_name scN) (dss_cons (ds_set flat_WD scN (de_bin op_addD (de_bin op_mulD (de_int) (de_var 1)) (de_bin op_fdivD (de_var 3) (de_int)))) (dss_cons (ds_for flat_WD (passes_of rfl) rfl (di_any (de_get hr (de_var 0))) (dg_name scN) (dss_one (ds_set flat_WD scN (de_bin op_modD (de_callTy call_intD B.n_int (da_cons (de_bin op_addD (de_bin op_addD (de_bin op_mulD (de_var 4) (de_int)) (de_var 5)) (de_var 1)) (da_nil))) (de_var 3))))) (dss_one (ds_set flat_WD scN (de_bin op_addD (de_bin op_mulD (de_var 2) (de_int)) (de_bin op_modD (de_callTy call_intD B.n_int (da_cons (de_bin op_powD (de_var 4) (de_int)) (da_nil))) (de_var 3)))))))) (dss_one (ds_ret flat_WD (de_var 2)))))
/-! ### _law_draw -/
abbrev s__law_draw : Stmt := topS 27
theorem sc__law_draw : FnScope ["_law_state", "_law_room", "_law_found"] ["_law_state", "_law_room"] (defScope s__law_draw) := ⟨rfl, rfl, rfl, by decide +kernel, rfl, by decide +kernel, by decide +kernel⟩
def f__law_draw : FS := fSeq (fIfS (tst (f2 dEq (fGet "rest" (fVar 0)) (fC (.v (.int 0))))) (fPut "rest" (fVar 0) (fIf (tst (f2 dNe (fGet "great" (fVar 0)) (fLst []))) (fMl lPop (fGet "great" (fVar 0)) [fC (.v (.int 0))]) (fCall F__law_blended [fVar 0]))) (fNx)) (fSeq (fSet 2 (f2 (dInt iMod) (fB dIntOf [fGet "rest" (fVar 0)]) (fVar 1))) (fSeq (fPut "rest" (fVar 0) (f2 (dInt iFdiv) (fGet "rest" (fVar 0)) (fVar 1))) (fRet (fVar 2))))
def F__law_draw : List D → M D := bodyF f__law_draw 2 3
theorem ok__law_draw {fa : Addr} {fd : FuncData} (F : Fun K "_law_draw" "_law_draw" s__law_draw fa fd) (gm : mg "_law_draw" = some (.ref fa)) (bd : Binds K fd ["_law_state", "_law_room"] []) (B : Bt K mg) (h__law_blended : Fn P w K mg base 1 "_law_blended" F__law_blended) : FnAt P w K mg base 2 fa fd ["_law_state", "_law_room"] "_law_draw" F__law_draw := by
  refine okF (k := 1) (N := ["_law_state", "_law_room", "_law_found"]) F sc__law_draw gm bd fun LO cdv A outer s H E hr => ?_
  have scN := sc__law_draw.nd
  exact dss_cons (ds_if flat_WD (dt_cmp (op_eqDD hr) (de_get hr (de_var 0)) (de_int)) (dss_one (ds_put flat_WD hr (de_var 0) (de_if (dt_cmp (op_neDD hr) (de_get hr (de_var 0)) (de_lst (da_nil))) (de_ml PySem.F.slot_list_pop PySem.F.type_list_pop mt_popD (de_get hr (de_var 0)) (da_cons (de_int) da_nil)) (de_call h__law_blended (takes_of rfl rfl rfl rfl) (hr.mono (by decide)) (da_cons (de_var 0) (da_nil)))))) (dss_nil)) (dss_cons (ds_set flat_WD scN (de_bin op_modD (de_callTy call_intD B.n_int (da_cons (de_get hr (de_var 0)) (da_nil))) (de_var 1))) (dss_cons (ds_put flat_WD hr (de_var 0) (de_bin op_fdivD (de_get hr (de_var 0)) (de_var 1))) (dss_one (ds_ret flat_WD (de_var 2)))))
/-! ### _law_pick -/
abbrev s__law_pick : Stmt := topS 28
theorem sc__law_pick : FnScope ["_law_state", "_law_some"] ["_law_state", "_law_some"] (defScope s__law_pick) := ⟨rfl, rfl, rfl, by decide +kernel, rfl, by decide +kernel, by decide +kernel⟩
def f__law_pick : FS := fRet (f2 dIx (fVar 1) (fCall F__law_draw [fVar 0, fB dLen [fVar 1]]))
def F__law_pick : List D → M D := bodyF f__law_pick 2 2
theorem ok__law_pick {fa : Addr} {fd : FuncData} (F : Fun K "_law_pick" "_law_pick" s__law_pick fa fd) (gm : mg "_law_pick" = some (.ref fa)) (bd : Binds K fd ["_law_state", "_law_some"] []) (B : Bt K mg) (h__law_draw : Fn P w K mg base 2 "_law_draw" F__law_draw) : FnAt P w K mg base 3 fa fd ["_law_state", "_law_some"] "_law_pick" F__law_pick := by
  refine okF (k := 2) (N := ["_law_state", "_law_some"]) F sc__law_pick gm bd fun LO cdv A outer s H E hr => ?_
  have scN := sc__law_pick.nd
  exact dss_one (ds_ret flat_WD (de_ix ix_D (de_var 1) (de_call h__law_draw (takes_of rfl rfl rfl rfl) (hr.mono (by decide)) (da_cons (de_var 0) (da_cons (de_callB call_lenD B.n_len (da_cons (de_var 1) (da_nil))) (da_nil))))))
/-! ### _law_is_truth -/
abbrev s__law_is_truth : Stmt := topS 30
theorem sc__law_is_truth : FnScope ["_law_found", "_law_due"] ["_law_found", "_law_due"] (defScope s__law_is_truth) := ⟨rfl, rfl, rfl, by decide +kernel, rfl, by decide +kernel, by decide +kernel⟩
def f__law_is_truth : FS := fRet (fIf (tst (fVar 1)) (f2 dIs (fVar 0) (fC (.v (.bl true)))) (f2 dIs (fVar 0) (fC (.v (.bl false)))))
def F__law_is_truth : List D → M D := bodyF f__law_is_truth 2 2
theorem ok__law_is_truth {fa : Addr} {fd : FuncData} (F : Fun K "_law_is_truth" "_law_is_truth" s__law_is_truth fa fd) (gm : mg "_law_is_truth" = some (.ref fa)) (bd : Binds K fd ["_law_found", "_law_due"] []) (B : Bt K mg)  : FnAt P w K mg base 1 fa fd ["_law_found", "_law_due"] "_law_is_truth" F__law_is_truth := by
  refine okF (k := 0) (N := ["_law_found", "_law_due"]) F sc__law_is_truth gm bd fun LO cdv A outer s H E hr => ?_
  have scN := sc__law_is_truth.nd
  exact dss_one (ds_ret flat_WD (de_if (dt_val (de_var 1)) (de_cmp op_isDD (de_var 0) (de_bl)) (de_cmp op_isDD (de_var 0) (de_bl))))
/-! ### _law_oh_same -/
abbrev s__law_oh_same : Stmt := topS 31
theorem sc__law_oh_same : FnScope ["_law_found", "_law_due"] ["_law_found", "_law_due"] (defScope s__law_oh_same) := ⟨rfl, rfl, rfl, by decide +kernel, rfl, by decide +kernel, by decide +kernel⟩
def f__law_oh_same : FS := fRet (f2 dEq (fB dReprG [fVar 0]) (fB dReprG [fVar 1]))
def F__law_oh_same : List D → M D := bodyF f__law_oh_same 2 2
theorem ok__law_oh_same {fa : Addr} {fd : FuncData} (F : Fun K "_law_oh_same" "_law_oh_same" s__law_oh_same fa fd) (gm : mg "_law_oh_same" = some (.ref fa)) (bd : Binds K fd ["_law_found", "_law_due"] []) (B : Bt K mg)  : FnAt P w K mg base 1 fa fd ["_law_found", "_law_due"] "_law_oh_same" F__law_oh_same := by
  refine okF (k := 0) (N := ["_law_found", "_law_due"]) F sc__law_oh_same gm bd fun LO cdv A outer s H E hr => ?_
  have scN := sc__law_oh_same.nd
  exact dss_one (ds_ret flat_WD (de_cmp (op_eqDD hr) (de_callB (call_reprG hr B.n_dig) B.n_repr (da_cons (de_var 0) (da_nil))) (de_callB (call_reprG hr B.n_dig) B.n_repr (da_cons (de_var 1) (da_nil)))))
/-! ### _law_oh_at -/
abbrev s__law_oh_at : Stmt := topS 32
theorem sc__law_oh_at : FnScope ["_law_thing", "_law_path", "_law_k"] ["_law_thing", "_law_path"] (defScope s__law_oh_at) := ⟨rfl, rfl, rfl, by decide +kernel, rfl, by decide +kernel, by decide +kernel⟩
def b__law_oh_at_0 : FS := fSet 0 (f2 dIx (fVar 0) (fVar 2))
def f__law_oh_at : FS := fSeq (fFor (fItm (fVar 1)) (gN 2) b__law_oh_at_0) (fRet (fVar 0))
def F__law_oh_at : List D → M D := bodyF f__law_oh_at 2 3
theorem ok__law_oh_at {fa : Addr} {fd : FuncData} (F : Fun K "_law_oh_at" "_law_oh_at" s__law_oh_at fa fd) (gm : mg "_law_oh_at" = some (.ref fa)) (bd : Binds K fd ["_law_thing", "_law_path"] []) (B : Bt K mg)  : FnAt P w K mg base 1 fa fd ["_law_thing", "_law_path"] "_law_oh_at" F__law_oh_at := by
  refine okF (k := 0) (N := ["_law_thing", "_law_path", "_law_k"]) F sc__law_oh_at gm bd fun LO cdv A outer s H E hr => ?_
  have scN := sc__law_oh_at.nd
  exact dss_cons (ds_for flat_WD (passes_of rfl) rfl (di_any (de_var 1)) (dg_name scN) (dss_one (ds_set flat_WD scN (de_ix ix_D (de_var 0) (de_var 2))))) (dss_one (ds_ret flat_WD (de_var 0)))
/-! ### _law_oh_put -/
abbrev s__law_oh_put : Stmt := topS 33
theorem sc__law_oh_put : FnScope ["_law_thing", "_law_path", "_law_part"] ["_law_thing", "_law_path", "_law_part"] (defScope s__law_oh_put) := ⟨rfl, rfl, rfl, by decide +kernel, rfl, by decide +kernel, by decide +kernel⟩
def f__law_oh_put (R : List D → M D) : FS := fSeq (fIfS (tst (f2 dEq (fVar 1) (fTup []))) (fRet (fVar 2)) (fNx)) (fRet (f2 dAdd (f2 dAdd (fSl (fVar 0) (fNoP) (fPart (f2 dIx (fVar 1) (fC (.v (.int 0)))))) (fTup [fCall R [f2 dIx (fVar 0) (f2 dIx (fVar 1) (fC (.v (.int 0)))), fSl (fVar 1) (fPart (fC (.v (.int 1)))) (fNoP), fVar 2]])) (fSl (fVar 0) (fPart (f2 dAdd (f2 dIx (fVar 1) (fC (.v (.int 0)))) (fC (.v (.int 1))))) (fNoP))))
def F__law_oh_put : Nat → List D → M D
  | 0 => fun _ _ => none
  | j + 1 => bodyF (f__law_oh_put (F__law_oh_put j)) 3 3
theorem ok__law_oh_put {fa : Addr} {fd : FuncData} (F : Fun K "_law_oh_put" "_law_oh_put" s__law_oh_put fa fd) (gm : mg "_law_oh_put" = some (.ref fa)) (bd : Binds K fd ["_law_thing", "_law_path", "_law_part"] []) (B : Bt K mg)  : ∀ j, FnAt P w K mg base (0 + j) fa fd ["_law_thing", "_law_path", "_law_part"] "_law_oh_put" (F__law_oh_put j)
  | 0 => fn_none F gm bd
  | j + 1 => by
    have h__law_oh_put := (ok__law_oh_put F gm bd B  j).fn
    refine okF (k := 0 + j) (N := ["_law_thing", "_law_path", "_law_part"]) F sc__law_oh_put gm bd fun LO cdv A outer s H E hr => ?_
    have scN := sc__law_oh_put.nd
    exact dss_cons (ds_if flat_WD (dt_cmp (op_eqDD hr) (de_var 1) (de_tup (da_nil))) (dss_one (ds_ret flat_WD (de_var 2))) (dss_nil)) (dss_one (ds_ret flat_WD (de_bin op_addD (de_bin op_addD (de_slice (de_var 0) (do_none) (do_some (de_ix ix_D (de_var 1) (de_int)))) (de_tup (da_cons (de_call h__law_oh_put (takes_of rfl rfl rfl rfl) (hr.mono (by omega)) (da_cons (de_ix ix_D (de_var 0) (de_ix ix_D (de_var 1) (de_int))) (da_cons (de_slice (de_var 1) (do_some (de_int)) (do_none)) (da_cons (de_var 2) (da_nil))))) (da_nil)))) (de_slice (de_var 0) (do_some (de_bin op_addD (de_ix ix_D (de_var 1) (de_int)) (de_int))) (do_none)))))
/-! ### _law_oh_spots -/
abbrev s__law_oh_spots : Stmt := topS 35
theorem sc__law_oh_spots : FnScope ["_law_thing", "_law_path", "_law_found", "_law_k"] ["_law_thing", "_law_path"] (defScope s__law_oh_spots) := ⟨rfl, rfl, rfl, by decide +kernel, rfl, by decide +kernel, by decide +kernel⟩
def b__law_oh_spots_0 (R : List D → M D) : FS := fSet 2 (f2 dAdd (fVar 2) (fCall R [f2 dIx (fVar 0) (fVar 3), f2 dAdd (fVar 1) (fTup [fVar 3])]))
def f__law_oh_spots (R : List D → M D) : FS := fSeq (fSet 2 (fLst [fVar 1])) (fSeq (fFor (fRng1 [fIf (tst (fB dIsI [fVar 0, fC (.v (.ty "tuple"))])) (fB dLen [fVar 0]) (fC (.v (.int 0)))]) (gN 3) (b__law_oh_spots_0 R)) (fRet (fVar 2)))
def F__law_oh_spots : Nat → List D → M D
  | 0 => fun _ _ => none
  | j + 1 => bodyF (f__law_oh_spots (F__law_oh_spots j)) 2 4
theorem ok__law_oh_spots {fa : Addr} {fd : FuncData} (F : Fun K "_law_oh_spots" "_law_oh_spots" s__law_oh_spots fa fd) (gm : mg "_law_oh_spots" = some (.ref fa)) (bd : Binds K fd ["_law_thing", "_law_path"] []) (B : Bt K mg)  : ∀ j, FnAt P w K mg base (0 + j) fa fd ["_law_thing", "_law_path"] "_law_oh_spots" (F__law_oh_spots j)
  | 0 => fn_none F gm bd
  | j + 1 => by
    have h__law_oh_spots := (ok__law_oh_spots F gm bd B  j).fn
    refine okF (k := 0 + j) (N := ["_law_thing", "_law_path", "_law_found", "_law_k"]) F sc__law_oh_spots gm bd fun LO cdv A outer s H E hr => ?_
    have scN := sc__law_oh_spots.nd
    exact dss_cons (ds_set flat_WD scN (de_lst (da_cons (de_var 1) (da_nil)))) (dss_cons (ds_for flat_WD (passes_of rfl) rfl (di_range1 B.n_range (da_cons (de_if (dt_val (de_callB call_isID B.n_isinstance (da_cons (de_var 0) (da_cons (de_bty B.n_tuple) (da_nil))))) (de_callB call_lenD B.n_len (da_cons (de_var 0) (da_nil))) (de_int)) (da_nil))) (dg_name scN) (dss_one (ds_set flat_WD scN (de_bin op_addD (de_var 2) (de_call h__law_oh_spots (takes_of rfl rfl rfl rfl) (hr.mono (by omega)) (da_cons (de_ix ix_D (de_var 0) (de_var 3)) (da_cons (de_bin op_addD (de_var 1) (de_tup (da_cons (de_var 3) (da_nil)))) (da_nil)))))))) (dss_one (ds_ret flat_WD (de_var 2))))
/-! ### _law_oh_bent -/
abbrev s__law_oh_bent : Stmt := topS 34
theorem sc__law_oh_bent : FnScope ["_law_state", "_law_thing", "_law_spots", "_law_path", "_law_part", "_law_some"] ["_law_state", "_law_thing"] (defScope s__law_oh_bent) := ⟨rfl, rfl, rfl, by decide +kernel, rfl, by decide +kernel, by decide +kernel⟩
def f__law_oh_bent : FS := fSeq (fSet 2 (fCall (F__law_oh_spots 12) [fVar 1, fTup []])) (fSeq (fSet 3 (fCall F__law_pick [fVar 0, fSl (fVar 2) (fPart (fC (.v (.int 1)))) (fNoP)])) (fSeq (fSet 4 (fCall F__law_oh_at [fVar 1, fVar 3])) (fSeq (fSet 5 (fLst [fC (.v .non), fTup [], fC (.v (.int 0)), fC (.v (.int 1)), fC (.v (.bl true)), fC (.v (.str "name")), fTup [fC (.v (.str "text"))], fTup [fC (.v (.str "end"))], fC (.v (.str "ab")), fLst [], fCall F__law_oh_at [fVar 1, fCall F__law_pick [fVar 0, fVar 2]]])) (fSeq (fIfS (tst (fB dIsI [fVar 4, fC (.v (.ty "int"))])) (fSet 5 (fLst [f2 dAdd (fVar 4) (fC (.v (.int 1))), f2 (dInt iSub) (fVar 4) (fC (.v (.int 1))), fB dStrOf [fVar 4], fC (.v .non), f2 (dInt iSub) (fC (.v (.int 0))) (fVar 4), fC (.v (.bl true))])) (fIfS (tst (fB dIsI [fVar 4, fC (.v (.ty "str"))])) (fSet 5 (f2 dAdd (fVar 5) (fLst [f2 dAdd (fVar 4) (fC (.v (.str "a"))), fSl (fVar 4) (fPart (fC (.v (.int 1)))) (fNoP), fMs sUpper (fVar 4) [], fC (.v (.str "fun")), fC (.v (.str "x")), fC (.v (.str "call"))]))) (fIfS (tAndF (tst (fB dIsI [fVar 4, fC (.v (.ty "tuple"))])) (tst (f2 dNe (fVar 4) (fTup [])))) (fSet 5 (f2 dAdd (fVar 5) (f2 dMul (fLst [fSl (fVar 4) (fPart (fC (.v (.int 1)))) (fNoP), fSl (fVar 4) (fNoP) (fPart (fNeg (fC (.v (.int 1))))), fRev (fVar 4), f2 dAdd (fVar 4) (fSl (fVar 4) (fPart (fNeg (fC (.v (.int 1))))) (fNoP)), fB dList [fVar 4], f2 dAdd (fVar 4) (fTup [fC (.v .non)])]) (fC (.v (.int 2)))))) (fNx)))) (fRet (fCall (F__law_oh_put 12) [fVar 1, fVar 3, fCall F__law_pick [fVar 0, fVar 5]]))))))
def F__law_oh_bent : List D → M D := bodyF f__law_oh_bent 2 6
theorem ok__law_oh_bent {fa : Addr} {fd : FuncData} (F : Fun K "_law_oh_bent" "_law_oh_bent" s__law_oh_bent fa fd) (gm : mg "_law_oh_bent" = some (.ref fa)) (bd : Binds K fd ["_law_state", "_law_thing"] []) (B : Bt K mg) (h__law_oh_spots : Fn P w K mg base 12 "_law_oh_spots" (F__law_oh_spots 12)) (h__law_pick : Fn P w K mg base 3 "_law_pick" F__law_pick) (h__law_oh_at : Fn P w K mg base 1 "_law_oh_at" F__law_oh_at) (h__law_oh_put : Fn P w K mg base 12 "_law_oh_put" (F__law_oh_put 12)) : FnAt P w K mg base 13 fa fd ["_law_state", "_law_thing"] "_law_oh_bent" F__law_oh_bent := by
  refine okF (k := 12) (N := ["_law_state", "_law_thing", "_law_spots", "_law_path", "_law_part", "_law_some"]) F sc__law_oh_bent gm bd fun LO cdv A outer s H E hr => ?_
  have scN := sc__law_oh_bent.nd
  exact dss_cons (ds_set flat_WD scN (de_call h__law_oh_spots (takes_of rfl rfl rfl rfl) (hr.mono (by decide)) (da_cons (de_var 1) (da_cons (de_tup (da_nil)) (da_nil))))) (dss_cons (ds_set flat_WD scN (de_call h__law_pick (takes_of rfl rfl rfl rfl) (hr.mono (by decide)) (da_cons (de_var 0) (da_cons (de_slice (de_var 2) (do_some (de_int)) (do_none)) (da_nil))))) (dss_cons (ds_set flat_WD scN (de_call h__law_oh_at (takes_of rfl rfl rfl rfl) (hr.mono (by decide)) (da_cons (de_var 1) (da_cons (de_var 3) (da_nil))))) (dss_cons (ds_set flat_WD scN (de_lst (da_cons (de_non) (da_cons (de_tup (da_nil)) (da_cons (de_int) (da_cons (de_int) (da_cons (de_bl) (da_cons (de_str) (da_cons (de_tup (da_cons (de_str) (da_nil))) (da_cons (de_tup (da_cons (de_str) (da_nil))) (da_cons (de_str) (da_cons (de_lst (da_nil)) (da_cons (de_call h__law_oh_at (takes_of rfl rfl rfl rfl) (hr.mono (by decide)) (da_cons (de_var 1) (da_cons (de_call h__law_pick (takes_of rfl rfl rfl rfl) (hr.mono (by decide)) (da_cons (de_var 0) (da_cons (de_var 2) (da_nil)))) (da_nil)))) (da_nil)))))))))))))) (dss_cons (ds_if flat_WD (dt_val (de_callB call_isID B.n_isinstance (da_cons (de_var 4) (da_cons (de_bty B.n_int) (da_nil))))) (dss_one (ds_set flat_WD scN (de_lst (da_cons (de_bin op_addD (de_var 4) (de_int)) (da_cons (de_bin op_subD (de_var 4) (de_int)) (da_cons (de_callTy call_strD B.n_str (da_cons (de_var 4) (da_nil))) (da_cons (de_non) (da_cons (de_bin op_subD (de_int) (de_var 4)) (da_cons (de_bl) (da_nil)))))))))) (dss_one (ds_if flat_WD (dt_val (de_callB call_isID B.n_isinstance (da_cons (de_var 4) (da_cons (de_bty B.n_str) (da_nil))))) (dss_one (ds_set flat_WD scN (de_bin op_addD (de_var 5) (de_lst (da_cons (de_bin op_addD (de_var 4) (de_str)) (da_cons (de_slice (de_var 4) (do_some (de_int)) (do_none)) (da_cons (de_ms0 PySem.F.slot_str_upper PySem.F.type_str_upper mt_upperD (de_var 4)) (da_cons (de_str) (da_cons (de_str) (da_cons (de_str) (da_nil))))))))))) (dss_one (ds_if flat_WD (dt_bool (dw_and (dt_val (de_callB call_isID B.n_isinstance (da_cons (de_var 4) (da_cons (de_bty B.n_tuple) (da_nil))))) (dw_and1 (dt_cmp (op_neDD hr) (de_var 4) (de_tup (da_nil)))))) (dss_one (ds_set flat_WD scN (de_bin op_addD (de_var 5) (de_bin op_mulD (de_lst (da_cons (de_slice (de_var 4) (do_some (de_int)) (do_none)) (da_cons (de_slice (de_var 4) (do_none) (do_some (de_neg (de_int)))) (da_cons (de_rev (de_var 4)) (da_cons (de_bin op_addD (de_var 4) (de_slice (de_var 4) (do_some (de_neg (de_int))) (do_none))) (da_cons (de_callTy (call_listD rfl) B.n_list (da_cons (de_var 4) (da_nil))) (da_cons (de_bin op_addD (de_var 4) (de_tup (da_cons (de_non) (da_nil)))) (da_nil)))))))) (de_int))))) (dss_nil)))))) (dss_one (ds_ret flat_WD (de_call h__law_oh_put (takes_of rfl rfl rfl rfl) (hr.mono (by decide)) (da_cons (de_var 1) (da_cons (de_var 3) (da_cons (de_call h__law_pick (takes_of rfl rfl rfl rfl) (hr.mono (by decide)) (da_cons (de_var 0) (da_cons (de_var 5) (da_nil)))) (da_nil)))))))))))
/-! ### _law_oh_whole -/
abbrev s__law_oh_whole : Stmt := topS 36
theorem sc__law_oh_whole : FnScope ["_law_thing"] ["_law_thing"] (defScope s__law_oh_whole) := ⟨rfl, rfl, rfl, by decide +kernel, rfl, by decide +kernel, by decide +kernel⟩
def f__law_oh_whole : FS := fRet (fAnd (fB dIsI [fVar 0, fC (.v (.ty "int"))]) (fNot (fB dIsI [fVar 0, fC (.v (.ty "bool"))])))
def F__law_oh_whole : List D → M D := bodyF f__law_oh_whole 1 1
theorem ok__law_oh_whole {fa : Addr} {fd : FuncData} (F : Fun K "_law_oh_whole" "_law_oh_whole" s__law_oh_whole fa fd) (gm : mg "_law_oh_whole" = some (.ref fa)) (bd : Binds K fd ["_law_thing"] []) (B : Bt K mg)  : FnAt P w K mg base 1 fa fd ["_law_thing"] "_law_oh_whole" F__law_oh_whole := by
  refine okF (k := 0) (N := ["_law_thing"]) F sc__law_oh_whole gm bd fun LO cdv A outer s H E hr => ?_
  have scN := sc__law_oh_whole.nd
  exact dss_one (ds_ret flat_WD (de_and (de_callB call_isID B.n_isinstance (da_cons (de_var 0) (da_cons (de_bty B.n_int) (da_nil)))) (de_one (de_not (de_callB call_isID B.n_isinstance (da_cons (de_var 0) (da_cons (de_bty B.n_bool) (da_nil))))))))
/-! ### _law_oh_is_word -/
abbrev s__law_oh_is_word : Stmt := topS 37
theorem sc__law_oh_is_word : FnScope ["_law_thing", "_law_sign"] ["_law_thing"] (defScope s__law_oh_is_word) := ⟨rfl, rfl, rfl, by decide +kernel, rfl, by decide +kernel, by decide +kernel⟩
def f__law_oh_is_word : FS := fSeq (fIfS (tNotF (tst (fB dIsI [fVar 0, fC (.v (.ty "str"))]))) (fRet (fC (.v (.bl false)))) (fNx)) (fRet (f2 dEq (fLc (fItm (fVar 0)) (gN 1) (tst (f2 dNotIn (fVar 1) (fC (.v (.str "abcdefghijklmnopqrstuvwxyz"))))) (fVar 1) [1]) (fLst [])))
def F__law_oh_is_word : List D → M D := bodyF f__law_oh_is_word 1 2
theorem ok__law_oh_is_word {fa : Addr} {fd : FuncData} (F : Fun K "_law_oh_is_word" "_law_oh_is_word" s__law_oh_is_word fa fd) (gm : mg "_law_oh_is_word" = some (.ref fa)) (bd : Binds K fd ["_law_thing"] []) (B : Bt K mg)  : FnAt P w K mg base 1 fa fd ["_law_thing"] "_law_oh_is_word" F__law_oh_is_word := by
  refine okF (k := 0) (N := ["_law_thing", "_law_sign"]) F sc__law_oh_is_word gm bd fun LO cdv A outer s H E hr => ?_
  have scN := sc__law_oh_is_word.nd
  exact dss_cons (ds_if flat_WD (dt_not (dt_val (de_callB call_isID B.n_isinstance (da_cons (de_var 0) (da_cons (de_bty B.n_str) (da_nil)))))) (dss_one (ds_ret flat_WD (de_bl))) (dss_nil)) (dss_one (ds_ret flat_WD (de_cmp (op_eqDD hr) (de_lcG finL_ok (own := [("_law_sign", 1)]) rfl scN (by rfl) (di_any (de_var 0)) (fun _ _ _ _ _ => dg_name scN) (fun _ _ _ _ _ => dts_one (dt_cmp op_notInDD (de_var 1) (de_str))) (fun _ _ _ _ _ => de_var 1)) (de_lst (da_nil)))))
/-! ### _law_jn_texts -/
abbrev s__law_jn_texts : Stmt := topS 38
theorem sc__law_jn_texts : FnScope ["_law_letters_here", "_law_most", "_law_found", "_law_line", "_law_lap", "_law_more", "_law_word", "_law_letter"] ["_law_letters_here", "_law_most"] (defScope s__law_jn_texts) := ⟨rfl, rfl, rfl, by decide +kernel, rfl, by decide +kernel, by decide +kernel⟩
def b__law_jn_texts_0 : FS := fSet 5 (f2 dAdd (fVar 5) (fLc (fItm (fVar 0)) (gN 7) (tYesF) (f2 dAdd (fVar 6) (fVar 7)) [7]))
def b__law_jn_texts_1 : FS := fSeq (fSet 5 (fLst [])) (fSeq (fFor (fItm (fVar 3)) (gN 6) b__law_jn_texts_0) (fPar 2 3 [f2 dAdd (fVar 2) (fVar 5), fVar 5]))
def f__law_jn_texts : FS := fSeq (fPar 2 3 [fLst [fC (.v (.str ""))], fLst [fC (.v (.str ""))]]) (fSeq (fFor (fRng1 [fVar 1]) (gN 4) b__law_jn_texts_1) (fRet (fVar 2)))
def F__law_jn_texts : List D → M D := bodyF f__law_jn_texts 2 8
theorem ok__law_jn_texts {fa : Addr} {fd : FuncData} (F : Fun K "_law_jn_texts" "_law_jn_texts" s__law_jn_texts fa fd) (gm : mg "_law_jn_texts" = some (.ref fa)) (bd : Binds K fd ["_law_letters_here", "_law_most"] []) (B : Bt K mg)  : FnAt P w K mg base 1 fa fd ["_law_letters_here", "_law_most"] "_law_jn_texts" F__law_jn_texts := by
  refine okF (k := 0) (N := ["_law_letters_here", "_law_most", "_law_found", "_law_line", "_law_lap", "_law_more", "_law_word", "_law_letter"]) F sc__law_jn_texts gm bd fun LO cdv A outer s H E hr => ?_
  have scN := sc__law_jn_texts.nd
  exact dss_cons (ds_par flat_WD rfl scN (da_cons (de_lst (da_cons (de_str) (da_nil))) (da_cons (de_lst (da_cons (de_str) (da_nil))) (da_nil)))) (dss_cons (ds_for flat_WD (passes_of rfl) rfl (di_range1 B.n_range (da_cons (de_var 1) (da_nil))) (dg_name scN) (dss_cons (ds_set flat_WD scN (de_lst (da_nil))) (dss_cons (ds_for flat_WD (passes_of rfl) rfl (di_any (de_var 3)) (dg_name scN) (dss_one (ds_set flat_WD scN (de_bin op_addD (de_var 5) (de_lcG finL_ok (own := [("_law_letter", 7)]) rfl scN (by rfl) (di_any (de_var 0)) (fun _ _ _ _ _ => dg_name scN) (fun _ _ _ _ _ => dts_nil) (fun _ _ _ _ _ => de_bin op_addD (de_var 6) (de_var 7))))))) (dss_one (ds_par flat_WD rfl scN (da_cons (de_bin op_addD (de_var 2) (de_var 5)) (da_cons (de_var 5) (da_nil)))))))) (dss_one (ds_ret flat_WD (de_var 2))))
/-! ### _law_jn_some -/
abbrev s__law_jn_some : Stmt := topS 39
theorem sc__law_jn_some : FnScope ["_law_state", "_law_letters_here", "_law_many", "_law_most", "_law_found", "_law_lap", "_law_turn"] ["_law_state", "_law_letters_here", "_law_many", "_law_most"] (defScope s__law_jn_some) := ⟨rfl, rfl, rfl, by decide +kernel, rfl, by decide +kernel, by decide +kernel⟩
def b__law_jn_some_0 : FS := fDrop (fMl lApp (fVar 4) [fMs sJoin (fC (.v (.str ""))) [fLc (fRng1 [fCall F__law_draw [fVar 0, f2 dAdd (fVar 3) (fC (.v (.int 1)))]]) (gN 6) (tYesF) (fCall F__law_pick [fVar 0, fB dList [fVar 1]]) [6]]])
def f__law_jn_some : FS := fSeq (fSet 4 (fLstM [])) (fSeq (fFor (fRng1 [fVar 2]) (gN 5) b__law_jn_some_0) (fRet (fVar 4)))
def F__law_jn_some : List D → M D := closeF (bodyF f__law_jn_some 4 7)
theorem ok__law_jn_some {fa : Addr} {fd : FuncData} (F : Fun K "_law_jn_some" "_law_jn_some" s__law_jn_some fa fd) (gm : mg "_law_jn_some" = some (.ref fa)) (bd : Binds K fd ["_law_state", "_law_letters_here", "_law_many", "_law_most"] []) (B : Bt K mg) (h__law_draw : Fn P w K mg base 2 "_law_draw" F__law_draw) (h__law_pick : Fn P w K mg base 3 "_law_pick" F__law_pick) : FnAt P w K mg base 4 fa fd ["_law_state", "_law_letters_here", "_law_many", "_law_most"] "_law_jn_some" F__law_jn_some := by
  refine FnAt.close (okF (k := 3) (N := ["_law_state", "_law_letters_here", "_law_many", "_law_most", "_law_found", "_law_lap", "_law_turn"]) F sc__law_jn_some gm bd fun LO cdv A outer s H E hr => ?_)
  have scN := sc__law_jn_some.nd
  exact dss_cons (ds_set flat_WD scN (de_lstM (da_nil))) (dss_cons (ds_for flat_WD (passes_of rfl) rfl (di_range1 B.n_range (da_cons (de_var 2) (da_nil))) (dg_name scN) (dss_one (ds_expr flat_WD (de_ml PySem.F.slot_list_append PySem.F.type_list_append mt_appD (de_var 4) (da_cons (de_ms1 PySem.F.slot_str_join PySem.F.type_str_join mt_joinD (de_str) (de_lcG finL_ok (own := [("_law_turn", 6)]) rfl scN (by rfl) (di_range1 B.n_range (da_cons (de_call h__law_draw (takes_of rfl rfl rfl rfl) (hr.mono (by decide)) (da_cons (de_var 0) (da_cons (de_bin op_addD (de_var 3) (de_int)) (da_nil)))) (da_nil))) (fun _ _ _ _ _ => dg_name scN) (fun _ _ _ _ _ => dts_nil) (fun _ _ _ _ _ => de_call h__law_pick takes0 (hr.mono (by decide)) (da_cons (de_var 0) (da_cons (de_callTy (call_listD rfl) B.n_list (da_cons (de_var 1) (da_nil))) (da_nil)))))) da_nil))))) (dss_one (ds_ret flat_WD (de_var 4))))
/-! ### _law_jn_machine -/
abbrev s__law_jn_machine : Stmt := topS 40
theorem sc__law_jn_machine : FnScope ["_law_state", "_law_letters_here", "_law_most", "_law_many", "_law_rows", "_law_good", "_law_lap", "_law_letter", "_law_number"] ["_law_state", "_law_letters_here", "_law_most"] (defScope s__law_jn_machine) := ⟨rfl, rfl, rfl, by decide +kernel, rfl, by decide +kernel, by decide +kernel⟩
def f__law_jn_machine : FS := fSeq (fSet 3 (f2 dAdd (fC (.v (.int 1))) (fCall F__law_draw [fVar 0, fVar 2]))) (fSeq (fSet 4 (fLc (fRng1 [fVar 3]) (gN 6) (tYesF) (fB dTuple [fLc (fItm (fVar 1)) (gN 7) (tYesF) (fCall F__law_draw [fVar 0, fVar 3]) [7]]) [6])) (fSeq (fSet 5 (fB dTuple [fLc (fRng1 [fVar 3]) (gN 8) (tst (f2 dEq (fCall F__law_draw [fVar 0, fC (.v (.int 2))]) (fC (.v (.int 0))))) (fVar 8) [8]])) (fRet (fTup [fC (.v (.str "machine")), fVar 1, fB dTuple [fVar 4], fVar 5]))))
def F__law_jn_machine : List D → M D := bodyF f__law_jn_machine 3 9
theorem ok__law_jn_machine {fa : Addr} {fd : FuncData} (F : Fun K "_law_jn_machine" "_law_jn_machine" s__law_jn_machine fa fd) (gm : mg "_law_jn_machine" = some (.ref fa)) (bd : Binds K fd ["_law_state", "_law_letters_here", "_law_most"] []) (B : Bt K mg) (h__law_draw : Fn P w K mg base 2 "_law_draw" F__law_draw) : FnAt P w K mg base 3 fa fd ["_law_state", "_law_letters_here", "_law_most"] "_law_jn_machine" F__law_jn_machine := by
  refine okF (k := 2) (N := ["_law_state", "_law_letters_here", "_law_most", "_law_many", "_law_rows", "_law_good", "_law_lap", "_law_letter", "_law_number"]) F sc__law_jn_machine gm bd fun LO cdv A outer s H E hr => ?_
  have scN := sc__law_jn_machine.nd
  exact dss_cons (ds_set flat_WD scN (de_bin op_addD (de_int) (de_call h__law_draw (takes_of rfl rfl rfl rfl) (hr.mono (by decide)) (da_cons (de_var 0) (da_cons (de_var 2) (da_nil)))))) (dss_cons (ds_setLcG finL_ok flat_WD (own := [("_law_lap", 6)]) rfl scN (by rfl) (di_range1 B.n_range (da_cons (de_var 3) (da_nil))) (fun _ _ _ _ _ => dg_name scN) (fun _ _ _ _ _ => dts_nil) (fun _ _ _ _ _ => de_callTy call_tupleD B.n_tuple (da_cons (de_lcG finL_ok (own := [("_law_letter", 7)]) rfl scN (by rfl) (di_any (de_var 1)) (fun _ _ _ _ _ => dg_name scN) (fun _ _ _ _ _ => dts_nil) (fun _ _ _ _ _ => de_call h__law_draw takes0 (hr.mono (by decide)) (da_cons (de_var 0) (da_cons (de_var 3) (da_nil))))) (da_nil)))) (dss_cons (ds_set flat_WD scN (de_callTy call_tupleD B.n_tuple (da_cons (de_lcG finL_ok (own := [("_law_number", 8)]) rfl scN (by rfl) (di_range1 B.n_range (da_cons (de_var 3) (da_nil))) (fun _ _ _ _ _ => dg_name scN) (fun _ _ _ _ _ => dts_one (dt_cmp (op_eqDD hr) (de_call h__law_draw takes0 (hr.mono (by decide)) (da_cons (de_var 0) (da_cons (de_int) (da_nil)))) (de_int))) (fun _ _ _ _ _ => de_var 8)) (da_nil)))) (dss_one (ds_ret flat_WD (de_tup (da_cons (de_str) (da_cons (de_var 1) (da_cons (de_callTy call_tupleD B.n_tuple (da_cons (de_var 4) (da_nil))) (da_cons (de_var 5) (da_nil))))))))))
/-! ### _law_jn_led -/
abbrev s__law_jn_led : Stmt := topS 41
theorem sc__law_jn_led : FnScope ["_law_machine", "_law_at", "_law_word", "_law_letter"] ["_law_machine", "_law_at", "_law_word"] (defScope s__law_jn_led) := ⟨rfl, rfl, rfl, by decide +kernel, rfl, by decide +kernel, by decide +kernel⟩
def b__law_jn_led_0 : FS := fSet 1 (f2 dIx (f2 dIx (f2 dIx (fVar 0) (fC (.v (.int 2)))) (fVar 1)) (fMs sIndex (f2 dIx (fVar 0) (fC (.v (.int 1)))) [fVar 3]))
def f__law_jn_led : FS := fSeq (fFor (fItm (fVar 2)) (gN 3) b__law_jn_led_0) (fRet (fVar 1))
def F__law_jn_led : List D → M D := bodyF f__law_jn_led 3 4
theorem ok__law_jn_led {fa : Addr} {fd : FuncData} (F : Fun K "_law_jn_led" "_law_jn_led" s__law_jn_led fa fd) (gm : mg "_law_jn_led" = some (.ref fa)) (bd : Binds K fd ["_law_machine", "_law_at", "_law_word"] []) (B : Bt K mg)  : FnAt P w K mg base 1 fa fd ["_law_machine", "_law_at", "_law_word"] "_law_jn_led" F__law_jn_led := by
  refine okF (k := 0) (N := ["_law_machine", "_law_at", "_law_word", "_law_letter"]) F sc__law_jn_led gm bd fun LO cdv A outer s H E hr => ?_
  have scN := sc__law_jn_led.nd
  exact dss_cons (ds_for flat_WD (passes_of rfl) rfl (di_any (de_var 2)) (dg_name scN) (dss_one (ds_set flat_WD scN (de_ix ix_D (de_ix ix_D (de_ix ix_D (de_var 0) (de_int)) (de_var 1)) (de_ms1 PySem.F.slot_str_index PySem.F.type_str_index mt_indexD (de_ix ix_D (de_var 0) (de_int)) (de_var 3)))))) (dss_one (ds_ret flat_WD (de_var 1)))
/-! ### _law_jn_lets -/
abbrev s__law_jn_lets : Stmt := topS 42
theorem sc__law_jn_lets : FnScope ["_law_machine", "_law_word"] ["_law_machine", "_law_word"] (defScope s__law_jn_lets) := ⟨rfl, rfl, rfl, by decide +kernel, rfl, by decide +kernel, by decide +kernel⟩
def f__law_jn_lets : FS := fRet (f2 dIn (fCall F__law_jn_led [fVar 0, fC (.v (.int 0)), fVar 1]) (f2 dIx (fVar 0) (fC (.v (.int 3)))))
def F__law_jn_lets : List D → M D := bodyF f__law_jn_lets 2 2
theorem ok__law_jn_lets {fa : Addr} {fd : FuncData} (F : Fun K "_law_jn_lets" "_law_jn_lets" s__law_jn_lets fa fd) (gm : mg "_law_jn_lets" = some (.ref fa)) (bd : Binds K fd ["_law_machine", "_law_word"] []) (B : Bt K mg) (h__law_jn_led : Fn P w K mg base 1 "_law_jn_led" F__law_jn_led) : FnAt P w K mg base 2 fa fd ["_law_machine", "_law_word"] "_law_jn_lets" F__law_jn_lets := by
  refine okF (k := 1) (N := ["_law_machine", "_law_word"]) F sc__law_jn_lets gm bd fun LO cdv A outer s H E hr => ?_
  have scN := sc__law_jn_lets.nd
  exact dss_one (ds_ret flat_WD (de_cmp op_inDD (de_call h__law_jn_led (takes_of rfl rfl rfl rfl) (hr.mono (by decide)) (da_cons (de_var 0) (da_cons (de_int) (da_cons (de_var 1) (da_nil))))) (de_ix ix_D (de_var 0) (de_int))))
/-! ### _law_is_machine -/
abbrev s__law_is_machine : Stmt := topS 43
theorem sc__law_is_machine : FnScope ["_law_thing", "_law_word", "_law_some", "_law_rows", "_law_good", "_law_row", "_law_goal"] ["_law_thing"] (defScope s__law_is_machine) := ⟨rfl, rfl, rfl, by decide +kernel, rfl, by decide +kernel, by decide +kernel⟩
def b__law_is_machine_0 : FS := fSeq (fIfS (tOrF (tNotF (tst (fB dIsI [fVar 5, fC (.v (.ty "tuple"))]))) (tst (f2 dNe (fB dLen [fVar 5]) (fB dLen [fVar 2])))) (fRet (fC (.v (.bl false)))) (fNx)) (fIfS (tst (f2 dNe (fLc (fItm (fVar 5)) (gN 6) (tOrF (tNotF (tst (fCall F__law_oh_whole [fVar 6]))) (tNotF (tst (f3 dLe dLt (fC (.v (.int 0))) (fVar 6) (fB dLen [fVar 3]))))) (fC (.v (.int 1))) [6]) (fLst []))) (fRet (fC (.v (.bl false)))) (fNx))
def f__law_is_machine : FS := fSeq (fIfS (tOrF (tNotF (tst (fB dIsI [fVar 0, fC (.v (.ty "tuple"))]))) (tOrF (tst (f2 dNe (fB dLen [fVar 0]) (fC (.v (.int 4))))) (tOrF (tNotF (tst (fB dIsI [f2 dIx (fVar 0) (fC (.v (.int 0))), fC (.v (.ty "str"))]))) (tst (f2 dNe (f2 dIx (fVar 0) (fC (.v (.int 0)))) (fC (.v (.str "machine")))))))) (fRet (fC (.v (.bl false)))) (fNx)) (fSeq (fAsg (fVar 0) (gT 4 (gsCons (gN 1) (gsCons (gN 2) (gsCons (gN 3) (gsCons (gN 4) (gsNil))))))) (fSeq (fIfS (tOrF (tNotF (tst (fCall F__law_oh_is_word [fVar 2]))) (tOrF (tNotF (tst (f3 dLe dLe (fC (.v (.int 1))) (fB dLen [fVar 2]) (fC (.v (.int 26)))))) (tst (f2 dNe (fMs sJoin (fC (.v (.str ""))) [fSortSetG (fVar 2)]) (fVar 2))))) (fRet (fC (.v (.bl false)))) (fNx)) (fSeq (fIfS (tOrF (tNotF (tst (fB dIsI [fVar 3, fC (.v (.ty "tuple"))]))) (tOrF (tNotF (tst (f3 dLe dLe (fC (.v (.int 1))) (fB dLen [fVar 3]) (fC (.v (.int 400)))))) (tNotF (tst (fB dIsI [fVar 4, fC (.v (.ty "tuple"))]))))) (fRet (fC (.v (.bl false)))) (fNx)) (fSeq (fFor (fItm (fVar 3)) (gN 5) b__law_is_machine_0) (fSeq (fIfS (tst (f2 dNe (fLc (fItm (fVar 4)) (gN 6) (tOrF (tNotF (tst (fCall F__law_oh_whole [fVar 6]))) (tNotF (tst (f3 dLe dLt (fC (.v (.int 0))) (fVar 6) (fB dLen [fVar 3]))))) (fC (.v (.int 1))) [6]) (fLst []))) (fRet (fC (.v (.bl false)))) (fNx)) (fRet (f2 dEq (fB dList [fVar 4]) (fSortSetG (fVar 4)))))))))
def F__law_is_machine : List D → M D := bodyF f__law_is_machine 1 7
theorem ok__law_is_machine {fa : Addr} {fd : FuncData} (F : Fun K "_law_is_machine" "_law_is_machine" s__law_is_machine fa fd) (gm : mg "_law_is_machine" = some (.ref fa)) (bd : Binds K fd ["_law_thing"] []) (B : Bt K mg) (h__law_oh_is_word : Fn P w K mg base 1 "_law_oh_is_word" F__law_oh_is_word) (h__law_oh_whole : Fn P w K mg base 1 "_law_oh_whole" F__law_oh_whole) : FnAt P w K mg base 2 fa fd ["_law_thing"] "_law_is_machine" F__law_is_machine := by
  refine okF (k := 1) (N := ["_law_thing", "_law_word", "_law_some", "_law_rows", "_law_good", "_law_row", "_law_goal"]) F sc__law_is_machine gm bd fun LO cdv A outer s H E hr => ?_
  have scN := sc__law_is_machine.nd
  exact dss_cons (ds_if flat_WD (dt_bool (dw_or (dt_not (dt_val (de_callB call_isID B.n_isinstance (da_cons (de_var 0) (da_cons (de_bty B.n_tuple) (da_nil)))))) (dw_or (dt_cmp (op_neDD hr) (de_callB call_lenD B.n_len (da_cons (de_var 0) (da_nil))) (de_int)) (dw_or (dt_not (dt_val (de_callB call_isID B.n_isinstance (da_cons (de_ix ix_D (de_var 0) (de_int)) (da_cons (de_bty B.n_str) (da_nil)))))) (dw_or1 (dt_cmp (op_neDD hr) (de_ix ix_D (de_var 0) (de_int)) (de_str))))))) (dss_one (ds_ret flat_WD (de_bl))) (dss_nil)) (dss_cons (ds_asg flat_WD (de_var 0) (dg_tup rfl (dgs_cons (dg_name scN) (dgs_cons (dg_name scN) (dgs_cons (dg_name scN) (dgs_cons (dg_name scN) (dgs_nil))))))) (dss_cons (ds_if flat_WD (dt_bool (dw_or (dt_not (dt_val (de_call h__law_oh_is_word (takes_of rfl rfl rfl rfl) (hr.mono (by decide)) (da_cons (de_var 2) (da_nil))))) (dw_or (dt_not (dt_chain op_leD op_leD (de_int) (de_callB call_lenD B.n_len (da_cons (de_var 2) (da_nil))) (de_int))) (dw_or1 (dt_cmp (op_neDD hr) (de_ms1 PySem.F.slot_str_join PySem.F.type_str_join mt_joinD (de_str) (de_sortSetG B.n_sorted B.n_set rfl (de_var 2))) (de_var 2)))))) (dss_one (ds_ret flat_WD (de_bl))) (dss_nil)) (dss_cons (ds_if flat_WD (dt_bool (dw_or (dt_not (dt_val (de_callB call_isID B.n_isinstance (da_cons (de_var 3) (da_cons (de_bty B.n_tuple) (da_nil)))))) (dw_or (dt_not (dt_chain op_leD op_leD (de_int) (de_callB call_lenD B.n_len (da_cons (de_var 3) (da_nil))) (de_int))) (dw_or1 (dt_not (dt_val (de_callB call_isID B.n_isinstance (da_cons (de_var 4) (da_cons (de_bty B.n_tuple) (da_nil)))))))))) (dss_one (ds_ret flat_WD (de_bl))) (dss_nil)) (dss_cons (ds_for flat_WD (passes_of rfl) rfl (di_any (de_var 3)) (dg_name scN) (dss_cons (ds_if flat_WD (dt_bool (dw_or (dt_not (dt_val (de_callB call_isID B.n_isinstance (da_cons (de_var 5) (da_cons (de_bty B.n_tuple) (da_nil)))))) (dw_or1 (dt_cmp (op_neDD hr) (de_callB call_lenD B.n_len (da_cons (de_var 5) (da_nil))) (de_callB call_lenD B.n_len (da_cons (de_var 2) (da_nil))))))) (dss_one (ds_ret flat_WD (de_bl))) (dss_nil)) (dss_one (ds_if flat_WD (dt_cmp (op_neDD hr) (de_lcG finL_ok (own := [("_law_goal", 6)]) rfl scN (by rfl) (di_any (de_var 5)) (fun _ _ _ _ _ => dg_name scN) (fun _ _ _ _ _ => dts_one (dt_bool (dw_or (dt_not (dt_val (de_call h__law_oh_whole takes0 (hr.mono (by decide)) (da_cons (de_var 6) (da_nil))))) (dw_or1 (dt_not (dt_chain op_leD op_ltD (de_int) (de_var 6) (de_callB call_lenD B.n_len (da_cons (de_var 3) (da_nil))))))))) (fun _ _ _ _ _ => de_int)) (de_lst (da_nil))) (dss_one (ds_ret flat_WD (de_bl))) (dss_nil))))) (dss_cons (ds_if flat_WD (dt_cmp (op_neDD hr) (de_lcG finL_ok (own := [("_law_goal", 6)]) rfl scN (by rfl) (di_any (de_var 4)) (fun _ _ _ _ _ => dg_name scN) (fun _ _ _ _ _ => dts_one (dt_bool (dw_or (dt_not (dt_val (de_call h__law_oh_whole takes0 (hr.mono (by decide)) (da_cons (de_var 6) (da_nil))))) (dw_or1 (dt_not (dt_chain op_leD op_ltD (de_int) (de_var 6) (de_callB call_lenD B.n_len (da_cons (de_var 3) (da_nil))))))))) (fun _ _ _ _ _ => de_int)) (de_lst (da_nil))) (dss_one (ds_ret flat_WD (de_bl))) (dss_nil)) (dss_one (ds_ret flat_WD (de_cmp (op_eqDD hr) (de_callTy (call_listD rfl) B.n_list (da_cons (de_var 4) (da_nil))) (de_sortSetG B.n_sorted B.n_set rfl (de_var 4))))))))))
/-! ### _law_count -/
abbrev s__law_count : Stmt := topS 44
theorem sc__law_count : FnScope ["_law_machine", "_law_length", "_law_counts", "_law_lap", "_law_more", "_law_at", "_law_row", "_law_goal"] ["_law_machine", "_law_length"] (defScope s__law_count) := ⟨rfl, rfl, rfl, by decide +kernel, rfl, by decide +kernel, by decide +kernel⟩
def b__law_count_0 : FS := fPutI (fVar 4) (fVar 7) (f2 dAdd (f2 dIx (fVar 4) (fVar 7)) (f2 dIx (fVar 2) (fVar 5)))
def b__law_count_1 : FS := fFor (fItm (fVar 6)) (gN 7) b__law_count_0
def b__law_count_2 : FS := fSeq (fSet 4 (fMulM (fLst [fC (.v (.int 0))]) (fB dLen [fVar 2]))) (fSeq (fFor (fEnum (f2 dIx (fVar 0) (fC (.v (.int 2))))) (gT 2 (gsCons (gN 5) (gsCons (gN 6) (gsNil)))) b__law_count_1) (fSet 2 (fVar 4)))
def f__law_count : FS := fSeq (fSet 2 (fLc (fRng1 [fB dLen [f2 dIx (fVar 0) (fC (.v (.int 2)))]]) (gN 5) (tYesF) (fB dIntOf [f2 dEq (fVar 5) (fC (.v (.int 0)))]) [5])) (fSeq (fFor (fRng1 [fVar 1]) (gN 3) b__law_count_2) (fRet (fB dSum [fLc (fItm (f2 dIx (fVar 0) (fC (.v (.int 3))))) (gN 5) (tYesF) (f2 dIx (fVar 2) (fVar 5)) [5]])))
def F__law_count : List D → M D := closeF (bodyF f__law_count 2 8)
theorem ok__law_count {fa : Addr} {fd : FuncData} (F : Fun K "_law_count" "_law_count" s__law_count fa fd) (gm : mg "_law_count" = some (.ref fa)) (bd : Binds K fd ["_law_machine", "_law_length"] []) (B : Bt K mg)  : FnAt P w K mg base 1 fa fd ["_law_machine", "_law_length"] "_law_count" F__law_count := by
  refine FnAt.close (okF (k := 0) (N := ["_law_machine", "_law_length", "_law_counts", "_law_lap", "_law_more", "_law_at", "_law_row", "_law_goal"]) F sc__law_count gm bd fun LO cdv A outer s H E hr => ?_)
  have scN := sc__law_count.nd
  exact dss_cons (ds_set flat_WD scN (de_lcG finL_ok (own := [("_law_at", 5)]) rfl scN (by rfl) (di_range1 B.n_range (da_cons (de_callB call_lenD B.n_len (da_cons (de_ix ix_D (de_var 0) (de_int)) (da_nil))) (da_nil))) (fun _ _ _ _ _ => dg_name scN) (fun _ _ _ _ _ => dts_nil) (fun _ _ _ _ _ => de_callTy call_intD B.n_int (da_cons (de_cmp (op_eqDD hr) (de_var 5) (de_int)) (da_nil))))) (dss_cons (ds_for flat_WD (passes_of rfl) rfl (di_range1 B.n_range (da_cons (de_var 1) (da_nil))) (dg_name scN) (dss_cons (ds_set flat_WD scN (de_mulM (de_lst (da_cons (de_int) (da_nil))) (de_callB call_lenD B.n_len (da_cons (de_var 2) (da_nil))))) (dss_cons (ds_for flat_WD (passes_of rfl) rfl (di_enum B.n_enumerate (de_ix ix_D (de_var 0) (de_int))) (dg_tup rfl (dgs_cons (dg_name scN) (dgs_cons (dg_name scN) (dgs_nil)))) (dss_one (ds_for flat_WD (passes_of rfl) rfl (di_any (de_var 6)) (dg_name scN) (dss_one (ds_putI flat_WD (de_var 4) (de_var 7) (de_bin op_addD (de_ix ix_D (de_var 4) (de_var 7)) (de_ix ix_D (de_var 2) (de_var 5)))))))) (dss_one (ds_set flat_WD scN (de_var 4)))))) (dss_one (ds_ret flat_WD (de_callB (call_sumD rfl) B.n_sum (da_cons (de_lcG finL_ok (own := [("_law_at", 5)]) rfl scN (by rfl) (di_any (de_ix ix_D (de_var 0) (de_int))) (fun _ _ _ _ _ => dg_name scN) (fun _ _ _ _ _ => dts_nil) (fun _ _ _ _ _ => de_ix ix_D (de_var 2) (de_var 5))) (da_nil))))))
/-! ### _law_refused_right -/
abbrev s__law_refused_right : Stmt := topS 45
theorem sc__law_refused_right : FnScope ["_law_state", "_law_machine", "_law_some", "_law_bad", "_law_odd", "_law_far", "_law_task"] ["_law_state", "_law_machine"] (defScope s__law_refused_right) := ⟨rfl, rfl, rfl, by decide +kernel, rfl, by decide +kernel, by decide +kernel⟩
def lams__law_refused_right : Nat → LamD
  | 0 => lamOf (kid (kidE ((defBody s__law_refused_right).getD 3 noS)) 0)
  | 1 => lamOf (kid (kidE ((defBody s__law_refused_right).getD 3 noS)) 1)
  | 2 => lamOf (kid (kidE ((defBody s__law_refused_right).getD 3 noS)) 2)
  | 3 => lamOf (kid (kidE ((defBody s__law_refused_right).getD 4 noS)) 0)
  | 4 => lamOf (kid (kidE ((defBody s__law_refused_right).getD 4 noS)) 1)
  | _ => lamOf (kid (kid (kidE ((defBody s__law_refused_right).getD 5 noS)) 0) 0)
def f_lam__law_refused_right_0 : FE := fCall F_lets [fVar 3, fVar 4]
def f_lam__law_refused_right_1 : FE := fCall F_led_on [fVar 3, fVar 4]
def f_lam__law_refused_right_2 : FE := fCall F_texts_of_length [fVar 3, fVar 5]
def f_lam__law_refused_right_3 : FE := fCall F_lets [fVar 1, fVar 4]
def f_lam__law_refused_right_4 : FE := fCall F_led_on [fVar 1, fVar 4]
def f_lam__law_refused_right_5 : FE := fCall F_texts_of_length [fVar 1, fVar 5]
def lamF__law_refused_right : Nat → FE
  | 0 => f_lam__law_refused_right_0
  | 1 => f_lam__law_refused_right_1
  | 2 => f_lam__law_refused_right_2
  | 3 => f_lam__law_refused_right_3
  | 4 => f_lam__law_refused_right_4
  | _ => f_lam__law_refused_right_5
def b__law_refused_right_0 : FS := fIfS (tNotF (tst (fIsExn isaT "BadMachine" (fCaught ownT lamF__law_refused_right (fVar 6))))) (fRet (fC (.v (.bl false)))) (fNx)
def b__law_refused_right_1 : FS := fIfS (tNotF (tst (fIsExn isaT "BadText" (fCaught ownT lamF__law_refused_right (fVar 6))))) (fRet (fC (.v (.bl false)))) (fNx)
def f__law_refused_right : FS := fSeq (fSet 2 (fLst [fC (.v .non), fC (.v (.int 5)), fTup [], fSl (fVar 1) (fNoP) (fPart (fC (.v (.int 3)))), fB dList [fVar 1], fTup [fC (.v (.str "machine")), fC (.v (.str "ba")), fTup [fTup [fC (.v (.int 0)), fC (.v (.int 0))]], fTup []], f2 dAdd (fTup [fC (.v (.str "m"))]) (fSl (fVar 1) (fPart (fC (.v (.int 1)))) (fNoP))])) (fSeq (fSet 3 (fCall F__law_pick [fVar 0, fVar 2])) (fSeq (fAsg (fTup [fCall F__law_pick [fVar 0, fLst [fC (.v .non), fC (.v (.int 5)), fC (.v (.str "A")), fC (.v (.str "z")), fLst [fC (.v (.str "a"))], fC (.v (.str "a z"))]], fCall F__law_pick [fVar 0, fLst [fC (.v .non), fNeg (fC (.v (.int 1))), fC (.v (.int 1001)), fC (.v (.bl true)), fC (.v (.str "3"))]]]) (gT 2 (gsCons (gN 4) (gsCons (gN 5) (gsNil))))) (fSeq (fFor (fItm (fLst [fLam 0 "_law_refused_right" 0, fLam 0 "_law_refused_right" 1, fLam 0 "_law_refused_right" 2])) (gN 6) b__law_refused_right_0) (fSeq (fFor (fItm (fLst [fLam 0 "_law_refused_right" 3, fLam 0 "_law_refused_right" 4])) (gN 6) b__law_refused_right_1) (fRet (fIsExn isaT "BadNumber" (fCaught ownT lamF__law_refused_right (fLam 0 "_law_refused_right" 5))))))))
/-- what the lambdas of _law_refused_right are, of the call at s -/
def LO__law_refused_right (fa c : Addr) (s : Shared) : LOs := ⟨fun n f c' => LamO (envOfC "_law_refused_right" (defScope s__law_refused_right) s.heap.objs.size fa (.ref c)).qual (envOfC "_law_refused_right" (defScope s__law_refused_right) s.heap.objs.size fa (.ref c)).cells (lams__law_refused_right n).params (lams__law_refused_right n).body (lams__law_refused_right n).scope f c', fun c' => LamX.CodeO c' ((envOfC "_law_refused_right" (defScope s__law_refused_right) s.heap.objs.size fa (.ref c)).qual ++ "<lambda>")⟩
theorem der__law_refused_right {gc : Addr} {gd : FuncData} (Fc : Fun K "_law_caught" "_law_caught" (topS 29) gc gd) (bc : Binds K gd ["_law_action"] []) (mc : mg "_law_caught" = some (.ref gc)) (B : Bt K mg) (h__law_pick : Fn P w K mg base 3 "_law_pick" F__law_pick) (h_lets : Fn P w K mg base 6 "lets" F_lets) (h_led_on : Fn P w K mg base 6 "led_on" F_led_on) (h_texts_of_length : Fn P w K mg base 6 "texts_of_length" F_texts_of_length)
    {c fa T : Addr} {A : Around} {outer : List Env} {s : Shared} {H : Hp} {E : XK} (TB : LamX.TabB base mg c T) (htb : PySem.W.tabIn K "_law_refused_right" = some (c, T)) (hr : Rm 8 (A.deeper (envOfC "_law_refused_right" (defScope s__law_refused_right) s.heap.objs.size fa (.ref c)))) :
    DSs (CxD P w K mg base ["_law_state", "_law_machine", "_law_some", "_law_bad", "_law_odd", "_law_far", "_law_task"] "_law_refused_right" s__law_refused_right fa (.ref c) A outer s H E) (LO__law_refused_right fa c s) (WD E) (defBody s__law_refused_right) f__law_refused_right := by
  have hfn : ∀ n f c', (LO__law_refused_right fa c s).fn n f c' = LamO (envOfC "_law_refused_right" (defScope s__law_refused_right) s.heap.objs.size fa (.ref c)).qual (envOfC "_law_refused_right" (defScope s__law_refused_right) s.heap.objs.size fa (.ref c)).cells (lams__law_refused_right n).params (lams__law_refused_right n).body (lams__law_refused_right n).scope f c' := fun _ _ _ => rfl
  have hco : ∀ c', (LO__law_refused_right fa c s).co c' = LamX.CodeO c' ((envOfC "_law_refused_right" (defScope s__law_refused_right) s.heap.objs.size fa (.ref c)).qual ++ "<lambda>") := fun _ => rfl
  generalize LO__law_refused_right fa c s = LO at hfn hco ⊢
  have scN := sc__law_refused_right.nd
  have hcode : (CxD P w K mg base ["_law_state", "_law_machine", "_law_some", "_law_bad", "_law_odd", "_law_far", "_law_task"] "_law_refused_right" s__law_refused_right fa (.ref c) A outer s H E).env.code = .ref c := rfl
  have hLam : ∀ n, LamX.LamS (CxD P w K mg base ["_law_state", "_law_machine", "_law_some", "_law_bad", "_law_odd", "_law_far", "_law_task"] "_law_refused_right" s__law_refused_right fa (.ref c) A outer s H E).env.scope (lams__law_refused_right n).scope := fun n => match n with
    | 0 => LamX.lamS_by (sc := defScope s__law_refused_right) (scope := (lams__law_refused_right 0).scope) (by decide +kernel)
    | 1 => LamX.lamS_by (sc := defScope s__law_refused_right) (scope := (lams__law_refused_right 1).scope) (by decide +kernel)
    | 2 => LamX.lamS_by (sc := defScope s__law_refused_right) (scope := (lams__law_refused_right 2).scope) (by decide +kernel)
    | 3 => LamX.lamS_by (sc := defScope s__law_refused_right) (scope := (lams__law_refused_right 3).scope) (by decide +kernel)
    | 4 => LamX.lamS_by (sc := defScope s__law_refused_right) (scope := (lams__law_refused_right 4).scope) (by decide +kernel)
    | _ + 5 => LamX.lamS_by (sc := defScope s__law_refused_right) (scope := (lams__law_refused_right 5).scope) (by decide +kernel)
  have hLb : ∀ n (A' : Around) (outer' : List Env) (s' : Shared) (H' : Hp) (E' : XK) (f c' : Addr), Rm 6 (A'.deeper (LamX.lamEnv (CxD P w K mg base ["_law_state", "_law_machine", "_law_some", "_law_bad", "_law_odd", "_law_far", "_law_task"] "_law_refused_right" s__law_refused_right fa (.ref c) A outer s H E) (lams__law_refused_right n).scope s'.heap.objs.size f c')) →
      DE (LamX.lamCx (CxD P w K mg base ["_law_state", "_law_machine", "_law_some", "_law_bad", "_law_odd", "_law_far", "_law_task"] "_law_refused_right" s__law_refused_right fa (.ref c) A outer s H E) A' outer' s' H' E' (lams__law_refused_right n).scope f c') LO (WD E') (lams__law_refused_right n).body (lamF__law_refused_right n) := fun n A' outer' s' H' E' f c' hr => match n with
    | 0 => de_call h_lets (takes_of rfl rfl rfl rfl) (hr.mono (by decide)) (da_cons (de_var 3) (da_cons (de_var 4) (da_nil)))
    | 1 => de_call h_led_on (takes_of rfl rfl rfl rfl) (hr.mono (by decide)) (da_cons (de_var 3) (da_cons (de_var 4) (da_nil)))
    | 2 => de_call h_texts_of_length (takes_of rfl rfl rfl rfl) (hr.mono (by decide)) (da_cons (de_var 3) (da_cons (de_var 5) (da_nil)))
    | 3 => de_call h_lets (takes_of rfl rfl rfl rfl) (hr.mono (by decide)) (da_cons (de_var 1) (da_cons (de_var 4) (da_nil)))
    | 4 => de_call h_led_on (takes_of rfl rfl rfl rfl) (hr.mono (by decide)) (da_cons (de_var 1) (da_cons (de_var 4) (da_nil)))
    | _ + 5 => de_call h_texts_of_length (takes_of rfl rfl rfl rfl) (hr.mono (by decide)) (da_cons (de_var 1) (da_cons (de_var 5) (da_nil)))
  obtain ⟨cH, hmH, hown⟩ := B.n_own
  have hCaught : ∀ {e : Expr} {fa' : FE} {p pos : Pos} (_ : DE (CxD P w K mg base ["_law_state", "_law_machine", "_law_some", "_law_bad", "_law_odd", "_law_far", "_law_task"] "_law_refused_right" s__law_refused_right fa (.ref c) A outer s H E) LO (WD E) e fa') (_ : starEach [e] (CxD P w K mg base ["_law_state", "_law_machine", "_law_some", "_law_bad", "_law_odd", "_law_far", "_law_task"] "_law_refused_right" s__law_refused_right fa (.ref c) A outer s H E).env = (false, eval e (CxD P w K mg base ["_law_state", "_law_machine", "_law_some", "_law_bad", "_law_odd", "_law_far", "_law_task"] "_law_refused_right" s__law_refused_right fa (.ref c) A outer s H E).env) :: starEach [] (CxD P w K mg base ["_law_state", "_law_machine", "_law_some", "_law_bad", "_law_odd", "_law_far", "_law_task"] "_law_refused_right" s__law_refused_right fa (.ref c) A outer s H E).env),
      DE (CxD P w K mg base ["_law_state", "_law_machine", "_law_some", "_law_bad", "_law_odd", "_law_far", "_law_task"] "_law_refused_right" s__law_refused_right fa (.ref c) A outer s H E) LO (WD E) (.Call (.Name "_law_caught" p) [e] [] pos) (fCaught ownT lamF__law_refused_right fa') := fun he hs =>
    de_caught (k := 6) (lams := lams__law_refused_right) Fc bc sc__law_caught mc hr (takes_of rfl rfl rfl rfl) he rfl rfl rfl rfl rfl (by decide) (by decide) (by decide) (by decide) hmH hown hLam hfn hco (fun n q cl pm cv ctv => match n with | 0 => rfl | 1 => rfl | 2 => rfl | 3 => rfl | 4 => rfl | _ + 5 => rfl) hLb (fun _ => rfl) (fun _ h => by first | rfl | (simp [swapsWith, h])) (fun _ => rfl) rfl (by decide) hs
  exact dss_cons (ds_set flat_WD scN (de_lst (da_cons (de_non) (da_cons (de_int) (da_cons (de_tup (da_nil)) (da_cons (de_slice (de_var 1) (do_none) (do_some (de_int))) (da_cons (de_callTy (call_listD rfl) B.n_list (da_cons (de_var 1) (da_nil))) (da_cons (de_tup (da_cons (de_str) (da_cons (de_str) (da_cons (de_tup (da_cons (de_tup (da_cons (de_int) (da_cons (de_int) (da_nil)))) (da_nil))) (da_cons (de_tup (da_nil)) (da_nil)))))) (da_cons (de_bin op_addD (de_tup (da_cons (de_str) (da_nil))) (de_slice (de_var 1) (do_some (de_int)) (do_none))) (da_nil)))))))))) (dss_cons (ds_set flat_WD scN (de_call h__law_pick (takes_of rfl rfl rfl rfl) (hr.mono (by decide)) (da_cons (de_var 0) (da_cons (de_var 2) (da_nil))))) (dss_cons (ds_asg flat_WD (de_tup (da_cons (de_call h__law_pick (takes_of rfl rfl rfl rfl) (hr.mono (by decide)) (da_cons (de_var 0) (da_cons (de_lst (da_cons (de_non) (da_cons (de_int) (da_cons (de_str) (da_cons (de_str) (da_cons (de_lst (da_cons (de_str) (da_nil))) (da_cons (de_str) (da_nil)))))))) (da_nil)))) (da_cons (de_call h__law_pick (takes_of rfl rfl rfl rfl) (hr.mono (by decide)) (da_cons (de_var 0) (da_cons (de_lst (da_cons (de_non) (da_cons (de_neg (de_int)) (da_cons (de_int) (da_cons (de_bl) (da_cons (de_str) (da_nil))))))) (da_nil)))) (da_nil)))) (dg_tup rfl (dgs_cons (dg_name scN) (dgs_cons (dg_name scN) (dgs_nil))))) (dss_cons (ds_for flat_WD (passes_of rfl) rfl (di_any (de_lst (da_cons (de_lam TB hcode rfl rfl htb (hLam 0) (hfn 0) hco) (da_cons (de_lam TB hcode rfl rfl htb (hLam 1) (hfn 1) hco) (da_cons (de_lam TB hcode rfl rfl htb (hLam 2) (hfn 2) hco) (da_nil)))))) (dg_name scN) (dss_one (ds_if flat_WD (dt_not (dt_val (de_isExn B.n_isa B.n_isinstance (hCaught (de_var 6) rfl) B.k_BadMachine))) (dss_one (ds_ret flat_WD (de_bl))) (dss_nil)))) (dss_cons (ds_for flat_WD (passes_of rfl) rfl (di_any (de_lst (da_cons (de_lam TB hcode rfl rfl htb (hLam 3) (hfn 3) hco) (da_cons (de_lam TB hcode rfl rfl htb (hLam 4) (hfn 4) hco) (da_nil))))) (dg_name scN) (dss_one (ds_if flat_WD (dt_not (dt_val (de_isExn B.n_isa B.n_isinstance (hCaught (de_var 6) rfl) B.k_BadText))) (dss_one (ds_ret flat_WD (de_bl))) (dss_nil)))) (dss_one (ds_ret flat_WD (de_isExn B.n_isa B.n_isinstance (hCaught (de_lam TB hcode rfl rfl htb (hLam 5) (hfn 5) hco) rfl) B.k_BadNumber)))))))
def F__law_refused_right : List D → M D := nolF (bodyF f__law_refused_right 2 7)
theorem ok__law_refused_right {gc : Addr} {gd : FuncData} (Fc : Fun K "_law_caught" "_law_caught" (topS 29) gc gd) (bc : Binds K gd ["_law_action"] []) (mc : mg "_law_caught" = some (.ref gc))
    {fa c T : Addr} {oc kV doc pm ct : Value} {od an : Option Addr} {osl : Array (Option Value)} (lk : K.lookup fa = some ⟨oc, od, .func (PySem.W.fnOf "_law_refused_right" "_law_refused_right" (defArgs s__law_refused_right) (defBody s__law_refused_right) (defScope s__law_refused_right) .none kV doc pm an (.ref c) ct), osl⟩)
    (hcd : PySem.W.codeIn K (.ref c) "_law_refused_right" = true) (hk : PySem.W.keepIn K (.ref fa) = true) (gm : mg "_law_refused_right" = some (.ref fa)) (bd : Binds K (PySem.W.fnOf "_law_refused_right" "_law_refused_right" (defArgs s__law_refused_right) (defBody s__law_refused_right) (defScope s__law_refused_right) .none kV doc pm an (.ref c) ct) ["_law_state", "_law_machine"] []) (TB : LamX.TabB base mg c T) (htb : PySem.W.tabIn K "_law_refused_right" = some (c, T)) (B : Bt K mg) (h__law_pick : Fn P w K mg base 3 "_law_pick" F__law_pick) (h_lets : Fn P w K mg base 6 "lets" F_lets) (h_led_on : Fn P w K mg base 6 "led_on" F_led_on) (h_texts_of_length : Fn P w K mg base 6 "texts_of_length" F_texts_of_length) :
    FnAt P w K mg base 9 fa (PySem.W.fnOf "_law_refused_right" "_law_refused_right" (defArgs s__law_refused_right) (defBody s__law_refused_right) (defScope s__law_refused_right) .none kV doc pm an (.ref c) ct) ["_law_state", "_law_machine"] "_law_refused_right" F__law_refused_right :=
  okL (N := ["_law_state", "_law_machine", "_law_some", "_law_bad", "_law_odd", "_law_far", "_law_task"]) (LOf := LO__law_refused_right fa c) lk hcd hk sc__law_refused_right gm bd fun A outer s H E hr => der__law_refused_right Fc bc mc B h__law_pick h_lets h_led_on h_texts_of_length  TB htb hr
/-! ### law -/
abbrev s_law : Stmt := topS 46
theorem sc_law : FnScope ["_law_script", "_law_state", "_law_turn", "_law_some", "_law_machine", "_law_thing", "_law_word", "_law_due", "_law_found", "_law_length", "_law_every", "_law_many", "_law_great", "_law_lap", "_law_at"] ["_law_script"] (defScope s_law) := ⟨rfl, rfl, rfl, by decide +kernel, rfl, by decide +kernel, by decide +kernel⟩
def b_law_0 : FS := fIfS (tNotF (tst (fCall F__law_is_truth [fCallK F_is_machine [] [fVar 5] [0], fCall F__law_is_machine [fVar 5]]))) (fRet (fC (.v (.bl false)))) (fNx)
def b_law_1 : FS := fSeq (fIfS (tNotF (tst (fCall F__law_is_truth [fCallK F_lets [] [fVar 6, fVar 4] [1, 0], fCall F__law_jn_lets [fVar 4, fVar 6]]))) (fRet (fC (.v (.bl false)))) (fNx)) (fSeq (fSet 7 (fLc (fRng1 [fB dLen [f2 dIx (fVar 4) (fC (.v (.int 2)))]]) (gN 14) (tYesF) (fCall F__law_jn_led [fVar 4, fVar 14, fVar 6]) [14])) (fSeq (fSet 8 (fCallK F_led_on [fVar 4] [fVar 6] [0, 1])) (fSeq (fIfS (tNotF (tst (fCall F__law_oh_same [fVar 8, fVar 7]))) (fRet (fC (.v (.bl false)))) (fNx)) (fSeq (fDrop (fMl lApp (fVar 8) [fC (.v .non)])) (fIfS (tst (f2 dNe (fCall F_led_on [fVar 4, fVar 6]) (fVar 7))) (fRet (fC (.v (.bl false)))) (fNx))))))
def b_law_2 : FS := fIfS (tNotF (tst (fCall F__law_oh_same [fCallK F_texts_of_length [] [fVar 9, fVar 4] [1, 0], fCall F__law_count [fVar 4, fVar 9]]))) (fRet (fC (.v (.bl false)))) (fNx)
def b_law_3 : FS := fSeq (fSet 3 (fCall F__law_pick [fVar 1, fLst [fC (.v (.str "a")), fC (.v (.str "ab")), fC (.v (.str "abc")), fC (.v (.str "bd")), fC (.v (.str "abcd"))]])) (fSeq (fSet 4 (fCall F__law_jn_machine [fVar 1, fVar 3, fC (.v (.int 7))])) (fSeq (fFor (fItm (f2 dAdd (fLst [fVar 4]) (fLc (fRng1 [fC (.v (.int 8))]) (gN 13) (tYesF) (fCall F__law_oh_bent [fVar 1, fVar 4]) [13]))) (gN 5) b_law_0) (fSeq (fFor (fItm (fCall F__law_jn_some [fVar 1, fVar 3, fC (.v (.int 3)), fC (.v (.int 30))])) (gN 6) b_law_1) (fSeq (fFor (fItm (fLst [fC (.v (.int 0)), fC (.v (.int 1)), fCall F__law_draw [fVar 1, fC (.v (.int 6))], fCall F__law_pick [fVar 1, fLst [fC (.v (.int 40)), fC (.v (.int 100)), fC (.v (.int 1000))]]])) (gN 9) b_law_2) (fSeq (fSet 9 (fCall F__law_draw [fVar 1, fC (.v (.int 6))])) (fSeq (fSet 10 (fLc (fItm (fCall F__law_jn_texts [fVar 3, fVar 9])) (gN 6) (tAndF (tst (f2 dEq (fB dLen [fVar 6]) (fVar 9))) (tst (fCall F__law_jn_lets [fVar 4, fVar 6]))) (fVar 6) [6])) (fIfS (tOrF (tst (f2 dNe (fCall F_texts_of_length [fVar 4, fVar 9]) (fB dLen [fVar 10]))) (tNotF (tst (fCall F__law_refused_right [fVar 1, fVar 4])))) (fRet (fC (.v (.bl false)))) (fNx))))))))
def f_law : FS := fSeq (fSet 1 (fCall F__law_begun [fVar 0])) (fSeq (fFor (fRng1 [f2 dAdd (fC (.v (.int 2))) (fB dMin2 [fB dLen [fVar 0], fC (.v (.int 5))])]) (gN 2) b_law_3) (fSeq (fSet 11 (fCall F__law_pick [fVar 1, fLst [fC (.v (.int 399)), fC (.v (.int 400)), fC (.v (.int 401))]])) (fSeq (fSet 12 (fTup [fC (.v (.str "machine")), fC (.v (.str "abcdefghijklmnopqrstuvwxyz")), f2 dMul (fTup [f2 dMul (fTup [f2 (dInt iSub) (fVar 11) (fC (.v (.int 1)))]) (fC (.v (.int 26)))]) (fVar 11), fTup [fC (.v (.int 0)), f2 (dInt iSub) (fVar 11) (fC (.v (.int 1)))]])) (fRet (fCall F__law_is_truth [fCall F_is_machine [fVar 12], f2 dLe (fVar 11) (fC (.v (.int 400)))])))))
theorem der_law (B : Bt K mg) (h__law_begun : Fn P w K mg base 1 "_law_begun" F__law_begun) (h__law_pick : Fn P w K mg base 3 "_law_pick" F__law_pick) (h__law_jn_machine : Fn P w K mg base 3 "_law_jn_machine" F__law_jn_machine) (h__law_oh_bent : Fn P w K mg base 13 "_law_oh_bent" F__law_oh_bent) (h__law_is_truth : Fn P w K mg base 1 "_law_is_truth" F__law_is_truth) (h_is_machine : Fn P w K mg base 4 "is_machine" F_is_machine) (h__law_is_machine : Fn P w K mg base 2 "_law_is_machine" F__law_is_machine) (h__law_jn_some : Fn P w K mg base 4 "_law_jn_some" F__law_jn_some) (h_lets : Fn P w K mg base 6 "lets" F_lets) (h__law_jn_lets : Fn P w K mg base 2 "_law_jn_lets" F__law_jn_lets) (h__law_jn_led : Fn P w K mg base 1 "_law_jn_led" F__law_jn_led) (h_led_on : Fn P w K mg base 6 "led_on" F_led_on) (h__law_oh_same : Fn P w K mg base 1 "_law_oh_same" F__law_oh_same) (h__law_draw : Fn P w K mg base 2 "_law_draw" F__law_draw) (h_texts_of_length : Fn P w K mg base 6 "texts_of_length" F_texts_of_length) (h__law_count : Fn P w K mg base 1 "_law_count" F__law_count) (h__law_jn_texts : Fn P w K mg base 1 "_law_jn_texts" F__law_jn_texts) (h__law_refused_right : Fn P w K mg base 9 "_law_refused_right" F__law_refused_right) (hk_is_machine_0_value : FnKw P w K mg base 4 "is_machine" F_is_machine 0 ["value"] [0]) (hk_led_on_1_text : FnKw P w K mg base 6 "led_on" F_led_on 1 ["text"] [0, 1]) (hk_lets_0_text_machine : FnKw P w K mg base 6 "lets" F_lets 0 ["text", "machine"] [1, 0]) (hk_texts_of_length_0_length_machine : FnKw P w K mg base 6 "texts_of_length" F_texts_of_length 0 ["length", "machine"] [1, 0]) {LO : LOs} {fa : Addr} {cd : Value} {A : Around} {outer : List Env} {s : Shared} {H : Hp} {E : XK} (hr : Rm 13 (A.deeper (envOfC "law" (defScope s_law) s.heap.objs.size fa cd))) : DSs (CxD P w K mg base ["_law_script", "_law_state", "_law_turn", "_law_some", "_law_machine", "_law_thing", "_law_word", "_law_due", "_law_found", "_law_length", "_law_every", "_law_many", "_law_great", "_law_lap", "_law_at"] "law" s_law fa cd A outer s H E) LO (WD E) (defBody s_law) f_law := by
  have scN := sc_law.nd
  exact dss_cons (ds_set flat_WD scN (de_call h__law_begun (takes_of rfl rfl rfl rfl) (hr.mono (by decide)) (da_cons (de_var 0) (da_nil)))) (dss_cons (ds_for flat_WD (passes_of rfl) rfl (di_range1 B.n_range (da_cons (de_bin op_addD (de_int) (de_callB (call_min2D rfl) B.n_min (da_cons (de_callB call_lenD B.n_len (da_cons (de_var 0) (da_nil))) (da_cons (de_int) (da_nil))))) (da_nil))) (dg_name scN) (dss_cons (ds_set flat_WD scN (de_call h__law_pick (takes_of rfl rfl rfl rfl) (hr.mono (by decide)) (da_cons (de_var 1) (da_cons (de_lst (da_cons (de_str) (da_cons (de_str) (da_cons (de_str) (da_cons (de_str) (da_cons (de_str) (da_nil))))))) (da_nil))))) (dss_cons (ds_set flat_WD scN (de_call h__law_jn_machine (takes_of rfl rfl rfl rfl) (hr.mono (by decide)) (da_cons (de_var 1) (da_cons (de_var 3) (da_cons (de_int) (da_nil)))))) (dss_cons (ds_for flat_WD (passes_of rfl) rfl (di_any (de_bin op_addD (de_lst (da_cons (de_var 4) (da_nil))) (de_lcG finL_ok (own := [("_law_lap", 13)]) rfl scN (by rfl) (di_range1 B.n_range (da_cons (de_int) (da_nil))) (fun _ _ _ _ _ => dg_name scN) (fun _ _ _ _ _ => dts_nil) (fun _ _ _ _ _ => de_call h__law_oh_bent takes0 (hr.mono (by decide)) (da_cons (de_var 1) (da_cons (de_var 4) (da_nil))))))) (dg_name scN) (dss_one (ds_if flat_WD (dt_not (dt_val (de_call h__law_is_truth (takes_of rfl rfl rfl rfl) (hr.mono (by decide)) (da_cons (de_callK0 hk_is_machine_0_value (takes_of rfl rfl rfl rfl) (hr.mono (by decide)) (dk_cons (de_var 5) (dk_nil))) (da_cons (de_call h__law_is_machine (takes_of rfl rfl rfl rfl) (hr.mono (by decide)) (da_cons (de_var 5) (da_nil))) (da_nil)))))) (dss_one (ds_ret flat_WD (de_bl))) (dss_nil)))) (dss_cons (ds_for flat_WD (passes_of rfl) rfl (di_any (de_call h__law_jn_some (takes_of rfl rfl rfl rfl) (hr.mono (by decide)) (da_cons (de_var 1) (da_cons (de_var 3) (da_cons (de_int) (da_cons (de_int) (da_nil))))))) (dg_name scN) (dss_cons (ds_if flat_WD (dt_not (dt_val (de_call h__law_is_truth (takes_of rfl rfl rfl rfl) (hr.mono (by decide)) (da_cons (de_callK0 hk_lets_0_text_machine (takes_of rfl rfl rfl rfl) (hr.mono (by decide)) (dk_cons (de_var 6) (dk_cons (de_var 4) (dk_nil)))) (da_cons (de_call h__law_jn_lets (takes_of rfl rfl rfl rfl) (hr.mono (by decide)) (da_cons (de_var 4) (da_cons (de_var 6) (da_nil)))) (da_nil)))))) (dss_one (ds_ret flat_WD (de_bl))) (dss_nil)) (dss_cons (ds_setLcG finL_ok flat_WD (own := [("_law_at", 14)]) rfl scN (by rfl) (di_range1 B.n_range (da_cons (de_callB call_lenD B.n_len (da_cons (de_ix ix_D (de_var 4) (de_int)) (da_nil))) (da_nil))) (fun _ _ _ _ _ => dg_name scN) (fun _ _ _ _ _ => dts_nil) (fun _ _ _ _ _ => de_call h__law_jn_led takes0 (hr.mono (by decide)) (da_cons (de_var 4) (da_cons (de_var 14) (da_cons (de_var 6) (da_nil)))))) (dss_cons (ds_set flat_WD scN (de_callK hk_led_on_1_text (takes_of rfl rfl rfl rfl) (hr.mono (by decide)) (da_cons (de_var 4) (da_nil)) (dk_cons (de_var 6) (dk_nil)))) (dss_cons (ds_if flat_WD (dt_not (dt_val (de_call h__law_oh_same (takes_of rfl rfl rfl rfl) (hr.mono (by decide)) (da_cons (de_var 8) (da_cons (de_var 7) (da_nil)))))) (dss_one (ds_ret flat_WD (de_bl))) (dss_nil)) (dss_cons (ds_expr flat_WD (de_ml PySem.F.slot_list_append PySem.F.type_list_append mt_appD (de_var 8) (da_cons (de_non) da_nil))) (dss_one (ds_if flat_WD (dt_cmp (op_neDD hr) (de_call h_led_on (takes_of rfl rfl rfl rfl) (hr.mono (by decide)) (da_cons (de_var 4) (da_cons (de_var 6) (da_nil)))) (de_var 7)) (dss_one (ds_ret flat_WD (de_bl))) (dss_nil))))))))) (dss_cons (ds_for flat_WD (passes_of rfl) rfl (di_any (de_lst (da_cons (de_int) (da_cons (de_int) (da_cons (de_call h__law_draw (takes_of rfl rfl rfl rfl) (hr.mono (by decide)) (da_cons (de_var 1) (da_cons (de_int) (da_nil)))) (da_cons (de_call h__law_pick (takes_of rfl rfl rfl rfl) (hr.mono (by decide)) (da_cons (de_var 1) (da_cons (de_lst (da_cons (de_int) (da_cons (de_int) (da_cons (de_int) (da_nil))))) (da_nil)))) (da_nil))))))) (dg_name scN) (dss_one (ds_if flat_WD (dt_not (dt_val (de_call h__law_oh_same (takes_of rfl rfl rfl rfl) (hr.mono (by decide)) (da_cons (de_callK0 hk_texts_of_length_0_length_machine (takes_of rfl rfl rfl rfl) (hr.mono (by decide)) (dk_cons (de_var 9) (dk_cons (de_var 4) (dk_nil)))) (da_cons (de_call h__law_count (takes_of rfl rfl rfl rfl) (hr.mono (by decide)) (da_cons (de_var 4) (da_cons (de_var 9) (da_nil)))) (da_nil)))))) (dss_one (ds_ret flat_WD (de_bl))) (dss_nil)))) (dss_cons (ds_set flat_WD scN (de_call h__law_draw (takes_of rfl rfl rfl rfl) (hr.mono (by decide)) (da_cons (de_var 1) (da_cons (de_int) (da_nil))))) (dss_cons (ds_setLcG finL_ok flat_WD (own := [("_law_word", 6)]) rfl scN (by rfl) (di_any (de_call h__law_jn_texts (takes_of rfl rfl rfl rfl) (hr.mono (by decide)) (da_cons (de_var 3) (da_cons (de_var 9) (da_nil))))) (fun _ _ _ _ _ => dg_name scN) (fun _ _ _ _ _ => dts_one (dt_bool (dw_and (dt_cmp (op_eqDD hr) (de_callB call_lenD B.n_len (da_cons (de_var 6) (da_nil))) (de_var 9)) (dw_and1 (dt_val (de_call h__law_jn_lets takes0 (hr.mono (by decide)) (da_cons (de_var 4) (da_cons (de_var 6) (da_nil))))))))) (fun _ _ _ _ _ => de_var 6)) (dss_one (ds_if flat_WD (dt_bool (dw_or (dt_cmp (op_neDD hr) (de_call h_texts_of_length (takes_of rfl rfl rfl rfl) (hr.mono (by decide)) (da_cons (de_var 4) (da_cons (de_var 9) (da_nil)))) (de_callB call_lenD B.n_len (da_cons (de_var 10) (da_nil)))) (dw_or1 (dt_not (dt_val (de_call h__law_refused_right (takes_of rfl rfl rfl rfl) (hr.mono (by decide)) (da_cons (de_var 1) (da_cons (de_var 4) (da_nil))))))))) (dss_one (ds_ret flat_WD (de_bl))) (dss_nil))))))))))) (dss_cons (ds_set flat_WD scN (de_call h__law_pick (takes_of rfl rfl rfl rfl) (hr.mono (by decide)) (da_cons (de_var 1) (da_cons (de_lst (da_cons (de_int) (da_cons (de_int) (da_cons (de_int) (da_nil))))) (da_nil))))) (dss_cons (ds_set flat_WD scN (de_tup (da_cons (de_str) (da_cons (de_str) (da_cons (de_bin op_mulD (de_tup (da_cons (de_bin op_mulD (de_tup (da_cons (de_bin op_subD (de_var 11) (de_int)) (da_nil))) (de_int)) (da_nil))) (de_var 11)) (da_cons (de_tup (da_cons (de_int) (da_cons (de_bin op_subD (de_var 11) (de_int)) (da_nil)))) (da_nil))))))) (dss_one (ds_ret flat_WD (de_call h__law_is_truth (takes_of rfl rfl rfl rfl) (hr.mono (by decide)) (da_cons (de_call h_is_machine (takes_of rfl rfl rfl rfl) (hr.mono (by decide)) (da_cons (de_var 12) (da_nil))) (da_cons (de_cmp op_leD (de_var 11) (de_int)) (da_nil)))))))))
end
end K66
/-! ## L66b -/
set_option Elab.async false
set_option linter.all false
set_option maxRecDepth 100000
set_option maxHeartbeats 4000000
namespace K66
open PySem PySem.Spec PyProof.Rows L2 Tr
theorem F_is_text_ok {d : D} (hp : plD d = true) : F_is_text [d] = ret (.v (.bl (isTextB d))) := by
  refine bodyF_rt rfl ?_
  simp only [f_is_text, fSeq, fIfS, fRet, fRetN, fNx, fAsg, fSet, fDrop, fPar, fBrk, fCnt, fAnd, fOr, fNot, fIf, tst, tNotF, tAndF, tOrF, tYesF, f2, f3, fB, fC, fVar, fAll_nil, fAll_cons, fTup, fLst, fCall, fItm, items, fFor, fLcG, wipeE, fRng1, fRng2, bnd_ret, asB_bl, lif_some, lif_gN, List.map_cons, List.map_nil, List.length_cons, List.length_nil, List.replicate_succ, List.replicate_zero, List.cons_append, List.nil_append, List.append_nil, List.getElem?_cons_zero, List.getElem?_cons_succ, List.set_cons_zero, List.set_cons_succ, Nat.reduceSub, Nat.reduceAdd, Nat.reduceLeDiff, Nat.reduceMul, if_true, if_false, Bool.false_eq_true, Bool.not_true, Bool.not_false, ite_true, ite_false, reduceIte, Nat.zero_add, isI_pl hp (show "str" ∈ isTys by decide)]
  cases d with
  | v x =>
    cases x with
    | str z =>
      obtain ⟨h1, h2⟩ := str_small hp
      have hl : (chars z).length ≤ 16777216 := by unfold chars; simp; unfold Str.length at h1; omega
      simp only [kd, beq_self_eq_true, Bool.true_or, fSeq, fIfS, fRet, fRetN, fNx, fAsg, fSet, fDrop, fPar, fBrk, fCnt, fAnd, fOr, fNot, fIf, tst, tNotF, tAndF, tOrF, tYesF, f2, f3, fB, fC, fVar, fAll_nil, fAll_cons, fTup, fLst, fCall, fItm, items, fFor, fLcG, wipeE, fRng1, fRng2, bnd_ret, asB_bl, lif_some, lif_gN, List.map_cons, List.map_nil, List.length_cons, List.length_nil, List.replicate_succ, List.replicate_zero, List.cons_append, List.nil_append, List.append_nil, List.getElem?_cons_zero, List.getElem?_cons_succ, List.set_cons_zero, List.set_cons_succ, Nat.reduceSub, Nat.reduceAdd, Nat.reduceLeDiff, Nat.reduceMul, if_true, if_false, Bool.false_eq_true, Bool.not_true, Bool.not_false, ite_true, ite_false, reduceIte, Nat.zero_add, hl]
      unfold chars
      rw [lcGo_mapL (g := fun c => .v (.bl (decide (c ∈ abc.cps.toList)))) fun c hc => by simp only [fSeq, fIfS, fRet, fRetN, fNx, fAsg, fSet, fDrop, fPar, fBrk, fCnt, fAnd, fOr, fNot, fIf, tst, tNotF, tAndF, tOrF, tYesF, f2, f3, fB, fC, fVar, fAll_nil, fAll_cons, fTup, fLst, fCall, fItm, items, fFor, fLcG, wipeE, fRng1, fRng2, bnd_ret, asB_bl, lif_some, lif_gN, List.map_cons, List.map_nil, List.length_cons, List.length_nil, List.replicate_succ, List.replicate_zero, List.cons_append, List.nil_append, List.append_nil, List.getElem?_cons_zero, List.getElem?_cons_succ, List.set_cons_zero, List.set_cons_succ, Nat.reduceSub, Nat.reduceAdd, Nat.reduceLeDiff, Nat.reduceMul, if_true, if_false, Bool.false_eq_true, Bool.not_true, Bool.not_false, ite_true, ite_false, reduceIte, Nat.zero_add, lif_add, lif_sub, lif_cmp, lif_lt, lif_ltS, lif_eqI, lif_neI, lif_lenT, lif_lenL, lif_lenS, lif_inC, lif_notInC]; rfl]
      simp only [bnd_ret, finL, lif_all]
      rfl
    | _ => rfl
  | _ => rfl
theorem F_is_whole_ok {d : D} (hp : plD d = true) : F_is_whole [d] = ret (.v (.bl (isWholeB d))) := by
  refine bodyF_rt rfl ?_
  simp only [f_is_whole, fSeq, fIfS, fRet, fRetN, fNx, fAsg, fSet, fDrop, fPar, fBrk, fCnt, fAnd, fOr, fNot, fIf, tst, tNotF, tAndF, tOrF, tYesF, f2, f3, fB, fC, fVar, fAll_nil, fAll_cons, fTup, fLst, fCall, fItm, items, fFor, fLcG, wipeE, fRng1, fRng2, bnd_ret, asB_bl, lif_some, lif_gN, List.map_cons, List.map_nil, List.length_cons, List.length_nil, List.replicate_succ, List.replicate_zero, List.cons_append, List.nil_append, List.append_nil, List.getElem?_cons_zero, List.getElem?_cons_succ, List.set_cons_zero, List.set_cons_succ, Nat.reduceSub, Nat.reduceAdd, Nat.reduceLeDiff, Nat.reduceMul, if_true, if_false, Bool.false_eq_true, Bool.not_true, Bool.not_false, ite_true, ite_false, reduceIte, Nat.zero_add, isI_int hp]
  cases d with
  | v x =>
    cases x with
    | int i => simp only [kd, beq_self_eq_true, Bool.true_or, fSeq, fIfS, fRet, fRetN, fNx, fAsg, fSet, fDrop, fPar, fBrk, fCnt, fAnd, fOr, fNot, fIf, tst, tNotF, tAndF, tOrF, tYesF, f2, f3, fB, fC, fVar, fAll_nil, fAll_cons, fTup, fLst, fCall, fItm, items, fFor, fLcG, wipeE, fRng1, fRng2, bnd_ret, asB_bl, lif_some, lif_gN, List.map_cons, List.map_nil, List.length_cons, List.length_nil, List.replicate_succ, List.replicate_zero, List.cons_append, List.nil_append, List.append_nil, List.getElem?_cons_zero, List.getElem?_cons_succ, List.set_cons_zero, List.set_cons_succ, Nat.reduceSub, Nat.reduceAdd, Nat.reduceLeDiff, Nat.reduceMul, if_true, if_false, Bool.false_eq_true, Bool.not_true, Bool.not_false, ite_true, ite_false, reduceIte, Nat.zero_add, isI_pl hp (show "bool" ∈ isTys by decide)]; rfl
    | bl i => simp only [kd, beq_self_eq_true, Bool.or_true, fSeq, fIfS, fRet, fRetN, fNx, fAsg, fSet, fDrop, fPar, fBrk, fCnt, fAnd, fOr, fNot, fIf, tst, tNotF, tAndF, tOrF, tYesF, f2, f3, fB, fC, fVar, fAll_nil, fAll_cons, fTup, fLst, fCall, fItm, items, fFor, fLcG, wipeE, fRng1, fRng2, bnd_ret, asB_bl, lif_some, lif_gN, List.map_cons, List.map_nil, List.length_cons, List.length_nil, List.replicate_succ, List.replicate_zero, List.cons_append, List.nil_append, List.append_nil, List.getElem?_cons_zero, List.getElem?_cons_succ, List.set_cons_zero, List.set_cons_succ, Nat.reduceSub, Nat.reduceAdd, Nat.reduceLeDiff, Nat.reduceMul, if_true, if_false, Bool.false_eq_true, Bool.not_true, Bool.not_false, ite_true, ite_false, reduceIte, Nat.zero_add, isI_pl hp (show "bool" ∈ isTys by decide)]; rfl
    | non => rfl
    | str _ => rfl
    | _ => cases hp
  | tup _ => rfl
  | lst _ => rfl
  | _ => cases hp
theorem F_is_number_ok {d : D} {n : Int} (hp : plD d = true) : F_is_number [d, .v (.int n)] = ret (.v (.bl (isNumB d n))) := by
  refine bodyF_rt rfl ?_
  simp only [f_is_number, fSeq, fIfS, fRet, fRetN, fNx, fAsg, fSet, fDrop, fPar, fBrk, fCnt, fAnd, fOr, fNot, fIf, tst, tNotF, tAndF, tOrF, tYesF, f2, f3, fB, fC, fVar, fAll_nil, fAll_cons, fTup, fLst, fCall, fItm, items, fFor, fLcG, wipeE, fRng1, fRng2, bnd_ret, asB_bl, lif_some, lif_gN, List.map_cons, List.map_nil, List.length_cons, List.length_nil, List.replicate_succ, List.replicate_zero, List.cons_append, List.nil_append, List.append_nil, List.getElem?_cons_zero, List.getElem?_cons_succ, List.set_cons_zero, List.set_cons_succ, Nat.reduceSub, Nat.reduceAdd, Nat.reduceLeDiff, Nat.reduceMul, if_true, if_false, Bool.false_eq_true, Bool.not_true, Bool.not_false, ite_true, ite_false, reduceIte, Nat.zero_add, F_is_whole_ok hp]
  cases d with
  | v x =>
    cases x with
    | int i =>
      simp only [isWholeB, fSeq, fIfS, fRet, fRetN, fNx, fAsg, fSet, fDrop, fPar, fBrk, fCnt, fAnd, fOr, fNot, fIf, tst, tNotF, tAndF, tOrF, tYesF, f2, f3, fB, fC, fVar, fAll_nil, fAll_cons, fTup, fLst, fCall, fItm, items, fFor, fLcG, wipeE, fRng1, fRng2, bnd_ret, asB_bl, lif_some, lif_gN, List.map_cons, List.map_nil, List.length_cons, List.length_nil, List.replicate_succ, List.replicate_zero, List.cons_append, List.nil_append, List.append_nil, List.getElem?_cons_zero, List.getElem?_cons_succ, List.set_cons_zero, List.set_cons_succ, Nat.reduceSub, Nat.reduceAdd, Nat.reduceLeDiff, Nat.reduceMul, if_true, if_false, Bool.false_eq_true, Bool.not_true, Bool.not_false, ite_true, ite_false, reduceIte, Nat.zero_add, f3, lif_add, lif_sub, lif_cmp, lif_lt, lif_ltS, lif_eqI, lif_neI, lif_lenT, lif_lenL, lif_lenS, lif_inC, lif_notInC]
      unfold isNumB
      by_cases hc : 0 ≤ i
      · simp only [decide_eq_true hc, fSeq, fIfS, fRet, fRetN, fNx, fAsg, fSet, fDrop, fPar, fBrk, fCnt, fAnd, fOr, fNot, fIf, tst, tNotF, tAndF, tOrF, tYesF, f2, f3, fB, fC, fVar, fAll_nil, fAll_cons, fTup, fLst, fCall, fItm, items, fFor, fLcG, wipeE, fRng1, fRng2, bnd_ret, asB_bl, lif_some, lif_gN, List.map_cons, List.map_nil, List.length_cons, List.length_nil, List.replicate_succ, List.replicate_zero, List.cons_append, List.nil_append, List.append_nil, List.getElem?_cons_zero, List.getElem?_cons_succ, List.set_cons_zero, List.set_cons_succ, Nat.reduceSub, Nat.reduceAdd, Nat.reduceLeDiff, Nat.reduceMul, if_true, if_false, Bool.false_eq_true, Bool.not_true, Bool.not_false, ite_true, ite_false, reduceIte, Nat.zero_add, lif_add, lif_sub, lif_cmp, lif_lt, lif_ltS, lif_eqI, lif_neI, lif_lenT, lif_lenL, lif_lenS, lif_inC, lif_notInC, Bool.true_and]
      · simp only [decide_eq_false hc, fSeq, fIfS, fRet, fRetN, fNx, fAsg, fSet, fDrop, fPar, fBrk, fCnt, fAnd, fOr, fNot, fIf, tst, tNotF, tAndF, tOrF, tYesF, f2, f3, fB, fC, fVar, fAll_nil, fAll_cons, fTup, fLst, fCall, fItm, items, fFor, fLcG, wipeE, fRng1, fRng2, bnd_ret, asB_bl, lif_some, lif_gN, List.map_cons, List.map_nil, List.length_cons, List.length_nil, List.replicate_succ, List.replicate_zero, List.cons_append, List.nil_append, List.append_nil, List.getElem?_cons_zero, List.getElem?_cons_succ, List.set_cons_zero, List.set_cons_succ, Nat.reduceSub, Nat.reduceAdd, Nat.reduceLeDiff, Nat.reduceMul, if_true, if_false, Bool.false_eq_true, Bool.not_true, Bool.not_false, ite_true, ite_false, reduceIte, Nat.zero_add, lif_add, lif_sub, lif_cmp, lif_lt, lif_ltS, lif_eqI, lif_neI, lif_lenT, lif_lenL, lif_lenS, lif_inC, lif_notInC, Bool.false_and]
    | _ => rfl
  | _ => rfl
theorem F_are_letters_ok {d : D} (hp : plD d = true) : F_are_letters [d] = ret (.v (.bl (areLettersB d))) := by
  refine bodyF_rt rfl ?_
  simp only [f_are_letters, fSeq, fIfS, fRet, fRetN, fNx, fAsg, fSet, fDrop, fPar, fBrk, fCnt, fAnd, fOr, fNot, fIf, tst, tNotF, tAndF, tOrF, tYesF, f2, f3, fB, fC, fVar, fAll_nil, fAll_cons, fTup, fLst, fCall, fItm, items, fFor, fLcG, wipeE, fRng1, fRng2, bnd_ret, asB_bl, lif_some, lif_gN, List.map_cons, List.map_nil, List.length_cons, List.length_nil, List.replicate_succ, List.replicate_zero, List.cons_append, List.nil_append, List.append_nil, List.getElem?_cons_zero, List.getElem?_cons_succ, List.set_cons_zero, List.set_cons_succ, Nat.reduceSub, Nat.reduceAdd, Nat.reduceLeDiff, Nat.reduceMul, if_true, if_false, Bool.false_eq_true, Bool.not_true, Bool.not_false, ite_true, ite_false, reduceIte, Nat.zero_add, F_is_text_ok hp]
  cases d with
  | v x =>
    cases x with
    | str z =>
      obtain ⟨h1, h2⟩ := str_small hp
      unfold isTextB areLettersB
      dsimp only
      by_cases hlow : lowS z = true
      case neg =>
        rw [Bool.not_eq_true] at hlow
        simp only [hlow, fSeq, fIfS, fRet, fRetN, fNx, fAsg, fSet, fDrop, fPar, fBrk, fCnt, fAnd, fOr, fNot, fIf, tst, tNotF, tAndF, tOrF, tYesF, f2, f3, fB, fC, fVar, fAll_nil, fAll_cons, fTup, fLst, fCall, fItm, items, fFor, fLcG, wipeE, fRng1, fRng2, bnd_ret, asB_bl, lif_some, lif_gN, List.map_cons, List.map_nil, List.length_cons, List.length_nil, List.replicate_succ, List.replicate_zero, List.cons_append, List.nil_append, List.append_nil, List.getElem?_cons_zero, List.getElem?_cons_succ, List.set_cons_zero, List.set_cons_succ, Nat.reduceSub, Nat.reduceAdd, Nat.reduceLeDiff, Nat.reduceMul, if_true, if_false, Bool.false_eq_true, Bool.not_true, Bool.not_false, ite_true, ite_false, reduceIte, Nat.zero_add, Bool.false_and]
      case pos =>
        simp only [hlow, fSeq, fIfS, fRet, fRetN, fNx, fAsg, fSet, fDrop, fPar, fBrk, fCnt, fAnd, fOr, fNot, fIf, tst, tNotF, tAndF, tOrF, tYesF, f2, f3, fB, fC, fVar, fAll_nil, fAll_cons, fTup, fLst, fCall, fItm, items, fFor, fLcG, wipeE, fRng1, fRng2, bnd_ret, asB_bl, lif_some, lif_gN, List.map_cons, List.map_nil, List.length_cons, List.length_nil, List.replicate_succ, List.replicate_zero, List.cons_append, List.nil_append, List.append_nil, List.getElem?_cons_zero, List.getElem?_cons_succ, List.set_cons_zero, List.set_cons_succ, Nat.reduceSub, Nat.reduceAdd, Nat.reduceLeDiff, Nat.reduceMul, if_true, if_false, Bool.false_eq_true, Bool.not_true, Bool.not_false, ite_true, ite_false, reduceIte, Nat.zero_add, lif_lenS, f3, lif_cmp, Bool.true_and]
        by_cases c1 : 1 ≤ z.length
        · by_cases c2 : z.length ≤ 26
          · have e1 : decide ((1 : Int) ≤ (z.length : Nat)) = true := by simp; omega
            have e2 : decide ((z.length : Int) ≤ 26) = true := by simp; omega
            have e3 : ((z.length : Nat) : Int) - 1 = ((z.length - 1 : Nat) : Int) := by omega
            have hr : z.length - 1 ≤ 16777216 := Nat.le_trans (Nat.sub_le _ _) (Nat.le_trans h1 (by decide))
            have hl : (rngD 0 (z.length - 1)).length ≤ 16777216 := by rw [rngD_len]; exact hr
            simp only [e1, e2, fSeq, fIfS, fRet, fRetN, fNx, fAsg, fSet, fDrop, fPar, fBrk, fCnt, fAnd, fOr, fNot, fIf, tst, tNotF, tAndF, tOrF, tYesF, f2, f3, fB, fC, fVar, fAll_nil, fAll_cons, fTup, fLst, fCall, fItm, items, fFor, fLcG, wipeE, fRng1, fRng2, bnd_ret, asB_bl, lif_some, lif_gN, List.map_cons, List.map_nil, List.length_cons, List.length_nil, List.replicate_succ, List.replicate_zero, List.cons_append, List.nil_append, List.append_nil, List.getElem?_cons_zero, List.getElem?_cons_succ, List.set_cons_zero, List.set_cons_succ, Nat.reduceSub, Nat.reduceAdd, Nat.reduceLeDiff, Nat.reduceMul, if_true, if_false, Bool.false_eq_true, Bool.not_true, Bool.not_false, ite_true, ite_false, reduceIte, Nat.zero_add, lif_add, lif_sub, lif_cmp, lif_lt, lif_ltS, lif_eqI, lif_neI, lif_lenT, lif_lenL, lif_lenS, lif_inC, lif_notInC, lif_cmp]
            rw [e3, lif_rng hr, bnd_ret, if_pos hl]
            unfold rngD
            have hlen : z.cps.toList.length = z.length := by unfold Str.length; simp
            rw [lcGo_mapL (g := fun k => .v (.bl (decide (z.cps.toList.getD k 0 < z.cps.toList.getD (k + 1) 0)))) fun k hk => ?_]
            · simp only [bnd_ret, finL, lif_all, decide_eq_true c1, decide_eq_true c2, Bool.true_and, riseL, hlen]
            · have hk := List.mem_range.mp hk
              have e4 : (0 : Int) + (k : Nat) = ((k : Nat) : Int) := by omega
              have e5 : (0 : Int) + (k : Nat) + 1 = ((k + 1 : Nat) : Int) := by omega
              simp only [fSeq, fIfS, fRet, fRetN, fNx, fAsg, fSet, fDrop, fPar, fBrk, fCnt, fAnd, fOr, fNot, fIf, tst, tNotF, tAndF, tOrF, tYesF, f2, f3, fB, fC, fVar, fAll_nil, fAll_cons, fTup, fLst, fCall, fItm, items, fFor, fLcG, wipeE, fRng1, fRng2, bnd_ret, asB_bl, lif_some, lif_gN, List.map_cons, List.map_nil, List.length_cons, List.length_nil, List.replicate_succ, List.replicate_zero, List.cons_append, List.nil_append, List.append_nil, List.getElem?_cons_zero, List.getElem?_cons_succ, List.set_cons_zero, List.set_cons_succ, Nat.reduceSub, Nat.reduceAdd, Nat.reduceLeDiff, Nat.reduceMul, if_true, if_false, Bool.false_eq_true, Bool.not_true, Bool.not_false, ite_true, ite_false, reduceIte, Nat.zero_add, lif_add, e5]
              simp only [e4]
              simp only [lif_ixS (getD_some (show k < z.cps.toList.length by omega)), lif_ixS (getD_some (show k + 1 < z.cps.toList.length by omega)), bnd_ret, lif_ltS]
              rw [one_lt]
          · have e1 : decide ((1 : Int) ≤ (z.length : Nat)) = true := by simp; omega
            have e2 : decide ((z.length : Int) ≤ 26) = false := by simp; omega
            simp only [e1, e2, fSeq, fIfS, fRet, fRetN, fNx, fAsg, fSet, fDrop, fPar, fBrk, fCnt, fAnd, fOr, fNot, fIf, tst, tNotF, tAndF, tOrF, tYesF, f2, f3, fB, fC, fVar, fAll_nil, fAll_cons, fTup, fLst, fCall, fItm, items, fFor, fLcG, wipeE, fRng1, fRng2, bnd_ret, asB_bl, lif_some, lif_gN, List.map_cons, List.map_nil, List.length_cons, List.length_nil, List.replicate_succ, List.replicate_zero, List.cons_append, List.nil_append, List.append_nil, List.getElem?_cons_zero, List.getElem?_cons_succ, List.set_cons_zero, List.set_cons_succ, Nat.reduceSub, Nat.reduceAdd, Nat.reduceLeDiff, Nat.reduceMul, if_true, if_false, Bool.false_eq_true, Bool.not_true, Bool.not_false, ite_true, ite_false, reduceIte, Nat.zero_add, lif_cmp, decide_eq_false c2, Bool.and_false, Bool.false_and]
        · have e1 : decide ((1 : Int) ≤ (z.length : Nat)) = false := by simp; omega
          simp only [e1, fSeq, fIfS, fRet, fRetN, fNx, fAsg, fSet, fDrop, fPar, fBrk, fCnt, fAnd, fOr, fNot, fIf, tst, tNotF, tAndF, tOrF, tYesF, f2, f3, fB, fC, fVar, fAll_nil, fAll_cons, fTup, fLst, fCall, fItm, items, fFor, fLcG, wipeE, fRng1, fRng2, bnd_ret, asB_bl, lif_some, lif_gN, List.map_cons, List.map_nil, List.length_cons, List.length_nil, List.replicate_succ, List.replicate_zero, List.cons_append, List.nil_append, List.append_nil, List.getElem?_cons_zero, List.getElem?_cons_succ, List.set_cons_zero, List.set_cons_succ, Nat.reduceSub, Nat.reduceAdd, Nat.reduceLeDiff, Nat.reduceMul, if_true, if_false, Bool.false_eq_true, Bool.not_true, Bool.not_false, ite_true, ite_false, reduceIte, Nat.zero_add, decide_eq_false c1, Bool.false_and]
    | _ => rfl
  | _ => rfl
theorem F_whole_ok {d : D} (hp : plD d = true) : F__law_oh_whole [d] = ret (.v (.bl (isWholeB d))) := F_is_whole_ok hp
theorem F_word_ok {d : D} (hp : plD d = true) : F__law_oh_is_word [d] = ret (.v (.bl (isTextB d))) := by
  refine bodyF_rt rfl ?_
  simp only [f__law_oh_is_word, fSeq, fIfS, fRet, fRetN, fNx, fAsg, fSet, fDrop, fPar, fBrk, fCnt, fAnd, fOr, fNot, fIf, tst, tNotF, tAndF, tOrF, tYesF, f2, f3, fB, fC, fVar, fAll_nil, fAll_cons, fTup, fLst, fCall, bnd_ret, asB_bl, lif_some, lif_gN, List.map_cons, List.map_nil, List.replicate_succ, List.replicate_zero, List.cons_append, List.nil_append, List.append_nil, List.getElem?_cons_zero, List.getElem?_cons_succ, List.set_cons_zero, List.set_cons_succ, Nat.reduceSub, Nat.reduceAdd, Nat.reduceLeDiff, Nat.reduceMul, if_true, if_false, Bool.false_eq_true, Bool.not_true, Bool.not_false, ite_true, ite_false, reduceIte, Nat.zero_add, isI_pl hp (show "str" ∈ isTys by decide)]
  cases d with
  | v x =>
    cases x with
    | str z =>
      obtain ⟨h1, h2⟩ := str_small hp
      have h3 : ∀ c ∈ z.cps.toList, c < 128 := fun c hc => by
        rw [Array.all_eq_true'] at h2
        simpa using h2 c (by simpa using hc)
      simp only [kd, beq_self_eq_true, Bool.true_or, fSeq, fIfS, fRet, fRetN, fNx, fAsg, fSet, fDrop, fPar, fBrk, fCnt, fAnd, fOr, fNot, fIf, tst, tNotF, tAndF, tOrF, tYesF, f2, f3, fB, fC, fVar, fAll_nil, fAll_cons, fTup, fLst, fCall, bnd_ret, asB_bl, lif_some, lif_gN, List.map_cons, List.map_nil, List.replicate_succ, List.replicate_zero, List.cons_append, List.nil_append, List.append_nil, List.getElem?_cons_zero, List.getElem?_cons_succ, List.set_cons_zero, List.set_cons_succ, Nat.reduceSub, Nat.reduceAdd, Nat.reduceLeDiff, Nat.reduceMul, if_true, if_false, Bool.false_eq_true, Bool.not_true, Bool.not_false, ite_true, ite_false, reduceIte, Nat.zero_add]
      rw [fLc_eval (ds := chars z) (out := (z.cps.toList.filter fun c => !decide (c ∈ abc.cps.toList)).map fun c => .v (.str ⟨#[c]⟩)) (fItm_str (by simp only [fSeq, fIfS, fRet, fRetN, fNx, fAsg, fSet, fDrop, fPar, fBrk, fCnt, fAnd, fOr, fNot, fIf, tst, tNotF, tAndF, tOrF, tYesF, f2, f3, fB, fC, fVar, fAll_nil, fAll_cons, fTup, fLst, fCall, bnd_ret, asB_bl, lif_some, lif_gN, List.map_cons, List.map_nil, List.replicate_succ, List.replicate_zero, List.cons_append, List.nil_append, List.append_nil, List.getElem?_cons_zero, List.getElem?_cons_succ, List.set_cons_zero, List.set_cons_succ, Nat.reduceSub, Nat.reduceAdd, Nat.reduceLeDiff, Nat.reduceMul, if_true, if_false, Bool.false_eq_true, Bool.not_true, Bool.not_false, ite_true, ite_false, reduceIte, Nat.zero_add])) (by rw [chars_len]; omega) (by
        unfold chars
        refine lcGo_filterL (p := fun c => !decide (c ∈ abc.cps.toList)) (g := fun c => .v (.str ⟨#[c]⟩)) fun c hc => ⟨?_, fun _ => ?_⟩
        · simp only [wipeE, fSeq, fIfS, fRet, fRetN, fNx, fAsg, fSet, fDrop, fPar, fBrk, fCnt, fAnd, fOr, fNot, fIf, tst, tNotF, tAndF, tOrF, tYesF, f2, f3, fB, fC, fVar, fAll_nil, fAll_cons, fTup, fLst, fCall, bnd_ret, asB_bl, lif_some, lif_gN, List.map_cons, List.map_nil, List.replicate_succ, List.replicate_zero, List.cons_append, List.nil_append, List.append_nil, List.getElem?_cons_zero, List.getElem?_cons_succ, List.set_cons_zero, List.set_cons_succ, Nat.reduceSub, Nat.reduceAdd, Nat.reduceLeDiff, Nat.reduceMul, if_true, if_false, Bool.false_eq_true, Bool.not_true, Bool.not_false, ite_true, ite_false, reduceIte, Nat.zero_add, lif_notInC]
          rfl
        · simp only [wipeE, fSeq, fIfS, fRet, fRetN, fNx, fAsg, fSet, fDrop, fPar, fBrk, fCnt, fAnd, fOr, fNot, fIf, tst, tNotF, tAndF, tOrF, tYesF, f2, f3, fB, fC, fVar, fAll_nil, fAll_cons, fTup, fLst, fCall, bnd_ret, asB_bl, lif_some, lif_gN, List.map_cons, List.map_nil, List.replicate_succ, List.replicate_zero, List.cons_append, List.nil_append, List.append_nil, List.getElem?_cons_zero, List.getElem?_cons_succ, List.set_cons_zero, List.set_cons_succ, Nat.reduceSub, Nat.reduceAdd, Nat.reduceLeDiff, Nat.reduceMul, if_true, if_false, Bool.false_eq_true, Bool.not_true, Bool.not_false, ite_true, ite_false, reduceIte, Nat.zero_add])]
      simp only [fSeq, fIfS, fRet, fRetN, fNx, fAsg, fSet, fDrop, fPar, fBrk, fCnt, fAnd, fOr, fNot, fIf, tst, tNotF, tAndF, tOrF, tYesF, f2, f3, fB, fC, fVar, fAll_nil, fAll_cons, fTup, fLst, fCall, bnd_ret, asB_bl, lif_some, lif_gN, List.map_cons, List.map_nil, List.replicate_succ, List.replicate_zero, List.cons_append, List.nil_append, List.append_nil, List.getElem?_cons_zero, List.getElem?_cons_succ, List.set_cons_zero, List.set_cons_succ, Nat.reduceSub, Nat.reduceAdd, Nat.reduceLeDiff, Nat.reduceMul, if_true, if_false, Bool.false_eq_true, Bool.not_true, Bool.not_false, ite_true, ite_false, reduceIte, Nat.zero_add]
      rw [lif_eqNil (plDs_iff.mpr fun d hd => by
        obtain ⟨c, hc, rfl⟩ := List.mem_map.mp hd
        exact sign_pl (h3 c (List.mem_filter.mp hc).1)) (by rw [dps_v fun d hd => by obtain ⟨c, _, rfl⟩ := List.mem_map.mp hd; exact ⟨_, rfl⟩]; omega)]
      simp only [fSeq, fIfS, fRet, fRetN, fNx, fAsg, fSet, fDrop, fPar, fBrk, fCnt, fAnd, fOr, fNot, fIf, tst, tNotF, tAndF, tOrF, tYesF, f2, f3, fB, fC, fVar, fAll_nil, fAll_cons, fTup, fLst, fCall, bnd_ret, asB_bl, lif_some, lif_gN, List.map_cons, List.map_nil, List.replicate_succ, List.replicate_zero, List.cons_append, List.nil_append, List.append_nil, List.getElem?_cons_zero, List.getElem?_cons_succ, List.set_cons_zero, List.set_cons_succ, Nat.reduceSub, Nat.reduceAdd, Nat.reduceLeDiff, Nat.reduceMul, if_true, if_false, Bool.false_eq_true, Bool.not_true, Bool.not_false, ite_true, ite_false, reduceIte, Nat.zero_add]
      congr 4
      unfold isTextB lowS
      rw [Bool.eq_iff_iff, List.isEmpty_iff, List.map_eq_nil_iff, List.filter_eq_nil_iff, List.all_eq_true]
      simp
    | _ => rfl
  | _ => rfl
theorem blend_loop {a0 a2 : Option D} {tt p : Int} (hp : 0 < p) (hp2 : p < 1152921504606846976) : ∀ {cs : List Int} {b : Int} {x5 : Option D}, 0 ≤ b ∧ b < 1152921504606846976 →
    ∃ b' y5, (0 ≤ b' ∧ b' < 1152921504606846976) ∧ loopS (gN 5) b__law_blended_0 (cs.map di) [a0, some (di tt), a2, some (di p), some (di b), x5] = ret (.nx [a0, some (di tt), a2, some (di p), some (di b'), y5])
  | [], b, x5, h => ⟨b, x5, h, rfl⟩
  | k :: cs, b, x5, h => by
    have hm0 := Int.emod_nonneg (b * 69621 + k + tt) (Int.ne_of_gt hp)
    have hm1 := Int.emod_lt_of_pos (b * 69621 + k + tt) hp
    obtain ⟨b', y5, h1, h2⟩ := blend_loop (a0 := a0) (a2 := a2) (tt := tt) hp hp2 (cs := cs) (b := (b * 69621 + k + tt) % p) (x5 := some (di k)) ⟨hm0, by omega⟩
    refine ⟨b', y5, h1, ?_⟩
    rw [List.map_cons, loopS_cons, lif_gN, bnd_ret]
    have step : b__law_blended_0 (([a0, some (di tt), a2, some (di p), some (di b), x5] : En).set 5 (some (di k))) = ret (.nx [a0, some (di tt), a2, some (di p), some (di ((b * 69621 + k + tt) % p)), some (di k)]) := by
      simp only [b__law_blended_0, fSeq, fIfS, fRet, fRetN, fNx, fAsg, fSet, fDrop, fPar, fBrk, fCnt, fAnd, fOr, fNot, fIf, tst, tNotF, tAndF, tOrF, tYesF, f2, f3, fB, fC, fVar, fAll_nil, fAll_cons, fTup, fLst, fCall, bnd_ret, asB_bl, lif_some, lif_gN, List.map_cons, List.map_nil, List.replicate_succ, List.replicate_zero, List.cons_append, List.nil_append, List.append_nil, List.getElem?_cons_zero, List.getElem?_cons_succ, List.set_cons_zero, List.set_cons_succ, Nat.reduceSub, Nat.reduceAdd, Nat.reduceLeDiff, Nat.reduceMul, if_true, if_false, Bool.false_eq_true, Bool.not_true, Bool.not_false, ite_true, ite_false, reduceIte, Nat.zero_add, mul_small (show -18446744073709551616 < (69621 : Int) ∧ (69621 : Int) < 18446744073709551616 by decide), lif_add, lif_intOf, lif_mod hp]
    rw [step, bnd_ret]
    exact h2
variable {q : Str} {g c : List Int} {r t : Int} {tail : Mu}
theorem prime_step {tt fd p : Int} {x3 x4 x5 : Option D} (ht : 0 ≤ tt ∧ tt ≤ 1000000000001) (hp : 1000 < p) (hp2 : p < 4294967296) : ∃ fd' y3 y4 y5, ∀ k : Out → M Out,
    bnd (b__law_blended_1 (([some (.r 2), some (di tt), some (di fd), x3, x4, x5] : En).set 3 (some (di p)))) k (SM q g c r t tail) = k (.nx [some (.r 2), some (di tt), some (di fd'), y3, y4, y5]) (SM q g c r t tail) := by
  have hq0 : 0 ≤ p / 53 := Int.ediv_nonneg (by omega) (by decide)
  have hq1 : p / 53 ≤ p := Int.ediv_le_self _ (by omega)
  obtain ⟨b', y5, h1, h2⟩ := blend_loop (a0 := some (.r 2)) (a2 := some (di fd)) (tt := tt) (p := p) (by omega) (by omega) (cs := c) (b := 48271 * tt + p / 53) (x5 := x5) ⟨by omega, by omega⟩
  have hm : lif (dInt iPow (di b') (di 5)) = ret (di (b' ^ 5)) := lif_pow (j := 5) h1 (by decide)
  refine ⟨fd * 2147483647 + (b' ^ 5) % p, some (di p), some (di b'), y5, fun k => ?_⟩
  simp only [b__law_blended_1, fSeq, fIfS, fRet, fRetN, fNx, fAsg, fSet, fDrop, fPar, fBrk, fCnt, fAnd, fOr, fNot, fIf, tst, tNotF, tAndF, tOrF, tYesF, f2, f3, fB, fC, fVar, fAll_nil, fAll_cons, fTup, fLst, fCall, bnd_ret, asB_bl, lif_some, lif_gN, List.map_cons, List.map_nil, List.replicate_succ, List.replicate_zero, List.cons_append, List.nil_append, List.append_nil, List.getElem?_cons_zero, List.getElem?_cons_succ, List.set_cons_zero, List.set_cons_succ, Nat.reduceSub, Nat.reduceAdd, Nat.reduceLeDiff, Nat.reduceMul, if_true, if_false, Bool.false_eq_true, Bool.not_true, Bool.not_false, ite_true, ite_false, reduceIte, Nat.zero_add, mul_smallL (show -18446744073709551616 < (48271 : Int) ∧ (48271 : Int) < 18446744073709551616 by decide), lif_add, lif_fdiv (show (0 : Int) < 53 by decide) (show (53 : Int) < 1073741824 by decide), bnd_assoc, fFor]
  have hcells : fItm (fGet "cells" (fVar 0)) [some (.r 2), some (di tt), some (di fd), some (di p), some (di (48271 * tt + p / 53)), x5] (SM q g c r t tail) = some (.ok (c.map di) (SM q g c r t tail)) := by
    unfold fItm
    rw [bnd_at (fGet_at (n := 2) (kvs := [(.inr "great", .r 1), (.inr "cells", .lst (c.map di)), (.inr "rest", di r), (.inr "turn", di t)]) rfl rfl val_cells)]
    rfl
  rw [bnd_at hcells, h2]
  simp only [fSeq, fIfS, fRet, fRetN, fNx, fAsg, fSet, fDrop, fPar, fBrk, fCnt, fAnd, fOr, fNot, fIf, tst, tNotF, tAndF, tOrF, tYesF, f2, f3, fB, fC, fVar, fAll_nil, fAll_cons, fTup, fLst, fCall, bnd_ret, asB_bl, lif_some, lif_gN, List.map_cons, List.map_nil, List.replicate_succ, List.replicate_zero, List.cons_append, List.nil_append, List.append_nil, List.getElem?_cons_zero, List.getElem?_cons_succ, List.set_cons_zero, List.set_cons_succ, Nat.reduceSub, Nat.reduceAdd, Nat.reduceLeDiff, Nat.reduceMul, if_true, if_false, Bool.false_eq_true, Bool.not_true, Bool.not_false, ite_true, ite_false, reduceIte, Nat.zero_add, mul_small (show -18446744073709551616 < (2147483647 : Int) ∧ (2147483647 : Int) < 18446744073709551616 by decide), hm, lif_intOf, lif_mod (show 0 < p by omega), lif_add]
theorem blended_ok (ht : 0 ≤ t) (ht2 : t ≤ 1000000000000) : ∃ fd, F__law_blended [.r 2] (SM q g c r t tail) = some (.ok (di fd) (SM q g c r (t + 1) tail)) := by
  have hturn : fGet "turn" (fVar 0) [some (.r 2), none, none, none, none, none] (SM q g c r t tail) = some (.ok (di t) (SM q g c r t tail)) := fGet_at (n := 2) rfl rfl val_turn
  have hput : fPut "turn" (fVar 0) (fVar 1) [some (.r 2), some (di (t + 1)), some (di 0), none, none, none] (SM q g c r t tail) = some (.ok (.nx [some (.r 2), some (di (t + 1)), some (di 0), none, none, none]) (SM q g c r (t + 1) tail)) := by
    have z := fPut_at (k := "turn") (fo := fVar 0) (fa := fVar 1) (ρ := [some (.r 2), some (di (t + 1)), some (di 0), none, none, none]) (μ := SM q g c r t tail) (μ1 := SM q g c r t tail) (n := 2) (d := di (t + 1)) rfl rfl rfl (by show 4 ≤ 1000; decide) put_turn
    exact z
  obtain ⟨f1, a3, a4, a5, s1⟩ := prime_step (q := q) (g := g) (c := c) (r := r) (t := t + 1) (tail := tail) (tt := t + 1) (fd := 0) (p := 2147483579) (x3 := none) (x4 := none) (x5 := none) ⟨by omega, by omega⟩ (by decide) (by decide)
  obtain ⟨f2', b3, b4, b5, s2⟩ := prime_step (q := q) (g := g) (c := c) (r := r) (t := t + 1) (tail := tail) (tt := t + 1) (fd := f1) (p := 2147483629) (x3 := a3) (x4 := a4) (x5 := a5) ⟨by omega, by omega⟩ (by decide) (by decide)
  obtain ⟨f3', c3, c4, c5, s3⟩ := prime_step (q := q) (g := g) (c := c) (r := r) (t := t + 1) (tail := tail) (tt := t + 1) (fd := f2') (p := 2147483563) (x3 := b3) (x4 := b4) (x5 := b5) ⟨by omega, by omega⟩ (by decide) (by decide)
  refine ⟨f3', bodyF_at rfl ?_⟩
  simp only [f__law_blended, fSeq, fPar, fAll_cons, fAll_nil, f2, fC, List.map_cons, List.map_nil, List.replicate_succ, List.replicate_zero, List.cons_append, List.nil_append, List.append_nil, List.getElem?_cons_zero, List.getElem?_cons_succ, List.set_cons_zero, List.set_cons_succ, Nat.reduceSub, Nat.reduceAdd, Nat.reduceLeDiff, Nat.reduceMul, if_true, if_false, Bool.false_eq_true, Bool.not_true, Bool.not_false, ite_true, ite_false, reduceIte, Nat.zero_add, bnd_assoc, bnd_ret]
  rw [bnd_at hturn]
  simp only [lif_add, bnd_ret, List.map_cons, List.map_nil, List.replicate_succ, List.replicate_zero, List.cons_append, List.nil_append, List.append_nil, List.getElem?_cons_zero, List.getElem?_cons_succ, List.set_cons_zero, List.set_cons_succ, Nat.reduceSub, Nat.reduceAdd, Nat.reduceLeDiff, Nat.reduceMul, if_true, if_false, Bool.false_eq_true, Bool.not_true, Bool.not_false, ite_true, ite_false, reduceIte, Nat.zero_add]
  rw [bnd_at hput]
  dsimp only
  rw [fFor_eval (ds := [di 2147483579, di 2147483629, di 2147483563]) (fItm_lst (by simp only [fSeq, fIfS, fRet, fRetN, fNx, fAsg, fSet, fDrop, fPar, fBrk, fCnt, fAnd, fOr, fNot, fIf, tst, tNotF, tAndF, tOrF, tYesF, f2, f3, fB, fC, fVar, fAll_nil, fAll_cons, fTup, fLst, fCall, bnd_ret, asB_bl, lif_some, lif_gN, List.map_cons, List.map_nil, List.replicate_succ, List.replicate_zero, List.cons_append, List.nil_append, List.append_nil, List.getElem?_cons_zero, List.getElem?_cons_succ, List.set_cons_zero, List.set_cons_succ, Nat.reduceSub, Nat.reduceAdd, Nat.reduceLeDiff, Nat.reduceMul, if_true, if_false, Bool.false_eq_true, Bool.not_true, Bool.not_false, ite_true, ite_false, reduceIte, Nat.zero_add]))]
  rw [loopS_cons, lif_gN, bnd_ret, bnd_assoc, s1]
  dsimp only
  rw [loopS_cons, lif_gN, bnd_ret, bnd_assoc, s2]
  dsimp only
  rw [loopS_cons, lif_gN, bnd_ret, bnd_assoc, s3]
  rfl
theorem fill_rest {ρ : En} (h : fVar 0 ρ = ret (.r 2)) (h0 : 0 ≤ t) (ht : t ≤ 1000000000000) : ∃ g' r' t', 0 ≤ t' ∧ t' ≤ t + 1 ∧
    fPut "rest" (fVar 0) (fIf (tst (f2 dNe (fGet "great" (fVar 0)) (fLst []))) (fMl lPop (fGet "great" (fVar 0)) [fC (di 0)]) (fCall F__law_blended [fVar 0])) ρ (SM q g c r t tail) = some (.ok (.nx ρ) (SM q g' c r' t' tail)) := by
  have hval : ∃ g' r' t', 0 ≤ t' ∧ t' ≤ t + 1 ∧ fIf (tst (f2 dNe (fGet "great" (fVar 0)) (fLst []))) (fMl lPop (fGet "great" (fVar 0)) [fC (di 0)]) (fCall F__law_blended [fVar 0]) ρ (SM q g c r t tail) = some (.ok (di r') (SM q g' c r t' tail)) := by
    unfold fIf
    simp only [tst, f2, fLst, fAll_nil, bnd_ret, bnd_assoc]
    rw [bnd_at (get_great h), bnd_at (lif_at great_ne), asB_bl, bnd_ret]
    cases g with
    | nil =>
      obtain ⟨fd, hfd⟩ := blended_ok (q := q) (g := []) (c := c) (r := r) (t := t) (tail := tail) h0 ht
      refine ⟨[], fd, t + 1, by omega, by omega, ?_⟩
      rw [if_neg (show ¬ ((!([] : List Int).isEmpty) = true) by decide)]
      unfold fCall
      rw [fAll_cons, bnd_assoc, h, bnd_ret, fAll_nil, bnd_ret, bnd_ret]
      exact hfd
    | cons x g =>
      refine ⟨g, x, t, h0, by omega, ?_⟩
      rw [if_pos (show ((!(x :: g).isEmpty) = true) from rfl)]
      exact pop_great h
  obtain ⟨g', r', t', p1, p2, hv⟩ := hval
  refine ⟨g', r', t', p1, p2, ?_⟩
  have z := fPut_at (k := "rest") (fo := fVar 0) (ρ := ρ) (n := 2) (d := di r') hv h rfl (by show 4 ≤ 1000; decide) put_rest
  exact z
theorem draw_ok {n : Int} (hn : 0 < n) (hn2 : n < 1073741824) : Dw q c 1 tail (F__law_draw [.r 2, .v (.int n)]) fun d tl => (∃ k : Nat, (k : Int) < n ∧ d = .v (.int (k : Int))) ∧ tl = tail := fun g r t h0 h1 => by
  have main : ∀ (g' : List Int) (r' t' : Int), (fSeq (fSet 2 (f2 (dInt iMod) (fB dIntOf [fGet "rest" (fVar 0)]) (fVar 1))) (fSeq (fPut "rest" (fVar 0) (f2 (dInt iFdiv) (fGet "rest" (fVar 0)) (fVar 1))) (fRet (fVar 2)))) [some (.r 2), some (di n), none] (SM q g' c r' t' tail) =
      some (.ok (.rt (di (r' % n))) (SM q g' c (r' / n) t' tail)) := fun g' r' t' => by
    have hm : lif (dInt iMod (di r') (di n)) = ret (di (r' % n)) := lif_mod hn
    have hd : lif (dInt iFdiv (di r') (di n)) = ret (di (r' / n)) := lif_fdiv hn hn2
    simp only [fSeq, fSet, fAsg, f2, fB, fAll_cons, fAll_nil, bnd_assoc, bnd_ret]
    rw [bnd_at (get_rest rfl)]
    simp only [fVar, lif_intOf, List.map_cons, List.map_nil, List.replicate_succ, List.replicate_zero, List.cons_append, List.nil_append, List.append_nil, List.getElem?_cons_zero, List.getElem?_cons_succ, List.set_cons_zero, List.set_cons_succ, Nat.reduceSub, Nat.reduceAdd, Nat.reduceLeDiff, Nat.reduceMul, if_true, if_false, Bool.false_eq_true, Bool.not_true, Bool.not_false, ite_true, ite_false, reduceIte, Nat.zero_add, bnd_ret, hm, lif_gN]
    have hv : f2 (dInt iFdiv) (fGet "rest" (fVar 0)) (fVar 1) [some (.r 2), some (di n), some (di (r' % n))] (SM q g' c r' t' tail) = some (.ok (di (r' / n)) (SM q g' c r' t' tail)) := by
      unfold f2
      rw [bnd_at (get_rest rfl)]
      simp only [fVar, List.map_cons, List.map_nil, List.replicate_succ, List.replicate_zero, List.cons_append, List.nil_append, List.append_nil, List.getElem?_cons_zero, List.getElem?_cons_succ, List.set_cons_zero, List.set_cons_succ, Nat.reduceSub, Nat.reduceAdd, Nat.reduceLeDiff, Nat.reduceMul, if_true, if_false, Bool.false_eq_true, Bool.not_true, Bool.not_false, ite_true, ite_false, reduceIte, Nat.zero_add, bnd_ret, hd]
      rfl
    have z := fPut_at (k := "rest") (fo := fVar 0) (ρ := [some (.r 2), some (di n), some (di (r' % n))]) (n := 2) (d := di (r' / n)) hv rfl rfl (by show 4 ≤ 1000; decide) put_rest
    have z2 : fPut "rest" (fVar 0) (f2 (dInt iFdiv) (fGet "rest" (fVar 0)) (fVar 1)) [some (.r 2), some (di n), some (di (r' % n))] (SM q g' c r' t' tail) = some (.ok (.nx [some (.r 2), some (di n), some (di (r' % n))]) (SM q g' c (r' / n) t' tail)) := z
    have z3 := bnd_at (k := fun o => match o with | .nx ρ' => fRet (fVar 2) ρ' | o => ret o) z2
    exact z3
  have k0 : ∀ r' : Int, 0 ≤ r' % n ∧ r' % n < n := fun r' => ⟨Int.emod_nonneg _ (Int.ne_of_gt hn), Int.emod_lt_of_pos _ hn⟩
  by_cases hr : (r == 0) = true
  · obtain ⟨g', r', t', p1, p2, hf⟩ := fill_rest (q := q) (g := g) (c := c) (r := r) (t := t) (tail := tail) (ρ := [some (.r 2), some (di n), none]) rfl h0 (by omega)
    refine ⟨di (r' % n), g', r' / n, t', tail, bodyF_at rfl ?_, p1, p2, ⟨(r' % n).toNat, by have := k0 r'; omega, by have := k0 r'; show D.v (.int (r' % n)) = _; congr 2; omega⟩, rfl⟩
    have m := main g' r' t'
    unfold f__law_draw
    unfold fSeq
    unfold fIfS
    simp only [tst, f2, fC, bnd_assoc, List.map_cons, List.map_nil, List.replicate_succ, List.replicate_zero, List.cons_append, List.nil_append, List.append_nil, List.getElem?_cons_zero, List.getElem?_cons_succ, List.set_cons_zero, List.set_cons_succ, Nat.reduceSub, Nat.reduceAdd, Nat.reduceLeDiff, Nat.reduceMul, if_true, if_false, Bool.false_eq_true, Bool.not_true, Bool.not_false, ite_true, ite_false, reduceIte, Nat.zero_add]
    rw [bnd_at (get_rest rfl)]
    simp only [bnd_ret, lif_eqI, asB_bl, hr, if_true]
    rw [bnd_at hf]
    exact m
  · rw [Bool.not_eq_true] at hr
    refine ⟨di (r % n), g, r / n, t, tail, bodyF_at rfl ?_, h0, by omega, ⟨(r % n).toNat, by have := k0 r; omega, by have := k0 r; show D.v (.int (r % n)) = _; congr 2; omega⟩, rfl⟩
    have m := main g r t
    unfold f__law_draw
    unfold fSeq
    unfold fIfS
    simp only [tst, f2, fC, bnd_assoc, List.map_cons, List.map_nil, List.replicate_succ, List.replicate_zero, List.cons_append, List.nil_append, List.append_nil, List.getElem?_cons_zero, List.getElem?_cons_succ, List.set_cons_zero, List.set_cons_succ, Nat.reduceSub, Nat.reduceAdd, Nat.reduceLeDiff, Nat.reduceMul, if_true, if_false, Bool.false_eq_true, Bool.not_true, Bool.not_false, ite_true, ite_false, reduceIte, Nat.zero_add]
    rw [bnd_at (get_rest rfl)]
    simp only [bnd_ret, lif_eqI, asB_bl, hr, Bool.false_eq_true, if_false, fNx]
    exact m
theorem pick_ok {xs : List D} (hn : 0 < xs.length) (hn2 : xs.length < 1073741824) : Dw q c 1 tail (F__law_pick [.r 2, .lst xs]) fun d tl => d ∈ xs ∧ tl = tail := fun g r t h0 h1 => by
  obtain ⟨d, g', r', t', tl, e1, p1, p2, ⟨k, hk, rfl⟩, htl⟩ := draw_ok (q := q) (c := c) (tail := tail) (n := (xs.length : Int)) (by omega) (by omega) g r t h0 h1
  have hget : xs[k]? = some xs[k] := List.getElem?_eq_getElem (by omega)
  refine ⟨xs[k], g', r', t', tl, bodyF_at rfl ?_, p1, p2, List.getElem_mem _, htl⟩
  simp only [f__law_pick, fRet, f2, fCall, fB, fVar, fAll_cons, fAll_nil, List.map_cons, List.map_nil, List.replicate_succ, List.replicate_zero, List.cons_append, List.nil_append, List.append_nil, List.getElem?_cons_zero, List.getElem?_cons_succ, List.set_cons_zero, List.set_cons_succ, Nat.reduceSub, Nat.reduceAdd, Nat.reduceLeDiff, Nat.reduceMul, if_true, if_false, Bool.false_eq_true, Bool.not_true, Bool.not_false, ite_true, ite_false, reduceIte, Nat.zero_add, bnd_ret, bnd_assoc, lif_lenL]
  rw [bnd_at e1, lif_ixL hget]
  rfl
theorem begun_ok {ns : List Int} {q : Str} (h : ns.length ≤ 63) : ∃ g c, F__law_begun [.lst (ns.map di)] [.tab q] = some (.ok (.r 2) (SM q g c 0 0 [])) := by
  have hp : lif (dInt iPow (di 10) (di 18)) = ret (di 1000000000000000000) := lif_pow (i := 10) (j := 18) (by decide) (by decide)
  refine ⟨(ns.filter fun i => decide ((if i < 0 then -i else i) ≥ (1000000000000000000 : Int))).map fun i => (if i < 0 then -i else i) - 1000000000000000000, ns.map fun i => if i < 0 then -i else i, bodyF_at rfl ?_⟩
  have e1 : fLcM (fItm (fVar 0)) (gN 2) (tst (f2 dGe (fB dAbs [fVar 2]) (f2 (dInt iPow) (fC (.v (.int 10))) (fC (.v (.int 18)))))) (f2 (dInt iSub) (fB dAbs [fVar 2]) (f2 (dInt iPow) (fC (.v (.int 10))) (fC (.v (.int 18))))) [2] [some (.lst (ns.map di)), none, none] =
      newc (.lst (((ns.filter fun i => decide ((if i < 0 then -i else i) ≥ (1000000000000000000 : Int))).map fun i => (if i < 0 then -i else i) - 1000000000000000000).map di)) := by
    refine fLcM_eval (ds := ns.map di) (fItm_lst rfl) (by rw [List.length_map]; omega) ?_
    rw [List.map_map]
    refine lcGo_filterL (e := di) (p := fun i => decide ((if i < 0 then -i else i) ≥ (1000000000000000000 : Int))) fun i hi => ⟨?_, fun _ => ?_⟩
    · simp only [wipeE, fSeq, fIfS, fRet, fRetN, fNx, fAsg, fSet, fDrop, fPar, fBrk, fCnt, fAnd, fOr, fNot, fIf, tst, tNotF, tAndF, tOrF, tYesF, f2, f3, fB, fC, fVar, fAll_nil, fAll_cons, fTup, fLst, fCall, bnd_ret, asB_bl, lif_some, lif_gN, List.map_cons, List.map_nil, List.replicate_succ, List.replicate_zero, List.cons_append, List.nil_append, List.append_nil, List.getElem?_cons_zero, List.getElem?_cons_succ, List.set_cons_zero, List.set_cons_succ, Nat.reduceSub, Nat.reduceAdd, Nat.reduceLeDiff, Nat.reduceMul, if_true, if_false, Bool.false_eq_true, Bool.not_true, Bool.not_false, ite_true, ite_false, reduceIte, Nat.zero_add, absI, hp]
      rfl
    · simp only [wipeE, fSeq, fIfS, fRet, fRetN, fNx, fAsg, fSet, fDrop, fPar, fBrk, fCnt, fAnd, fOr, fNot, fIf, tst, tNotF, tAndF, tOrF, tYesF, f2, f3, fB, fC, fVar, fAll_nil, fAll_cons, fTup, fLst, fCall, bnd_ret, asB_bl, lif_some, lif_gN, List.map_cons, List.map_nil, List.replicate_succ, List.replicate_zero, List.cons_append, List.nil_append, List.append_nil, List.getElem?_cons_zero, List.getElem?_cons_succ, List.set_cons_zero, List.set_cons_succ, Nat.reduceSub, Nat.reduceAdd, Nat.reduceLeDiff, Nat.reduceMul, if_true, if_false, Bool.false_eq_true, Bool.not_true, Bool.not_false, ite_true, ite_false, reduceIte, Nat.zero_add, absI, hp, lif_sub]
      rfl
  have e2 : ∀ x, fLc (fItm (fVar 0)) (gN 2) tYesF (fB dAbs [fVar 2]) [2] [some (.lst (ns.map di)), x, none] = ret (.lst ((ns.map fun i => if i < 0 then -i else i).map di)) := fun x => by
    refine fLc_eval (ds := ns.map di) (fItm_lst rfl) (by rw [List.length_map]; omega) ?_
    rw [List.map_map]
    refine lcGo_mapL (e := di) fun i hi => ?_
    simp only [wipeE, fSeq, fIfS, fRet, fRetN, fNx, fAsg, fSet, fDrop, fPar, fBrk, fCnt, fAnd, fOr, fNot, fIf, tst, tNotF, tAndF, tOrF, tYesF, f2, f3, fB, fC, fVar, fAll_nil, fAll_cons, fTup, fLst, fCall, bnd_ret, asB_bl, lif_some, lif_gN, List.map_cons, List.map_nil, List.replicate_succ, List.replicate_zero, List.cons_append, List.nil_append, List.append_nil, List.getElem?_cons_zero, List.getElem?_cons_succ, List.set_cons_zero, List.set_cons_succ, Nat.reduceSub, Nat.reduceAdd, Nat.reduceLeDiff, Nat.reduceMul, if_true, if_false, Bool.false_eq_true, Bool.not_true, Bool.not_false, ite_true, ite_false, reduceIte, Nat.zero_add, absI]
    rfl
  simp only [f__law_begun, fSeq, fSet, fAsg, List.map_cons, List.map_nil, List.replicate_succ, List.replicate_zero, List.cons_append, List.nil_append, List.append_nil, List.getElem?_cons_zero, List.getElem?_cons_succ, List.set_cons_zero, List.set_cons_succ, Nat.reduceSub, Nat.reduceAdd, Nat.reduceLeDiff, Nat.reduceMul, if_true, if_false, Bool.false_eq_true, Bool.not_true, Bool.not_false, ite_true, ite_false, reduceIte, Nat.zero_add, bnd_assoc, e1]
  rw [bnd_at newc_at]
  simp only [lif_gN, bnd_ret, List.map_cons, List.map_nil, List.replicate_succ, List.replicate_zero, List.cons_append, List.nil_append, List.append_nil, List.getElem?_cons_zero, List.getElem?_cons_succ, List.set_cons_zero, List.set_cons_succ, Nat.reduceSub, Nat.reduceAdd, Nat.reduceLeDiff, Nat.reduceMul, if_true, if_false, Bool.false_eq_true, Bool.not_true, Bool.not_false, ite_true, ite_false, reduceIte, Nat.zero_add, fRet, fDic, fAll_cons, fAll_nil, e2, fVar, fC]
  rfl
variable {q : Str} {g c : List Int} {r t : Int} {pre tail : Mu}
section
variable {q : Str} {c : List Int} {n m l : Nat} {pre tail P : Mu} {ρ : En}
/-- a draw written in the law -/
theorem Dw.draw {i : Nat} {fa : FE} {k : Int} (h0 : ρ[i]? = some (some (.r 2))) (h1 : fa ρ = Tr.ret (di k)) (hk : 0 < k) (hk2 : k < 1073741824) : Dw q c 1 tail (fCall F__law_draw [fVar i, fa] ρ) fun d tl => (∃ j : Nat, (j : Int) < k ∧ d = di j) ∧ tl = tail :=
  Dw.call (ds := [.r 2, di k]) (by rw [fAll_cons, fVar_eq h0, bnd_ret, fAll_cons, h1, bnd_ret, fAll_nil, bnd_ret, bnd_ret]) (draw_ok hk hk2)
theorem Dw.pick {i : Nat} {fa : FE} {xs : List D} (h0 : ρ[i]? = some (some (.r 2))) (h1 : fa ρ = Tr.ret (.lst xs)) (hk : 0 < xs.length) (hk2 : xs.length < 1073741824) : Dw q c 1 tail (fCall F__law_pick [fVar i, fa] ρ) fun d tl => d ∈ xs ∧ tl = tail :=
  Dw.call (ds := [.r 2, .lst xs]) (by rw [fAll_cons, fVar_eq h0, bnd_ret, fAll_cons, h1, bnd_ret, fAll_nil, bnd_ret, bnd_ret]) (pick_ok hk hk2)
end
theorem at_loop {a1 : Option D} : ∀ {p : List Nat} {d x : D} {x2 : Option D}, atP d p = some x → ∃ y2, loopS (gN 2) b__law_oh_at_0 (p.map fun i : Nat => di (i : Int)) [some d, a1, x2] = ret (.nx [some x, a1, y2])
  | [], d, x, x2, h => by
    unfold atP at h
    cases h
    exact ⟨x2, rfl⟩
  | i :: p, d, x, x2, h => by
    cases d with
    | tup xs =>
      unfold atP at h
      cases hx : xs[i]? with
      | none => rw [hx] at h; cases h
      | some w =>
        rw [hx] at h
        obtain ⟨y2, e⟩ := at_loop (a1 := a1) (x2 := some (di i)) h
        refine ⟨y2, ?_⟩
        rw [List.map_cons, loopS_cons, lif_gN, bnd_ret]
        have s : b__law_oh_at_0 (([some (.tup xs), a1, x2] : En).set 2 (some (di i))) = ret (.nx [some w, a1, some (di i)]) := by
          unfold b__law_oh_at_0 fSet fAsg
          rw [f2_eq (a := .tup xs) (b := di i) (d := w) (fVar_eq rfl) (fVar_eq rfl) (lif_ixT hx), bnd_ret, lif_gN, bnd_ret]
          rfl
        rw [s, bnd_ret]
        exact e
    | _ => unfold atP at h; cases h
theorem F_at_ok {d x : D} {p : List Nat} (h : atP d p = some x) : F__law_oh_at [d, pthD p] = ret x := by
  obtain ⟨y2, e⟩ := at_loop (a1 := some (pthD p)) (x2 := none) h
  refine bodyF_rt rfl ?_
  unfold f__law_oh_at fSeq
  rw [fFor_eval (fItm_tup (fVar_eq (i := 1) (d := pthD p) rfl))]
  rw [show (List.map some [d, pthD p] ++ List.replicate (3 - 2) none : En) = [some d, some (pthD p), none] from rfl, e, bnd_ret]
  rfl
theorem F_put_ok : ∀ {j : Nat} {p : List Nat} {d x y : D}, p.length < j → p.length ≤ 16777216 → wt d ≤ 4000 → atP d p = some x → F__law_oh_put j [d, pthD p, y] = ret (putP d p y)
  | 0, p, d, x, y, hj, _, _, _ => absurd hj (Nat.not_lt_zero _)
  | j + 1, [], d, x, y, hj, hl, hw, h => by
    unfold F__law_oh_put
    refine bodyF_rt rfl ?_
    unfold f__law_oh_put
    rw [seq_if (b := true) (a := y) (tst_eq (f2_eq (fVar_eq (i := 1) (d := .tup []) rfl) rfl (eqT_nil (xs := []) rfl (Nat.zero_le _)))) (fVar_eq (i := 2) rfl), if_pos rfl]
    unfold putP
    rfl
  | j + 1, i :: p, d, x, y, hj, hl, hw, h => by
    cases d with
    | tup xs =>
      unfold atP at h
      cases hx : xs[i]? with
      | none => rw [hx] at h; cases h
      | some w =>
        rw [hx] at h
        rw [List.length_cons] at hj hl
        have hil := (List.getElem?_eq_some_iff.mp hx).1
        have hxl : xs.length ≤ 4000 := by
          have := wts_len xs
          have e : wt (.tup xs) = wts xs + 1 := rfl
          omega
        have hww : wt w ≤ 4000 := by
          have hm := wts_mem (List.mem_of_getElem? hx)
          have e : wt (.tup xs) = wts xs + 1 := rfl
          omega
        have ih := F_put_ok (j := j) (p := p) (d := w) (x := x) (y := y) (by omega) (by omega) hww h
        unfold F__law_oh_put
        refine bodyF_rt rfl ?_
        unfold f__law_oh_put
        have ep : fVar 1 [some (.tup xs), some (pthD (i :: p)), some y] = ret (pthD (i :: p)) := fVar_eq rfl
        have ei : Tr.f2 dIx (fVar 1) (fC (.v (.int 0))) [some (.tup xs), some (pthD (i :: p)), some y] = ret (di i) := f2_eq ep rfl lif_ixT0
        have ed : fVar 0 [some (.tup xs), some (pthD (i :: p)), some y] = ret (.tup xs) := fVar_eq rfl
        have et := slT_from (k := 1) ep (show fC (di 1) [some (.tup xs), some (pthD (i :: p)), some y] = ret (di ((1 : Nat) : Int)) from rfl) (by rw [List.length_map, List.length_cons]; omega)
        refine (seq_if (ρ := [some (.tup xs), some (pthD (i :: p)), some y]) (b := false) (a := y) (tst_eq (f2_eq ep rfl (eqT_nil (pth_pl _) (pth_dps _)))) (fVar_eq (i := 2) rfl)).trans ?_
        rw [if_neg Bool.false_ne_true]
        have ec : fCall (F__law_oh_put j) [Tr.f2 dIx (fVar 0) (Tr.f2 dIx (fVar 1) (fC (.v (.int 0)))), fSl (fVar 1) (fPart (fC (.v (.int 1)))) fNoP, fVar 2] [some (.tup xs), some (pthD (i :: p)), some y] = ret (putP w p y) := by
          unfold fCall
          rw [fAll_cons, f2_eq ed ei (lif_ixT hx), bnd_ret, fAll_cons, et, bnd_ret, fAll_cons, fVar_eq (i := 2) (d := y) rfl, bnd_ret, fAll_nil]
          simp only [bnd_ret]
          exact ih
        unfold fRet
        rw [f2_eq (f2_eq (slT_to (k := i) ed ei (by omega)) (tup1_eq ec) (lif_addT (by rw [List.length_take]; simp; omega))) (slT_from (k := i + 1) ed (f2_eq ei rfl (by rw [Int.natCast_add]; exact lif_add)) (by omega)) (lif_addT (by simp; omega)), bnd_ret]
        have ew : putP (.tup xs) (i :: p) y = .tup (xs.take i ++ [putP w p y] ++ xs.drop (i + 1)) := by
          rw [putP, hx]
        rw [ew]
    | _ => unfold atP at h; cases h
theorem spots_loop {R : List D → M D} {xs : List D} {path : List Nat} {S : Nat → List (List Nat)} (hp : path.length ≤ 1000) (hR : ∀ k w, xs[k]? = some w → R [w, pthD (path ++ [k])] = ret (.lst ((S k).map fun p => pthD (path ++ [k] ++ p)))) :
    ∀ {ks : List Nat} {acc : List (List Nat)} {x3 : Option D}, (∀ k ∈ ks, k < xs.length) → (acc ++ ks.flatMap fun i => (S i).map (i :: ·)).length ≤ 16777216 →
    ∃ y3, loopS (gN 3) (b__law_oh_spots_0 R) (ks.map fun i : Nat => di (i : Int)) [some (.tup xs), some (pthD path), some (.lst (acc.map fun p => pthD (path ++ p))), x3] =
      ret (.nx [some (.tup xs), some (pthD path), some (.lst ((acc ++ ks.flatMap fun i => (S i).map (i :: ·)).map fun p => pthD (path ++ p))), y3])
  | [], acc, x3, _, _ => ⟨x3, by rw [List.flatMap_nil, List.append_nil]; rfl⟩
  | k :: ks, acc, x3, hk, hl => by
    have hkl := hk k List.mem_cons_self
    have hx : xs[k]? = some xs[k] := List.getElem?_eq_getElem hkl
    rw [List.flatMap_cons, ← List.append_assoc] at hl
    obtain ⟨y3, e⟩ := spots_loop hp hR (ks := ks) (acc := acc ++ (S k).map (k :: ·)) (x3 := some (di k)) (fun i hi => hk i (List.mem_cons_of_mem _ hi)) hl
    refine ⟨y3, ?_⟩
    rw [List.map_cons, loopS_cons, lif_gN, bnd_ret]
    have hl2 : acc.length + (S k).length ≤ 16777216 := by
      rw [List.length_append, List.length_append, List.length_map] at hl
      omega
    have s : b__law_oh_spots_0 R (([some (.tup xs), some (pthD path), some (.lst (acc.map fun p => pthD (path ++ p))), x3] : En).set 3 (some (di k))) = ret (.nx [some (.tup xs), some (pthD path), some (.lst ((acc ++ (S k).map (k :: ·)).map fun p => pthD (path ++ p))), some (di k)]) := by
      unfold b__law_oh_spots_0 fSet fAsg
      have ec : fCall R [Tr.f2 dIx (fVar 0) (fVar 3), Tr.f2 dAdd (fVar 1) (fTup [fVar 3])] (([some (.tup xs), some (pthD path), some (.lst (acc.map fun p => pthD (path ++ p))), x3] : En).set 3 (some (di k))) = ret (.lst ((S k).map fun p => pthD (path ++ [k] ++ p))) := by
        unfold fCall
        rw [fAll_cons, f2_eq (fVar_eq (i := 0) (d := .tup xs) rfl) (fVar_eq (i := 3) (d := di k) rfl) (lif_ixT hx), bnd_ret, fAll_cons, f2_eq (fVar_eq (i := 1) (d := pthD path) rfl) (tup1_eq (fVar_eq (i := 3) (d := di k) rfl)) (lif_addT (by rw [List.length_map]; simp; omega)), bnd_ret, fAll_nil]
        simp only [bnd_ret]
        have e1 : (D.tup (path.map (fun i : Nat => di (i : Int)) ++ [di k])) = pthD (path ++ [k]) := by
          show _ = D.tup ((path ++ [k]).map fun i : Nat => di (i : Int))
          rw [List.map_append]
          rfl
        rw [e1]
        exact hR k xs[k] hx
      rw [f2_eq (fVar_eq (i := 2) rfl) ec (lif_addL (by rw [List.length_map, List.length_map]; exact hl2)), bnd_ret, lif_gN, bnd_ret]
      have e2 : (acc.map fun p => pthD (path ++ p)) ++ ((S k).map fun p => pthD (path ++ [k] ++ p)) = (acc ++ (S k).map (k :: ·)).map fun p => pthD (path ++ p) := by
        rw [List.map_append, List.map_map]
        congr 1
        refine List.map_congr_left fun p _ => ?_
        exact pth_app
      rw [e2]
      rfl
    rw [s, bnd_ret, List.flatMap_cons, ← List.append_assoc]
    exact e
theorem spots_ok : ∀ {j : Nat} {d : D} {path : List Nat}, lfD d = true → dp d < j → path.length + j ≤ 900 → wt d ≤ 4000 → F__law_oh_spots j [d, pthD path] = ret (.lst ((spotsP j d).map fun p => pthD (path ++ p)))
  | 0, d, path, _, hd, _, _ => absurd hd (Nat.not_lt_zero _)
  | j + 1, d, path, hlf, hd, hp, hw => by
    have hpl := lf_pl hlf
    unfold F__law_oh_spots
    refine bodyF_rt rfl ?_
    unfold f__law_oh_spots
    have ρ0 : (List.map some [d, pthD path] ++ List.replicate (4 - 2) none : En) = [some d, some (pthD path), none, none] := rfl
    rw [ρ0, seq_nx (set_eq (lst1_eq (fVar_eq (i := 1) (d := pthD path) rfl)))]
    have hrng : fRng1 [fIf (tst (fB dIsI [fVar 0, fC (.v (.ty "tuple"))])) (fB dLen [fVar 0]) (fC (.v (.int 0)))] [some d, some (pthD path), some (.lst [pthD path]), none] = ret (rngD 0 (subs d).length) := by
      refine rng1_eq ?_ ?_
      · refine pl_cases (P := fun d => fIf (tst (fB dIsI [fVar 0, fC (.v (.ty "tuple"))])) (fB dLen [fVar 0]) (fC (.v (.int 0))) [some d, some (pthD path), some (.lst [pthD path]), none] = ret (di ((subs d).length : Nat))) hpl (fun xs hx => ?_) fun h hn => ?_
        · subst hx
          rw [fIf_eq (tst_eq (fB2_eq (fVar_eq (i := 0) rfl) rfl (isT_t hpl))), if_pos rfl]
          exact fB1_eq (fVar_eq (i := 0) rfl) lif_lenT
        · rw [fIf_eq (tst_eq (fB2_eq (fVar_eq (i := 0) rfl) rfl h)), if_neg Bool.false_ne_true]
          have e : subs d = [] := by
            cases d with
            | tup xs => exact absurd rfl (hn xs)
            | _ => rfl
          rw [e]
          rfl
      · have := wts_len (subs d)
        have h2 := subs_wt d
        omega
    have hsl := spots_len (j + 1) d
    unfold spotsP at hsl ⊢
    rw [List.length_cons] at hsl
    by_cases ht : ∃ xs, d = .tup xs
    · obtain ⟨xs, rfl⟩ := ht
      have hwx : wts xs + 1 ≤ 4000 := hw
      have hdx : dps xs + 1 < j + 1 := hd
      obtain ⟨y3, e⟩ := spots_loop (R := F__law_oh_spots j) (xs := xs) (path := path) (S := fun k => spotsP j (xs.getD k (.v .non))) (by omega) (fun k w hk => by
        have hm := List.mem_of_getElem? hk
        have e : xs.getD k (.v .non) = w := by rw [List.getD_eq_getElem?_getD, hk]; rfl
        rw [e]
        have := wts_mem hm
        have := dps_mem hm
        exact spots_ok (lfDs_iff.mp (by unfold lfD at hlf; exact hlf) w hm) (by omega) (by rw [List.length_append, List.length_singleton]; omega) (by omega)) (ks := List.range xs.length) (acc := [[]]) (x3 := none) (fun k hk => List.mem_range.mp hk) (by
          rw [List.length_append, List.length_singleton]
          have : (subs (.tup xs)) = xs := rfl
          rw [this] at hsl
          omega)
      have e0 : [pthD path] = ([[]] : List (List Nat)).map fun p => pthD (path ++ p) := by
        rw [List.map_singleton, List.append_nil]
      have ef := fFor_eval (gt := gN 3) (fb := b__law_oh_spots_0 (F__law_oh_spots j)) hrng
      rw [rng0] at ef
      rw [← e0] at e
      refine (seq_nx (ef.trans e)).trans ?_
      exact rt_eq (fVar_eq (i := 2) rfl)
    · have e : subs d = [] := by
        cases d with
        | tup xs => exact absurd ⟨xs, rfl⟩ ht
        | _ => rfl
      rw [e] at hrng ⊢
      have ef := fFor_eval (gt := gN 3) (fb := b__law_oh_spots_0 (F__law_oh_spots j)) hrng
      refine (seq_nx (ef.trans rfl)).trans ?_
      refine (rt_eq (fVar_eq (i := 2) (d := .lst [pthD path]) rfl)).trans ?_
      simp
section
variable {q : Str} {c : List Int} {n m l : Nat} {pre tail P : Mu} {ρ : En}
theorem jn_some_ok {z : Str} {kk mm : Nat} (hk : kk ≤ 100) (hm : mm ≤ 1000) (hl : lowT pre = true) (hz : 0 < z.length) (hz2 : z.length ≤ 100) (hza : ∀ x ∈ z.cps.toList, x < 128) : Dw q c (kk * (1 + mm)) pre (F__law_jn_some [.r 2, .v (.str z), di (kk : Int), di (mm : Int)]) fun d tl => (∃ ws : List (List Nat), d = .lst (ws.map dt) ∧ ∀ w ∈ ws, w.length ≤ mm ∧ ∀ x ∈ w, x ∈ z.cps.toList) ∧ tl = pre := by
  refine Dw.closeL hl (Dw.body rfl ?_)
  unfold f__law_jn_some
  refine Dw.mono (n := 0 + (kk * (1 + mm) + 0)) ?_ (by omega) fun _ _ z => z
  have r0 : (List.map some [D.r 2, .v (.str z), di (kk : Int), di (mm : Int)] ++ List.replicate (7 - 4) none : En) = [some (.r 2), some (.v (.str z)), some (di (kk : Int)), some (di (mm : Int)), none, none, none] := rfl
  rw [r0]
  have e5 : ∀ ρ : En, fLstM [] ρ = newc (.lst []) := fun ρ => by
    unfold fLstM
    rw [fAll_nil, bnd_ret]
  refine Dw.seq (Dw.set ?_)
  rw [e5]
  refine Dw.newc ⟨_, rfl, ?_⟩
  refine Dw.seq (Dw.mono (Dw.for (k := kk * (1 + mm)) (n := 1 + mm) (ds := rngD 0 kk) (I := fun ds ρ tl => ∃ (ws : List (List Nat)) (x5 : Option D), ρ = [some (.r 2), some (.v (.str z)), some (di (kk : Int)), some (di (mm : Int)), some (.r (pre.length + 3)), x5, none] ∧ tl = pre ++ [.lst (ws.map dt)] ∧ (∀ w ∈ ws, w.length ≤ mm ∧ ∀ x ∈ w, x ∈ z.cps.toList) ∧ ws.length + ds.length ≤ kk)
    (rng1_eq (n := kk) (fVar_eq (i := 2) rfl) (by omega)) (by rw [rngD_len, Nat.mul_comm]; omega) ⟨[], none, rfl, rfl, (fun w hw => nomatch hw), by rw [rngD_len, List.length_nil]; omega⟩ fun d ds ρ tl i => ?_) (Nat.le_refl _) fun o tl i => ?_)
  · obtain ⟨ws, x5, rfl, rfl, hw, hlen⟩ := i
    rw [List.length_cons] at hlen
    rw [lif_gN, bnd_ret]
    unfold b__law_jn_some_0
    refine Dw.app (i := pre.length) (j := 4) rfl (xs0 := ws.map dt) (by simp) ?_
    refine Dw.ms (z := tx []) rfl ?_
    refine Dw.mono (n := 1 + mm) (Dw.lcV (k0 := 1) (k := mm) (n := 1) (J := fun acc ds tl => tl = pre ++ [.lst (ws.map dt)] ∧ ∃ ls : List Nat, acc = ls.map (fun c => dt [c]) ∧ (∀ x ∈ ls, x ∈ z.cps.toList) ∧ ls.length + ds.length ≤ mm) ?_ (fun acc d ds tl j => ?_) fun out tl j => ?_) (by omega) fun _ _ z => z
    · refine Dw.rng1 (Dw.mono (Dw.draw (k := (mm : Int) + 1) rfl (f2_eq (fVar_eq (i := 3) rfl) rfl lif_add) (by omega) (by omega)) (Nat.le_refl _) fun y tl z' => ?_)
      obtain ⟨⟨j, hj, rfl⟩, rfl⟩ := z'
      exact ⟨j, rfl, by omega, by rw [rngD_len]; omega, by rw [rngD_len]; omega, rfl, [], rfl, (fun x hx => nomatch hx), by rw [rngD_len, List.length_nil]; omega⟩
    · obtain ⟨rfl, ls, rfl, hx, hls⟩ := j
      rw [List.length_cons] at hls
      refine Dw.mono (Dw.pick (xs := chars z) rfl (fB1_eq (fVar_eq (i := 1) rfl) (lif_eq fun μ => rfl)) (by rw [chars_len]; exact hz) (by rw [chars_len]; omega)) (Nat.le_refl _) fun y tl z' => ?_
      obtain ⟨hy, rfl⟩ := z'
      rw [chars_tx] at hy
      obtain ⟨x, hxz, rfl⟩ := List.mem_map.mp hy
      refine ⟨rfl, ls ++ [x], by rw [List.map_append]; rfl, fun y hy => ?_, by rw [List.length_append, List.length_singleton]; omega⟩
      rcases List.mem_append.mp hy with h | h
      · exact hx y h
      · rw [List.mem_singleton] at h; rw [h]; exact hxz
    · obtain ⟨rfl, ls, rfl, hx, hls⟩ := j
      rw [List.length_nil, Nat.add_zero] at hls
      have e : (ls.map (fun c => dt [c])) = (ls.map fun c => [c]).map dt := by rw [List.map_map]; rfl
      refine ⟨dt ls, lif_eq fun μ => ?_, ws.map dt, by simp, by rw [List.length_map]; omega, ?_⟩
      · rw [e]
        have j := join_eval (ys := ls.map fun c => [c]) (by rw [flatten_ones]; omega) μ
        rw [flatten_ones] at j
        exact j
      · refine ⟨_, rfl, ws ++ [ls], some d, rfl, ?_, ?_, by rw [List.length_append, List.length_singleton]; omega⟩
        · rw [set_mid (junk := [])]
          rw [List.map_append]
          rfl
        · intro w hw'
          rcases List.mem_append.mp hw' with h | h
          · exact hw w h
          · rw [List.mem_singleton] at h
            subst h
            exact ⟨hls, hx⟩
  · obtain ⟨ρ', rfl, ws, x5, rfl, rfl, hw, hlen⟩ := i
    refine ⟨_, rfl, Dw.rt (Dw.eq (fVar_eq (i := 4) rfl) ⟨_, rfl, ws.map dt, [], rfl, rfl, plDs_iff.mpr fun d hd => ?_, ⟨ws, rfl, hw⟩, rfl⟩)⟩
    obtain ⟨w, hww, rfl⟩ := List.mem_map.mp hd
    obtain ⟨h1, h2⟩ := hw w hww
    exact dt_pl (fun x hx => hza x (h2 x hx)) (by omega)
end
section
variable {ρ ρ' : En} {μ μ' μ2 : Mu}
theorem same_at {a b : D} {s : Str} (h1 : dReprG [a] μ = some (.v (.str s))) (h2 : dReprG [b] μ = some (.v (.str s))) : F__law_oh_same [a, b] μ = some (.ok (.v (.bl true)) μ) := by
  refine bodyF_at rfl ?_
  have e : ∀ (x : D) (i : Nat), dReprG [x] μ = some (.v (.str s)) → fVar i [some a, some b] = Tr.ret x → fB dReprG [fVar i] [some a, some b] μ = some (.ok (.v (.str s)) μ) := fun x i hx hv => by
    unfold fB
    rw [fAll_cons, hv, bnd_ret, fAll_nil, bnd_ret, bnd_ret]
    exact lif_at hx
  show fRet (Tr.f2 dEq (fB dReprG [fVar 0]) (fB dReprG [fVar 1])) [some a, some b] μ = _
  refine rt_at ?_
  unfold Tr.f2
  rw [bnd_at (e a 0 h1 rfl), bnd_at (e b 1 h2 rfl), lif_eqSS]
  show some (R.ok (D.v (.bl (s == s))) μ) = _
  rw [beq_self_eq_true]
theorem truth_ok {b : Bool} : F__law_is_truth [.v (.bl b), .v (.bl b)] μ = some (.ok (.v (.bl true)) μ) := by
  cases b <;> rfl
end
section
variable {q : Str} {c : List Int} {n m l : Nat} {pre tail P : Mu} {ρ : En}
theorem bent_ok {d : D} (hlf : lfD d = true) (hdp : dp d < 12) (hwt : wt d ≤ 400) (hwd : wd d ≤ 30) (htup : ∃ x xs, d = .tup (x :: xs)) : Dw q c 3 tail (F__law_oh_bent [.r 2, d]) fun x tl => plD x = true ∧ wt x ≤ 3990 ∧ wd x ≤ 60 ∧ tl = tail := by
  have hpl := lf_pl hlf
  have htwo : 2 ≤ (spotsP 12 d).length := by
    obtain ⟨x, xs, rfl⟩ := htup
    exact spots_two
  have hlen := spots_len 12 d
  have hsp : F__law_oh_spots 12 [d, .tup []] = Tr.ret (.lst ((spotsP 12 d).map pthD)) := spots_ok (j := 12) (d := d) (path := []) hlf (by omega) (by decide) (by omega)
  generalize hS : spotsP 12 d = S at *
  have hat : ∀ p ∈ S, ∃ x, F__law_oh_at [d, pthD p] = Tr.ret x ∧ atP d p = some x ∧ lfD x = true ∧ wt x ≤ wt d ∧ dp x ≤ dp d ∧ p.length < 12 := fun p hp => by
    rw [← hS] at hp
    obtain ⟨x, h1, h2, h3, h4⟩ := spots_at hp hlf
    exact ⟨x, F_at_ok h1, h1, h2, h3, at_dp h1, h4⟩
  refine Dw.body rfl ?_
  have eF : f__law_oh_bent = fSeq (fSet 2 (fCall (F__law_oh_spots 12) [fVar 1, fTup []])) (fSeq (fSet 3 (fCall F__law_pick [fVar 0, fSl (fVar 2) (fPart (fC (.v (.int 1)))) (fNoP)])) (fSeq (fSet 4 (fCall F__law_oh_at [fVar 1, fVar 3])) (fSeq (fSet 5 (fLst [fC (.v .non), fTup [], fC (.v (.int 0)), fC (.v (.int 1)), fC (.v (.bl true)), fC (.v (.str "name")), fTup [fC (.v (.str "text"))], fTup [fC (.v (.str "end"))], fC (.v (.str "ab")), fLst [], fCall F__law_oh_at [fVar 1, fCall F__law_pick [fVar 0, fVar 2]]])) (fSeq bentIf (fRet (fCall (F__law_oh_put 12) [fVar 1, fVar 3, fCall F__law_pick [fVar 0, fVar 5]])))))) := rfl
  rw [eF]
  have r0 : (List.map some [D.r 2, d] ++ List.replicate (6 - 2) none : En) = [some (.r 2), some d, none, none, none, none] := rfl
  rw [r0]
  refine Dw.mono (n := 0 + (1 + (0 + (1 + (0 + 1))))) ?_ (by decide) fun _ _ z => z
  refine Dw.seq (Dw.set (Dw.eq (fCall_eq (fAll_eq (fVar_eq (i := 1) (d := d) rfl) (fAll_eq (fTup_eq fAll_nil) fAll_nil)) hsp) ⟨_, rfl, ?_⟩))
  refine Dw.seq (Dw.set (Dw.mono (Dw.pick (xs := (S.map pthD).drop 1) rfl (slL_from (k := 1) (fVar_eq (i := 2) rfl) rfl) (by rw [List.length_drop, List.length_map]; omega) (by rw [List.length_drop, List.length_map]; omega)) (Nat.le_refl _) fun y tl z => ⟨_, rfl, ?_⟩))
  obtain ⟨hy, rfl⟩ := z
  obtain ⟨p, hp, rfl⟩ := List.mem_map.mp (List.mem_of_mem_drop hy)
  obtain ⟨x, ex, eat, hx1, hx2, hx3, hpl2⟩ := hat p hp
  refine Dw.seq (Dw.set (Dw.eq (fCall_eq (fAll_eq (fVar_eq (i := 1) (d := d) rfl) (fAll_eq (fVar_eq (i := 3) (d := pthD p) rfl) fAll_nil)) ex) ⟨_, rfl, ?_⟩))
  refine Dw.seq (Dw.set (Dw.lst ?_))
  refine Dw.allE rfl (Dw.allE (fTup_eq fAll_nil) (Dw.allE rfl (Dw.allE rfl (Dw.allE rfl (Dw.allE rfl (Dw.allE (fTup_eq (fAll_eq rfl fAll_nil)) (Dw.allE (fTup_eq (fAll_eq rfl fAll_nil)) (Dw.allE rfl (Dw.allE (fLst_eq fAll_nil) ?_)))))))))
  refine Dw.mono (n := 1 + 0) (Dw.allD (Dw.mono (n := 1 + 0) (Dw.callA (Dw.allE (fVar_eq (i := 1) (d := d) rfl) (Dw.mono (n := 1 + 0) (Dw.allD (Dw.mono (Dw.pick (xs := S.map pthD) rfl (fVar_eq (i := 2) rfl) (by rw [List.length_map]; omega) (by rw [List.length_map]; omega)) (Nat.le_refl _) fun y tl z => Dw.allN ?_)) (Nat.le_refl _) fun _ _ z => z))) (Nat.le_refl _) fun _ _ z => z)) (Nat.le_refl _) fun _ _ z => z
  obtain ⟨hy2, rfl⟩ := z
  obtain ⟨p2, hp2, rfl⟩ := List.mem_map.mp hy2
  obtain ⟨x2, ex2, eat2, g1, g2, g3, _⟩ := hat p2 hp2
  refine Dw.eq ex2 (Dw.allN ⟨_, rfl, ?_⟩)
  obtain ⟨ys, ey, gy, y0, y1⟩ := bentIf_ok (a := some (.r 2)) (b := some d) (c := some (.lst (S.map pthD))) (d := some (pthD p)) (x := x) (ys0 := [.v .non, .tup [], di 0, di 1, .v (.bl true), .v (.str "name"), .tup [.v (.str "text")], .tup [.v (.str "end")], .v (.str "ab"), .lst [], x2]) hx1 (by omega) (by omega) (at_wd eat hwd) (fun y hy => by
    simp only [List.mem_cons, List.not_mem_nil, or_false] at hy
    rcases hy with rfl | rfl | rfl | rfl | rfl | rfl | rfl | rfl | rfl | rfl | rfl
    · exact ⟨rfl, by decide, by decide +kernel⟩
    · exact ⟨rfl, by decide, by decide +kernel⟩
    · exact ⟨rfl, by decide, by decide +kernel⟩
    · exact ⟨rfl, by decide, by decide +kernel⟩
    · exact ⟨rfl, by decide, by decide +kernel⟩
    · exact ⟨by decide +kernel, by decide, by decide +kernel⟩
    · exact ⟨by decide +kernel, by decide, by decide +kernel⟩
    · exact ⟨by decide +kernel, by decide, by decide +kernel⟩
    · exact ⟨by decide +kernel, by decide, by decide +kernel⟩
    · exact ⟨rfl, by decide, by decide +kernel⟩
    · exact ⟨lf_pl g1, by omega, Nat.le_trans (at_wd eat2 hwd) (by decide)⟩) rfl
  refine Dw.seq (Dw.eq ey ⟨_, rfl, Dw.rt ?_⟩)
  refine Dw.mono (n := 1 + 0) (Dw.callA (Dw.allE (fVar_eq (i := 1) (d := d) rfl) (Dw.allE (fVar_eq (i := 3) (d := pthD p) rfl) (Dw.mono (n := 1 + 0) (Dw.allD (Dw.mono (Dw.pick (xs := ys) rfl (fVar_eq (i := 5) rfl) y0 (by omega)) (Nat.le_refl _) fun y tl z => Dw.allN ?_)) (Nat.le_refl _) fun _ _ z => z)))) (Nat.le_refl _) fun _ _ z => z
  obtain ⟨hy3, rfl⟩ := z
  obtain ⟨b1, b2, b3⟩ := gy y hy3
  refine Dw.eq (F_put_ok (j := 12) hpl2 (by omega) (by omega) eat) ⟨_, rfl, put_pl hpl b1, ?_, put_wd (Nat.le_trans hwd (by decide)) b3, rfl⟩
  have := put_wt (d := d) (p := p) (y := y)
  omega
end
end K66
/-! ## L66c -/
set_option Elab.async false
set_option linter.all false
set_option maxRecDepth 100000
set_option maxHeartbeats 4000000
namespace K66
open PySem PySem.Spec PyProof.Rows L2 Tr
abbrev machW : Str := Str.ofString "machine"
def rowB (nl n : Nat) : D → Bool
  | .tup xs => xs.length == nl && xs.all (isNumB · n)
  | _ => false
def goodB (n : Nat) : D → Bool
  | .tup gs => gs.all (isNumB · n) && riseZ (gs.map numI)
  | _ => false
def machB : D → Bool
  | .tup xs => match xs with
    | [a, b, c, e] => strIs machW a && (areLettersB b && (rowsTopB c && (tupAll (rowB (lenS b) (lenT c)) c && goodB (lenT c) e)))
    | _ => false
  | _ => false
theorem F_is_state_ok {d : D} {nl n : Nat} (hp : plD d = true) (hw : wt d ≤ 16777216) : F_is_state [d, di nl, di n] = ret (bl (rowB nl n d)) := by
  refine bodyF_rt rfl ?_
  have r0 : (List.map some [d, di nl, di n] ++ List.replicate (4 - 3) none : En) = [some d, some (di nl), some (di n), none] := rfl
  rw [r0]
  have e1 := isI_eq (ρ := [some d, some (di nl), some (di n), none]) (fa := fVar 0) (s := "tuple") (fVar_eq rfl) hp (by decide)
  cases d with
  | tup xs =>
    have hx := pl_tup hp
    have hl := wts_len xs
    rw [wt_tup] at hw
    refine rt_eq ?_
    have e : rowB nl n (.tup xs) = (true && ((xs.length == nl) && xs.all (isNumB · n))) := rfl
    rw [e]
    refine fAndB e1 fun _ => fAndB (by rw [← lenEq]; exact f2_eq (fB1_eq (fVar_eq rfl) lif_lenT) (fVar_eq rfl) lif_eqI) fun _ => ?_
    exact allT (fItm_tup (fVar_eq rfl)) (by omega) fun d hd => fCall_eq (fAll_eq (fVar_eq rfl) (fAll_eq (fVar_eq rfl) fAll_nil)) (F_is_number_ok (hx d hd))
  | v x =>
    refine rt_eq ?_
    have e : rowB nl n (.v x) = (false && true) := rfl
    rw [tupIs (fun _ h => by cases h)] at e1
    rw [e]
    exact fAndB e1 fun h => nomatch h
  | lst x =>
    refine rt_eq ?_
    have e : rowB nl n (.lst x) = (false && true) := rfl
    rw [tupIs (fun _ h => by cases h)] at e1
    rw [e]
    exact fAndB e1 fun h => nomatch h
  | _ => cases hp
section
variable {ρ : En}
theorem condF {ft : FT} {rest : FS} {b c : Bool} (h : ft ρ = ret (!b)) (h2 : b = true → rest ρ = ret (.rt (bl c))) : fSeq (fIfS ft (fRet (fC (.v (.bl false)))) fNx) rest ρ = ret (.rt (bl (b && c))) := by
  rw [seq_if (a := bl false) h rfl]
  cases b with
  | false => rfl
  | true => exact h2 rfl
end
/-- the first condition of both: a tuple of four that begins with the word -/
theorem head_ok {d : D} {ρ : En} (h0 : fVar 0 ρ = ret d) (hp : plD d = true) : ∃ b, tOrF (tNotF (tst (fB dIsI [fVar 0, fC (.v (.ty "tuple"))]))) (tOrF (tst (f2 dNe (fB dLen [fVar 0]) (fC (.v (.int 4))))) (tOrF (tNotF (tst (fB dIsI [f2 dIx (fVar 0) (fC (.v (.int 0))), fC (.v (.ty "str"))]))) (tst (f2 dNe (f2 dIx (fVar 0) (fC (.v (.int 0)))) (fC (.v (.str "machine"))))))) ρ = ret (!b) ∧
    (b = true → ∃ a x y z, d = .tup [a, x, y, z] ∧ strIs machW a = true) ∧ (b = false → machB d = false) := by
  have e1 := tNot_eq (tst_eq (isI_eq (s := "tuple") h0 hp (by decide)))
  cases d with
  | tup xs =>
    have hx := pl_tup hp
    have e2 : tst (f2 dNe (fB dLen [fVar 0]) (fC (.v (.int 4)))) ρ = ret (!(xs.length == 4)) := by
      rw [← lenEq]
      exact tst_eq (f2_eq (fB1_eq h0 lif_lenT) rfl lif_neI)
    match xs, hx, e2 with
    | [], _, e2 => exact ⟨false, tOrB e1 fun _ => tOrB (b := true) e2 (fun h => nomatch h), (fun h => nomatch h), fun _ => rfl⟩
    | [_], _, e2 => exact ⟨false, tOrB e1 fun _ => tOrB (b := true) e2 (fun h => nomatch h), (fun h => nomatch h), fun _ => rfl⟩
    | [_, _], _, e2 => exact ⟨false, tOrB e1 fun _ => tOrB (b := true) e2 (fun h => nomatch h), (fun h => nomatch h), fun _ => rfl⟩
    | [_, _, _], _, e2 => exact ⟨false, tOrB e1 fun _ => tOrB (b := true) e2 (fun h => nomatch h), (fun h => nomatch h), fun _ => rfl⟩
    | _ :: _ :: _ :: _ :: _ :: l, _, e2 =>
      refine ⟨false, tOrB e1 fun _ => tOrB (a := true) (b := true) ?_ (fun h => nomatch h), (fun h => nomatch h), fun _ => rfl⟩
      rw [e2]
      simp
    | [a, x, y, z], hx, e2 =>
      have ha := hx a (by simp)
      have e0 : f2 dIx (fVar 0) (fC (.v (.int 0))) ρ = ret a := f2_eq h0 rfl lif_ixT0
      have e3 := tNot_eq (tst_eq (isI_eq (s := "str") e0 ha (by decide)))
      have ne : ∀ u, (kd a == "str" || (kd a == "bool" && "str" == "int")) = u → u = (kd a == "str") := fun u h => by rw [← h]; cases kd a == "bool" <;> simp
      rw [ne _ rfl] at e3
      cases a with
      | v w =>
        cases w with
        | str w =>
          refine ⟨w == machW, ?_, fun h => ⟨_, _, _, _, rfl, h⟩, fun h => ?_⟩
          · have z := tOrB e1 fun _ => tOrB e2 fun _ => tOrB e3 fun _ => tst_eq (f2_eq (fb := fC (.v (.str "machine"))) e0 rfl lif_neSS)
            simpa [kd] using z
          · show (strIs machW (.v (.str w)) && _) = false
            have : strIs machW (.v (.str w)) = (w == machW) := rfl
            rw [this, h, Bool.false_and]
        | _ => exact ⟨false, tOrB e1 fun _ => tOrB e2 fun _ => tOrB (b := true) e3 (fun h => nomatch h), (fun h => nomatch h), fun _ => rfl⟩
      | _ => exact ⟨false, tOrB e1 fun _ => tOrB e2 fun _ => tOrB (b := true) e3 (fun h => nomatch h), (fun h => nomatch h), fun _ => rfl⟩
  | v x =>
    rw [tupIs (fun _ h => by cases h)] at e1
    exact ⟨false, tOrB (b := true) e1 fun h => (nomatch h), (fun h => nomatch h), fun _ => rfl⟩
  | lst x =>
    rw [tupIs (fun _ h => by cases h)] at e1
    exact ⟨false, tOrB (b := true) e1 fun h => (nomatch h), (fun h => nomatch h), fun _ => rfl⟩
  | _ => cases hp
end K66
/-! ## L66d -/
set_option Elab.async false
set_option linter.all false
set_option maxRecDepth 100000
set_option maxHeartbeats 4000000
namespace K66
open PySem PySem.Spec PyProof.Rows L2 Tr
theorem machB4 {a x y z : D} (hs : strIs machW a = true) : machB (.tup [a, x, y, z]) = (areLettersB x && (rowsTopB y && (tupAll (rowB (lenS x) (lenT y)) y && goodB (lenT y) z))) := by
  have : machB (.tup [a, x, y, z]) = (strIs machW a && (areLettersB x && (rowsTopB y && (tupAll (rowB (lenS x) (lenT y)) y && goodB (lenT y) z)))) := rfl
  rw [this, hs, Bool.true_and]
theorem tup_or {d : D} (hp : plD d = true) : (∃ xs, d = .tup xs) ∨ (∀ xs, d ≠ .tup xs) := by
  cases d with
  | tup xs => exact .inl ⟨xs, rfl⟩
  | _ => exact .inr fun _ h => by cases h
theorem rows_no {y : D} (h : ∀ xs, y ≠ .tup xs) : rowsTopB y = false := by
  cases y with
  | tup xs => exact absurd rfl (h xs)
  | _ => rfl
theorem good_no {n : Nat} {y : D} (h : ∀ xs, y ≠ .tup xs) : goodB n y = false := by
  cases y with
  | tup xs => exact absurd rfl (h xs)
  | _ => rfl
theorem lets_len {x : D} (h : areLettersB x = true) : ∃ z : Str, x = .v (.str z) ∧ z.length ≤ 26 := by
  cases x with
  | v x =>
    cases x with
    | str z =>
      refine ⟨z, rfl, ?_⟩
      have e : areLettersB (.v (.str z)) = (lowS z && (decide (1 ≤ z.length) && decide (z.length ≤ 26)) && riseL z.cps.toList) := rfl
      rw [e] at h
      simp only [Bool.and_eq_true, decide_eq_true_eq] at h
      exact h.1.2.2
    | _ => cases h
  | _ => cases h
theorem F_is_machine_ok {d : D} (hp : plD d = true) (hw : wt d ≤ 16777216) : F_is_machine [d] = ret (bl (machB d)) := by
  refine bodyF_rt rfl ?_
  have r0 : (List.map some [d] ++ List.replicate (8 - 1) none : En) = [some d, none, none, none, none, none, none, none] := rfl
  rw [r0]
  unfold f_is_machine
  obtain ⟨b, e, h1, h2⟩ := head_ok (ρ := [some d, none, none, none, none, none, none, none]) (fVar_eq rfl) hp
  cases b with
  | false => rw [seq_if (a := bl false) e rfl, if_pos (by decide), h2 rfl]
  | true =>
    obtain ⟨a, x, y, z, rfl, hs⟩ := h1 rfl
    have hx := pl_tup hp
    have px := hx x (by simp)
    have py := hx y (by simp)
    have pz := hx z (by simp)
    have hwe : wt (.tup [a, x, y, z]) = (wt a + (wt x + (wt y + (wt z + 0)))) + 1 := rfl
    rw [seq_if (a := bl false) e rfl, if_neg (by decide), machB4 hs, seq_nx (asg_eq (fVar_eq rfl) lif_gT4)]
    generalize hρ : ((((([some (D.tup [a, x, y, z]), none, none, none, none, none, none, none] : En).set 1 (some a)).set 2 (some x)).set 3 (some y)).set 4 (some z)) = ρ
    have hρ : ρ = [some (D.tup [a, x, y, z]), some a, some x, some y, some z, none, none, none] := hρ.symm
    have v2 : fVar 2 ρ = ret x := by rw [hρ]; exact fVar_eq rfl
    have v3 : fVar 3 ρ = ret y := by rw [hρ]; exact fVar_eq rfl
    have v4 : fVar 4 ρ = ret z := by rw [hρ]; exact fVar_eq rfl
    have c1 := tNot_eq (tst_eq (fCall_eq (fAll_eq v2 fAll_nil) (F_are_letters_ok px)))
    have c2 := tNot_eq (tst_eq (isI_eq (s := "tuple") v3 py (by decide)))
    have c3 := tNot_eq (tst_eq (isI_eq (s := "tuple") v4 pz (by decide)))
    rcases tup_or py with ⟨rs, rfl⟩ | ny
    rotate_left
    · rw [tupIs ny] at c2
      rw [rows_no ny, Bool.false_and, Bool.and_false]
      rw [seq_if (a := bl false) (tOrB (b := true) c1 fun _ => tOrB (b := true) c2 fun h => nomatch h) rfl, if_pos (by simp)]
    have hrs := pl_tup py
    have hlr := wts_len rs
    have wy : wt (.tup rs) = wts rs + 1 := rfl
    have lr : fB dLen [fVar 3] ρ = ret (di rs.length) := fB1_eq v3 lif_lenT
    have c4 := tOrB c1 fun _ => tOrB c2 fun _ => tNot_eq (tst_eq (f3_le_le (fa := fC (.v (.int 1))) (fc := fC (.v (.int 400))) rfl lr rfl))
    have e4 : (!areLettersB x || (!(kd (D.tup rs) == "tuple" || (kd (D.tup rs) == "bool" && "tuple" == "int")) || !(decide ((1 : Int) ≤ (rs.length : Nat)) && decide (((rs.length : Nat) : Int) ≤ 400)))) = !(areLettersB x && rowsTopB (.tup rs)) := by
      have : rowsTopB (.tup rs) = (decide (1 ≤ rs.length) && decide (rs.length ≤ 400)) := rfl
      rw [this, show (1 : Int) = ((1 : Nat) : Int) from rfl, show (400 : Int) = ((400 : Nat) : Int) from rfl, le_nat, le_nat]
      simp [kd]
    rw [e4] at c4
    rw [← Bool.and_assoc]
    refine condF c4 fun ht => ?_
    rw [Bool.and_eq_true] at ht
    obtain ⟨zs, rfl, hzl⟩ := lets_len ht.1
    have c5 := tNot_eq (tst_eq (allT (i := 5) (own := [5]) (fe := fCall F_is_state [fVar 5, fB dLen [fVar 2], fB dLen [fVar 3]]) (g := rowB zs.length rs.length) (fItm_tup v3) (by omega) fun d hd => by
      have := wts_mem hd
      refine fCall_eq (fAll_eq ?_ (fAll_eq ?_ (fAll_eq ?_ fAll_nil))) (F_is_state_ok (hrs d hd) (by omega))
      · rw [hρ]; exact fVar_eq rfl
      · rw [hρ]; exact fB1_eq (fVar_eq rfl) lif_lenS
      · rw [hρ]; exact fB1_eq (fVar_eq rfl) lif_lenT))
    have t5 : tupAll (rowB (lenS (.v (.str zs))) (lenT (.tup rs))) (.tup rs) = rs.all (rowB zs.length rs.length) := rfl
    rw [t5]
    rcases tup_or pz with ⟨gs, rfl⟩ | nz
    rotate_left
    · rw [tupIs nz] at c3
      rw [good_no nz, Bool.and_false]
      rw [seq_if (a := bl false) (tOrB (b := true) c5 fun _ => c3) rfl, if_pos (by simp)]
    have hgs := pl_tup pz
    have hlg := wts_len gs
    have wz : wt (.tup gs) = wts gs + 1 := rfl
    have c6 := tOrB c5 fun _ => c3
    have e6 : (!rs.all (rowB zs.length rs.length) || !(kd (D.tup gs) == "tuple" || (kd (D.tup gs) == "bool" && "tuple" == "int"))) = !(rs.all (rowB zs.length rs.length)) := by simp [kd]
    rw [e6] at c6
    refine condF c6 fun _ => ?_
    have eg : goodB (lenT (.tup rs)) (.tup gs) = (gs.all (isNumB · rs.length) && riseZ (gs.map numI)) := rfl
    rw [eg]
    have c7 := tNot_eq (tst_eq (allT (i := 6) (own := [6]) (fe := fCall F_is_number [fVar 6, fB dLen [fVar 3]]) (g := (isNumB · rs.length)) (fItm_tup v4) (by omega) fun d hd => by
      refine fCall_eq (fAll_eq ?_ (fAll_eq ?_ fAll_nil)) (F_is_number_ok (hgs d hd))
      · rw [hρ]; exact fVar_eq rfl
      · rw [hρ]; exact fB1_eq (fVar_eq rfl) lif_lenT))
    refine condF c7 fun hg => rt_eq ?_
    have ei := ints_of hg
    have lg : fB dLen [fVar 4] ρ = ret (di gs.length) := fB1_eq v4 lif_lenT
    cases hgl : gs with
    | nil =>
      rw [hgl] at lg v4
      have hr : fRng1 [f2 (dInt iSub) (fB dLen [fVar 4]) (fC (.v (.int 1)))] ρ = ret [] := by
        unfold fRng1
        rw [fAll_cons, f2_eq (fb := fC (.v (.int 1))) lg rfl lif_sub, bnd_ret, fAll_nil, bnd_ret, bnd_ret]
        exact lif_eq fun μ => rfl
      exact allT (g := fun _ => true) hr (by decide) fun d hd => nomatch hd
    | cons g0 gt =>
      rw [← hgl]
      have en : ((gs.length : Nat) : Int) - 1 = ((gs.length - 1 : Nat) : Int) := by
        have : 1 ≤ gs.length := by rw [hgl, List.length_cons]; omega
        omega
      have hr : fRng1 [f2 (dInt iSub) (fB dLen [fVar 4]) (fC (.v (.int 1)))] ρ = ret (rngD 0 (gs.length - 1)) := rng1_eq (by rw [← en]; exact f2_eq lg rfl lif_sub) (by omega)
      have hz : riseZ (gs.map numI) = (rngD 0 (gs.length - 1)).all fun d => decide ((gs.map numI).getD (numI d).toNat 0 < (gs.map numI).getD ((numI d).toNat + 1) 0) := by
        unfold riseZ
        rw [rng0, List.all_map, List.length_map]
        rfl
      rw [hz]
      refine allT hr (by rw [rngD_len]; omega) fun d hd => ?_
      rw [rng0] at hd
      obtain ⟨k, hk, rfl⟩ := List.mem_map.mp hd
      have hk := List.mem_range.mp hk
      have hk2 : (numI (di (k : Nat))).toNat = k := rfl
      rw [hk2]
      have gk : ∀ j, j < gs.length → gs[j]? = some (di ((gs.map numI).getD j 0)) := fun j hj => by
        conv => lhs; rw [ei]
        rw [List.getElem?_map, getD_someI (by rw [List.length_map]; exact hj)]
        rfl
      have w4 : fVar 4 ((wipeE ρ [7]).set 7 (some (di (k : Nat)))) = ret (.tup gs) := by rw [hρ]; exact fVar_eq rfl
      have w7 : fVar 7 ((wipeE ρ [7]).set 7 (some (di (k : Nat)))) = ret (di (k : Nat)) := by rw [hρ]; exact fVar_eq rfl
      refine f2_eq (f2_eq w4 w7 (lif_ixT (gk k (by omega)))) (f2_eq w4 (f2_eq (fb := fC (.v (.int 1))) w7 rfl lif_add) ?_) lif_lt
      exact lif_ixT (i := k + 1) (gk (k + 1) (by omega))
end K66
/-! ## L66e -/
set_option Elab.async false
set_option linter.all false
set_option maxRecDepth 100000
set_option maxHeartbeats 4000000
namespace K66
open PySem PySem.Spec PyProof.Rows L2 Tr
theorem bad_goal {ρ : En} {d : D} {n : Nat} (hp : plD d = true) (h6 : fVar 6 ρ = ret d) (h3 : fB dLen [fVar 3] ρ = ret (di n)) :
    tOrF (tNotF (tst (fCall F__law_oh_whole [fVar 6]))) (tNotF (tst (f3 dLe dLt (fC (.v (.int 0))) (fVar 6) (fB dLen [fVar 3])))) ρ = ret (!isNumB d n) := by
  have e1 := tNot_eq (tst_eq (fCall_eq (fAll_eq h6 fAll_nil) (F_whole_ok hp)))
  by_cases hw : isWholeB d = true
  case neg =>
    rw [Bool.not_eq_true] at hw
    rw [isNum_not hw]
    rw [hw] at e1
    exact tOrB (b := true) e1 fun h => nomatch h
  case pos =>
    cases d with
    | v x =>
      cases x with
      | int i =>
        rw [hw] at e1
        have z := tOrB e1 fun _ => tNot_eq (tst_eq (f3_le_lt (fa := fC (.v (.int 0))) rfl h6 h3))
        exact z
      | _ => cases hw
    | _ => cases hw
theorem any_not {p : D → Bool} {xs : List D} : (xs.any fun d => !p d) = !(xs.all p) := by
  rw [Bool.eq_iff_iff]
  simp
def rowE (d a x y z : D) (x5 : Option D) : En := [some d, some a, some x, some y, some z, x5, none]
theorem row_step {d a z r : D} {zs : Str} {rs : List D} (hp : plD r = true) (hl : wt r ≤ 16777216) :
    b__law_is_machine_0 (rowE d a (.v (.str zs)) (.tup rs) z (some r)) = if rowB zs.length rs.length r = true then ret (.nx (rowE d a (.v (.str zs)) (.tup rs) z (some r))) else ret (.rt (bl false)) := by
  generalize hρ : rowE d a (.v (.str zs)) (.tup rs) z (some r) = ρ
  have hρ : ρ = [some d, some a, some (.v (.str zs)), some (.tup rs), some z, some r, none] := hρ.symm
  have v5 : fVar 5 ρ = ret r := by rw [hρ]; exact fVar_eq rfl
  have l2 : fB dLen [fVar 2] ρ = ret (di zs.length) := by rw [hρ]; exact fB1_eq (fVar_eq rfl) lif_lenS
  have c1 := tNot_eq (tst_eq (isI_eq (s := "tuple") v5 hp (by decide)))
  unfold b__law_is_machine_0
  rcases tup_or hp with ⟨xs, rfl⟩ | nr
  rotate_left
  · rw [tupIs nr] at c1
    have e : rowB zs.length rs.length r = false := by
      cases r with
      | tup xs => exact absurd rfl (nr xs)
      | _ => rfl
    rw [e, if_neg (by decide), seq_if (a := bl false) (tOrB (b := true) c1 fun h => nomatch h) rfl, if_pos (by decide)]
  have hx := pl_tup hp
  have hlx := wts_len xs
  have wx : wt (.tup xs) = wts xs + 1 := rfl
  have c2 := tOrB c1 fun _ => tst_eq (f2_eq (fB1_eq v5 lif_lenT) l2 lif_neI)
  have e2 : (!(kd (D.tup xs) == "tuple" || (kd (D.tup xs) == "bool" && "tuple" == "int")) || !(((xs.length : Nat) : Int) == ((zs.length : Nat) : Int))) = !(xs.length == zs.length) := by
    rw [lenEq]
    simp [kd]
  rw [e2] at c2
  have er : rowB zs.length rs.length (.tup xs) = ((xs.length == zs.length) && xs.all (isNumB · rs.length)) := rfl
  rw [er, seq_if (a := bl false) c2 rfl]
  cases xs.length == zs.length with
  | false => rfl
  | true =>
    rw [if_neg (by decide), Bool.true_and]
    have c3 := tst_eq (someT (i := 6) (own := [6]) (ft := tOrF (tNotF (tst (fCall F__law_oh_whole [fVar 6]))) (tNotF (tst (f3 dLe dLt (fC (.v (.int 0))) (fVar 6) (fB dLen [fVar 3]))))) (p := fun d => !isNumB d rs.length) (fItm_tup v5) (by omega) fun g hg => by
      refine bad_goal (hx g hg) ?_ ?_
      · rw [hρ]; exact fVar_eq rfl
      · rw [hρ]; exact fB1_eq (fVar_eq rfl) lif_lenT)
    rw [any_not] at c3
    rw [ifS_eq c3]
    cases xs.all (isNumB · rs.length) with
    | true => rfl
    | false => rfl
theorem row_loop {d a z : D} {zs : Str} {rs : List D} : ∀ {l : List D} {x5 : Option D}, (∀ r ∈ l, plD r = true ∧ wt r ≤ 16777216) → ∃ y5, loopS (gN 5) b__law_is_machine_0 l (rowE d a (.v (.str zs)) (.tup rs) z x5) =
    if l.all (rowB zs.length rs.length) = true then ret (.nx (rowE d a (.v (.str zs)) (.tup rs) z y5)) else ret (.rt (bl false))
  | [], x5, _ => ⟨x5, rfl⟩
  | r :: l, x5, h => by
    obtain ⟨h1, h2⟩ := h r List.mem_cons_self
    obtain ⟨y5, e⟩ := row_loop (l := l) (x5 := some r) fun r hr => h r (List.mem_cons_of_mem _ hr)
    refine ⟨y5, ?_⟩
    have es : lif (gN 5 r (rowE d a (.v (.str zs)) (.tup rs) z x5)) = ret (rowE d a (.v (.str zs)) (.tup rs) z (some r)) := rfl
    rw [loopS_cons, es, bnd_ret, row_step h1 h2, List.all_cons]
    cases rowB zs.length rs.length r with
    | true =>
      rw [if_pos rfl, bnd_ret, Bool.true_and]
      exact e
    | false => rfl
theorem join_sorted {ρ : En} {z : Str} (h : fVar 2 ρ = ret (.v (.str z))) (hp : plD (.v (.str z)) = true) (hl : z.length ≤ 60) : f2 dNe (fMs sJoin (fC (.v (.str ""))) [fSortSetG (fVar 2)]) (fVar 2) ρ = ret (bl (!riseL z.cps.toList)) := by
  have hzl : z.cps.toList.length = z.length := by unfold Str.length; simp
  have hsl := sortU_len z.cps.toList
  have hj := fMs_join (fa := fSortSetG (fVar 2)) (ρ := ρ) (ys := (sortU z.cps.toList).map fun c => [c]) (fSortSetG_text h (by omega)) (by rw [flatten_ones]; omega)
  rw [flatten_ones] at hj
  rw [← sort_same]
  exact f2_eq hj h lif_neSS
theorem F_law_machine_ok {d : D} (hp : plD d = true) (hw : wt d ≤ 16777216) (hwd : wd d ≤ 60) : F__law_is_machine [d] = ret (bl (machB d)) := by
  refine bodyF_rt rfl ?_
  have r0 : (List.map some [d] ++ List.replicate (7 - 1) none : En) = [some d, none, none, none, none, none, none] := rfl
  rw [r0]
  unfold f__law_is_machine
  obtain ⟨b, e, h1, h2⟩ := head_ok (ρ := [some d, none, none, none, none, none, none]) (fVar_eq rfl) hp
  cases b with
  | false => rw [seq_if (a := bl false) e rfl, if_pos (by decide), h2 rfl]
  | true =>
    obtain ⟨a, x, y, z, rfl, hs⟩ := h1 rfl
    have hx := pl_tup hp
    have px := hx x (by simp)
    have py := hx y (by simp)
    have pz := hx z (by simp)
    have hwe : wt (.tup [a, x, y, z]) = (wt a + (wt x + (wt y + (wt z + 0)))) + 1 := rfl
    have wdz : wd z ≤ 60 := (wd_t.mp hwd).2 z (by simp)
    rw [seq_if (a := bl false) e rfl, if_neg (by decide), machB4 hs, seq_nx (asg_eq (fVar_eq rfl) lif_gT4)]
    generalize hρ : ((((([some (D.tup [a, x, y, z]), none, none, none, none, none, none] : En).set 1 (some a)).set 2 (some x)).set 3 (some y)).set 4 (some z)) = ρ
    have hρ : ρ = rowE (D.tup [a, x, y, z]) a x y z none := hρ.symm
    have v2 : fVar 2 ρ = ret x := by rw [hρ]; exact fVar_eq rfl
    have v3 : fVar 3 ρ = ret y := by rw [hρ]; exact fVar_eq rfl
    have v4 : fVar 4 ρ = ret z := by rw [hρ]; exact fVar_eq rfl
    have c1 := tNot_eq (tst_eq (fCall_eq (fAll_eq v2 fAll_nil) (F_word_ok px)))
    have hlet : ∃ b, tOrF (tNotF (tst (fCall F__law_oh_is_word [fVar 2]))) (tOrF (tNotF (tst (f3 dLe dLe (fC (.v (.int 1))) (fB dLen [fVar 2]) (fC (.v (.int 26)))))) (tst (f2 dNe (fMs sJoin (fC (.v (.str ""))) [fSortSetG (fVar 2)]) (fVar 2)))) ρ = ret (!b) ∧ b = areLettersB x := by
      refine ⟨_, ?_, rfl⟩
      by_cases ht : isTextB x = true
      case neg =>
        rw [Bool.not_eq_true] at ht
        rw [ht] at c1
        have e : areLettersB x = false := by
          cases x with
          | v x =>
            cases x with
            | str z =>
              have e : areLettersB (.v (.str z)) = (lowS z && (decide (1 ≤ z.length) && decide (z.length ≤ 26)) && riseL z.cps.toList) := rfl
              have e2 : lowS z = false := ht
              rw [e, e2, Bool.false_and, Bool.false_and]
            | _ => rfl
          | _ => rfl
        rw [e]
        exact tOrB (b := true) c1 fun h => nomatch h
      case pos =>
        cases x with
        | v x =>
          cases x with
          | str z =>
            have e : areLettersB (.v (.str z)) = (lowS z && (decide (1 ≤ z.length) && decide (z.length ≤ 26)) && riseL z.cps.toList) := rfl
            have e2 : lowS z = true := ht
            rw [e, e2, Bool.true_and]
            rw [ht] at c1
            have k := f3_le_le (ρ := ρ) (fa := fC (.v (.int 1))) (fc := fC (.v (.int 26))) (a := 1) (c := 26) rfl (fB1_eq v2 lif_lenS) rfl
            rw [show (1 : Int) = ((1 : Nat) : Int) from rfl, show (26 : Int) = ((26 : Nat) : Int) from rfl, le_nat, le_nat] at k
            have c2 := tNot_eq (tst_eq k)
            rw [Bool.not_and]
            have w := tOrB (fu := tOrF (tNotF (tst (f3 dLe dLe (fC (.v (.int 1))) (fB dLen [fVar 2]) (fC (.v (.int 26)))))) (tst (f2 dNe (fMs sJoin (fC (.v (.str ""))) [fSortSetG (fVar 2)]) (fVar 2)))) c1 fun _ => tOrB c2 fun hh => tst_eq (join_sorted v2 px (by
              simp only [Bool.not_eq_false', Bool.and_eq_true, decide_eq_true_eq] at hh
              omega))
            exact w
          | _ => cases ht
        | _ => cases ht
    obtain ⟨b, c1, hb⟩ := hlet
    rw [← hb]
    refine condF c1 fun hbt => ?_
    obtain ⟨zs, rfl, hzl⟩ := lets_len (hb ▸ hbt)
    have c2 := tNot_eq (tst_eq (isI_eq (s := "tuple") v3 py (by decide)))
    have c3 := tNot_eq (tst_eq (isI_eq (s := "tuple") v4 pz (by decide)))
    rcases tup_or py with ⟨rs, rfl⟩ | ny
    rotate_left
    · rw [tupIs ny] at c2
      rw [rows_no ny, Bool.false_and]
      rw [seq_if (a := bl false) (tOrB (b := true) c2 fun h => nomatch h) rfl, if_pos (by simp)]
    have hrs := pl_tup py
    have hlr := wts_len rs
    have wy : wt (.tup rs) = wts rs + 1 := rfl
    have lr : fB dLen [fVar 3] ρ = ret (di rs.length) := fB1_eq v3 lif_lenT
    have c4 := tOrB c2 fun _ => tOrB (tNot_eq (tst_eq (f3_le_le (fa := fC (.v (.int 1))) (fc := fC (.v (.int 400))) rfl lr rfl))) fun _ => c3
    rcases tup_or pz with ⟨gs, rfl⟩ | nz
    rotate_left
    · rw [tupIs nz] at c4
      rw [good_no nz, Bool.and_false, Bool.and_false]
      rw [seq_if (a := bl false) c4 rfl, if_pos (by simp)]
    have hgs := pl_tup pz
    have hlg := wts_len gs
    have wz : wt (.tup gs) = wts gs + 1 := rfl
    have e4 : (!(kd (D.tup rs) == "tuple" || (kd (D.tup rs) == "bool" && "tuple" == "int")) || (!(decide ((1 : Int) ≤ (rs.length : Nat)) && decide (((rs.length : Nat) : Int) ≤ 400)) || !(kd (D.tup gs) == "tuple" || (kd (D.tup gs) == "bool" && "tuple" == "int")))) = !(rowsTopB (.tup rs)) := by
      have : rowsTopB (.tup rs) = (decide (1 ≤ rs.length) && decide (rs.length ≤ 400)) := rfl
      rw [this, show (1 : Int) = ((1 : Nat) : Int) from rfl, show (400 : Int) = ((400 : Nat) : Int) from rfl, le_nat, le_nat]
      simp [kd]
    rw [e4] at c4
    refine condF c4 fun _ => ?_
    have t5 : tupAll (rowB (lenS (.v (.str zs))) (lenT (.tup rs))) (.tup rs) = rs.all (rowB zs.length rs.length) := rfl
    rw [t5]
    have eg : goodB (lenT (.tup rs)) (.tup gs) = (gs.all (isNumB · rs.length) && riseZ (gs.map numI)) := rfl
    rw [eg]
    obtain ⟨y5, el⟩ := row_loop (d := .tup [a, .v (.str zs), .tup rs, .tup gs]) (a := a) (z := .tup gs) (zs := zs) (rs := rs) (l := rs) (x5 := none) fun r hr => by
      have := wts_mem hr
      exact ⟨hrs r hr, by omega⟩
    have eF : fFor (fItm (fVar 3)) (gN 5) b__law_is_machine_0 ρ = _ := (fFor_eval (fItm_tup v3)).trans ((congrArg _ hρ).trans el)
    unfold fSeq
    rw [eF]
    cases rs.all (rowB zs.length rs.length) with
    | false => rfl
    | true =>
      rw [if_pos rfl, bnd_ret, Bool.true_and]
      dsimp only
      generalize hσ : rowE (.tup [a, .v (.str zs), .tup rs, .tup gs]) a (.v (.str zs)) (.tup rs) (.tup gs) y5 = σ
      have hσ := hσ.symm
      have u4 : fVar 4 σ = ret (.tup gs) := by rw [hσ]; exact fVar_eq rfl
      have c5 := tst_eq (someT (i := 6) (own := [6]) (ft := tOrF (tNotF (tst (fCall F__law_oh_whole [fVar 6]))) (tNotF (tst (f3 dLe dLt (fC (.v (.int 0))) (fVar 6) (fB dLen [fVar 3]))))) (p := fun d => !isNumB d rs.length) (fItm_tup u4) (by omega) fun g hg => by
        refine bad_goal (hgs g hg) ?_ ?_
        · rw [hσ]; exact fVar_eq rfl
        · rw [hσ]; exact fB1_eq (fVar_eq rfl) lif_lenT)
      rw [any_not] at c5
      refine condF c5 fun hg => rt_eq ?_
      have ei := ints_of hg
      rw [ei] at u4
      have q := f2_eq (f := dEq) (d := bl (riseZ (gs.map numI))) (fB1_eq (f := dList) u4 (d := .lst ((gs.map numI).map di)) (lif_eq fun μ => rfl)) (fSortSetG_ints u4 (by rw [List.length_map]; exact (wd_t.mp wdz).1)) (lif_eq fun μ => by
        show (dEqB (.lst _) (.lst _)).map _ = _
        rw [eq_ints, Option.map_some]
        congr 3
        rw [Bool.eq_iff_iff, decide_eq_true_iff]
        exact sortI_same)
      exact q
end K66
/-! ## L66f -/
set_option Elab.async false
set_option linter.all false
set_option maxRecDepth 100000
set_option maxHeartbeats 4000000
namespace K66
open PySem PySem.Spec PyProof.Rows L2 Tr
def five : List Str := ["a", "ab", "abc", "bd", "abcd"]
abbrev nsD (l : List Nat) : List D := l.map fun i : Nat => di i
abbrev rowD (r : List Nat) : D := .tup (nsD r)
def mD (z : Str) (R : List (List Nat)) (G : List Nat) : D := .tup [.v (.str "machine"), .v (.str z), .tup (R.map rowD), .tup (nsD G)]
structure MOk (z : Str) (R : List (List Nat)) (G : List Nat) : Prop where
  five : z ∈ five
  len1 : 1 ≤ R.length
  len2 : R.length ≤ 7
  row : ∀ r ∈ R, r.length = z.length ∧ ∀ i ∈ r, i < R.length
  good : ∀ g ∈ G, g < R.length
  glen : G.length ≤ 7
  up : Up G
theorem five_ok : ∀ z ∈ five, 0 < z.length ∧ z.length ≤ 4 ∧ (∀ x ∈ z.cps.toList, x < 128) ∧ areLettersB (.v (.str z)) = true ∧ lowS z = true := by
  intro z hz
  simp only [five, List.mem_cons, List.not_mem_nil, or_false] at hz
  rcases hz with rfl | rfl | rfl | rfl | rfl <;> decide +kernel
section
variable {q : Str} {c : List Int} {n m l : Nat} {pre tail P : Mu} {ρ : En}
theorem dTuple_lst {xs : List D} : lif (dTuple [.lst xs]) = ret (.tup xs) := lif_eq fun μ => rfl
theorem jn_machine_ok {z : Str} (hz : z ∈ five) : Dw q c 36 tail (F__law_jn_machine [.r 2, .v (.str z), di 7]) fun d tl => (∃ R G, d = mD z R G ∧ MOk z R G) ∧ tl = tail := by
  obtain ⟨z0, z4, z128, _, _⟩ := five_ok z hz
  refine Dw.body rfl ?_
  have r0 : (List.map some [D.r 2, .v (.str z), di 7] ++ List.replicate (9 - 3) none : En) = [some (.r 2), some (.v (.str z)), some (di 7), none, none, none, none, none, none] := rfl
  rw [r0]
  unfold f__law_jn_machine
  refine Dw.mono (n := 1 + (28 + (7 + 0))) ?_ (by decide) fun _ _ z => z
  refine Dw.seq (Dw.set (Dw.f2 (a := di 1) rfl (Dw.mono (Dw.draw (k := 7) rfl (fVar_eq rfl) (by decide) (by decide)) (Nat.le_refl _) fun d tl z => ?_)))
  obtain ⟨⟨k, hk, rfl⟩, rfl⟩ := z
  refine ⟨_, lif_add, _, rfl, ?_⟩
  obtain ⟨N, hN, hN1, hN7⟩ : ∃ N : Nat, (1 + (k : Int)) = (N : Int) ∧ 1 ≤ N ∧ N ≤ 7 := ⟨k + 1, by omega, by omega, by omega⟩
  rw [hN]
  have ρ1 : (([some (.r 2), some (.v (.str z)), some (di 7), none, none, none, none, none, none] : En).set 3 (some (di N))) = [some (.r 2), some (.v (.str z)), some (di 7), some (di N), none, none, none, none, none] := rfl
  rw [ρ1]
  refine Dw.seq (Dw.set (Dw.mono (n := 0 + 28) (Dw.lcV (k0 := 0) (k := 28) (n := 4) (J := fun acc ds tl' => tl' = tl ∧ ∃ R : List (List Nat), acc = R.map rowD ∧ (∀ r ∈ R, r.length = z.length ∧ ∀ i ∈ r, i < N) ∧ R.length + ds.length = N) ?_ (fun acc d ds tl' j => ?_) fun out tl' j => ?_) (by decide) fun _ _ z => z))
  · refine Dw.eq (rng1_eq (n := N) (fVar_eq (i := 3) rfl) (by omega)) ⟨by rw [rngD_len]; omega, by rw [rngD_len]; omega, rfl, [], rfl, (fun r hr => nomatch hr), by rw [rngD_len, List.length_nil]; omega⟩
  · obtain ⟨rfl, R, rfl, hR, hlen⟩ := j
    rw [List.length_cons] at hlen
    refine Dw.fB1 (Dw.mono (n := 0 + 4) (Dw.lcV (k0 := 0) (k := 4) (n := 1) (J := fun acc ds tl => tl = tl' ∧ ∃ r : List Nat, acc = nsD r ∧ (∀ i ∈ r, i < N) ∧ r.length + ds.length = z.length) ?_ (fun acc d ds tl j => ?_) fun out tl j => ?_) (by decide) fun _ _ z => z)
    · refine Dw.eq (fItm_str (fVar_eq (i := 1) rfl)) ⟨by rw [chars_len]; omega, by rw [chars_len]; omega, rfl, [], rfl, (fun r hr => nomatch hr), by rw [chars_len, List.length_nil]; omega⟩
    · obtain ⟨rfl, r, rfl, hr, hrl⟩ := j
      rw [List.length_cons] at hrl
      refine Dw.mono (Dw.draw (k := N) rfl (fVar_eq (i := 3) rfl) (by omega) (by omega)) (Nat.le_refl _) fun y tl z' => ?_
      obtain ⟨⟨j, hj, rfl⟩, rfl⟩ := z'
      refine ⟨rfl, r ++ [j], by simp [nsD], fun i hi => ?_, by rw [List.length_append, List.length_singleton]; omega⟩
      rcases List.mem_append.mp hi with h | h
      · exact hr i h
      · rw [List.mem_singleton] at h; rw [h]; omega
    · obtain ⟨rfl, r, rfl, hr, hrl⟩ := j
      rw [List.length_nil, Nat.add_zero] at hrl
      refine ⟨_, dTuple_lst, rfl, R ++ [r], by simp [rowD], fun s hs => ?_, by rw [List.length_append, List.length_singleton]; omega⟩
      rcases List.mem_append.mp hs with h | h
      · exact hR s h
      · rw [List.mem_singleton] at h; rw [h]; exact ⟨hrl, hr⟩
  · obtain ⟨rfl, R, rfl, hR, hlen⟩ := j
    rw [List.length_nil, Nat.add_zero] at hlen
    refine ⟨_, rfl, ?_⟩
    have ρ2 : (([some (.r 2), some (.v (.str z)), some (di 7), some (di N), none, none, none, none, none] : En).set 4 (some (.lst (R.map rowD)))) = [some (.r 2), some (.v (.str z)), some (di 7), some (di N), some (.lst (R.map rowD)), none, none, none, none] := rfl
    rw [ρ2]
    refine Dw.seq (Dw.set (Dw.fB1 (Dw.mono (n := 0 + 7) (Dw.lcVC (k0 := 0) (k := 7) (n := 1) (J := fun acc ds tl => tl = tl' ∧ ∃ (G : List Nat) (k : Nat), acc = nsD G ∧ ds = nsD (List.range' k (N - k)) ∧ (∀ g ∈ G, g < k) ∧ Up G ∧ k ≤ N ∧ G.length ≤ k) ?_ (fun acc d ds tl j => ?_) fun out tl j => ?_) (by decide) fun _ _ z => z)))
    · refine Dw.eq (rng1_eq (n := N) (fVar_eq (i := 3) rfl) (by omega)) ⟨by rw [rngD_len]; omega, by rw [rngD_len]; omega, rfl, [], 0, rfl, ?_, (fun r hr => nomatch hr), List.Pairwise.nil, by omega, by simp⟩
      rw [rng0, Nat.sub_zero, List.range_eq_range']
    · obtain ⟨rfl, G, k, rfl, hds, hG, hU, hkN, hGl⟩ := j
      have hk : k < N := by
        rcases Nat.lt_or_ge k N with h | h
        · exact h
        · rw [show N - k = 0 by omega] at hds
          cases hds
      rw [show N - k = (N - (k + 1)) + 1 by omega, List.range'_succ] at hds
      simp only [nsD, List.map_cons, List.cons.injEq] at hds
      obtain ⟨rfl, rfl⟩ := hds
      refine Dw.tst (Dw.mono (n := 1 + 0) (Dw.f2D (n := 1) (m := 0) (Dw.mono (Dw.draw (k := 2) rfl rfl (by decide) (by decide)) (Nat.le_refl _) fun y tl z' => Dw.eq (a := di 0) rfl ?_)) (by decide) fun _ _ z => z)
      obtain ⟨⟨j, hj, rfl⟩, rfl⟩ := z'
      refine ⟨_, lif_eqI, _, rfl, ?_⟩
      cases ((j : Int) == 0) with
      | false =>
        rw [if_neg (by decide)]
        exact ⟨rfl, G, k + 1, rfl, rfl, fun g hg => Nat.lt_succ_of_lt (hG g hg), hU, hk, by omega⟩
      | true =>
        rw [if_pos rfl]
        refine ⟨di k, fVar_eq rfl, rfl, G ++ [k], k + 1, by simp [nsD], rfl, fun g hg => ?_, ?_, hk, by rw [List.length_append, List.length_singleton]; omega⟩
        · rcases List.mem_append.mp hg with h | h
          · exact Nat.lt_succ_of_lt (hG g h)
          · rw [List.mem_singleton] at h; rw [h]; omega
        · refine List.pairwise_append.mpr ⟨hU, List.pairwise_singleton _ _, fun a ha b hb => ?_⟩
          rw [List.mem_singleton] at hb
          rw [hb]
          exact hG a ha
    · obtain ⟨rfl, G, k, rfl, hds, hG, hU, hkN, hGl⟩ := j
      refine ⟨_, dTuple_lst, _, rfl, Dw.rt (Dw.eq (a := mD z R G) ?_ ⟨_, rfl, ⟨R, G, rfl, ⟨hz, by omega, by omega, fun r hr => ?_, fun g hg => ?_, by omega, hU⟩⟩, rfl⟩)⟩
      · exact fTup_eq (fAll_eq rfl (fAll_eq (fVar_eq rfl) (fAll_eq (fB1_eq (fVar_eq (i := 4) rfl) dTuple_lst) (fAll_eq (fVar_eq rfl) fAll_nil))))
      · rw [hlen]; exact hR r hr
      · rw [hlen]; exact Nat.lt_of_lt_of_le (hG g hg) hkN
end
end K66
/-! ## L66g -/
set_option Elab.async false
set_option linter.all false
set_option maxRecDepth 100000
set_option maxHeartbeats 4000000
namespace K66
open PySem PySem.Spec PyProof.Rows L2 Tr Mach
abbrev zl (z : Str) : List Nat := z.cps.toList
theorem five_ix : ∀ z ∈ five, ∀ x ∈ zl z, (match Builtin.Str.occurrences z (tx [x]) 0 z.length 1 with | i :: _ => decide (i = ix (zl z) x) | [] => false) = true := by decide +kernel
theorem five_nodup : ∀ z ∈ five, (zl z).Nodup := by decide +kernel
theorem zl_len {z : Str} : (zl z).length = z.length := by unfold Str.length; simp
theorem sIndex_ok {z : Str} {x : Nat} (hz : z ∈ five) (hx : x ∈ zl z) : lif (sIndex z [dt [x]]) = Tr.ret (di (ix (zl z) x)) := by
  have h := five_ix z hz x hx
  split at h
  · rename_i i r e
    have h := of_decide_eq_true h
    refine lif_eq fun μ => ?_
    show (match Builtin.Str.occurrences z (tx [x]) 0 z.length 1 with
      | i :: _ => some (D.v (.int (i : Nat)))
      | [] => none) = _
    rw [e]
    show some (D.v (.int (i : Nat))) = _
    rw [h]
  · cases h
section
variable {z : Str} {R : List (List Nat)} {G : List Nat}
theorem MOk.good' (h : MOk z R G) : Good (zl z).length R := ⟨h.len1, fun r hr => by rw [zl_len]; exact h.row r hr⟩
theorem ns_pl {l : List Nat} : plDs (nsD l) = true := plDs_iff.mpr fun d hd => by
  obtain ⟨i, _, rfl⟩ := List.mem_map.mp hd
  rfl
theorem ns_dps {l : List Nat} : dps (nsD l) = 0 := dps_v fun d hd => by
  obtain ⟨i, _, rfl⟩ := List.mem_map.mp hd
  exact ⟨_, rfl⟩
theorem ns_int (l : List Nat) : nsD l = (l.map fun i : Nat => (i : Int)).map di := by
  rw [List.map_map]
  rfl
theorem rows_pl : plDs (R.map rowD) = true := plDs_iff.mpr fun d hd => by
  obtain ⟨r, _, rfl⟩ := List.mem_map.mp hd
  exact ns_pl
theorem mD_pl (h : MOk z R G) : plD (mD z R G) = true := by
  refine plDs_iff.mpr fun d hd => ?_
  simp only [List.mem_cons, List.not_mem_nil, or_false] at hd
  obtain ⟨z0, z4, z128, _, _⟩ := five_ok z h.five
  rcases hd with rfl | rfl | rfl | rfl
  · exact strs_pl (by decide) (by decide)
  · exact strs_pl z128 (by omega)
  · exact rows_pl
  · exact ns_pl
theorem wts_ns : ∀ {l : List Nat}, wts (nsD l) = l.length
  | [] => rfl
  | i :: l => by
    have e : wts (nsD (i :: l)) = wt (di i) + wts (nsD l) := rfl
    rw [e, wts_ns, List.length_cons]
    have : wt (di (i : Int)) = 1 := rfl
    omega
theorem mD_wt (h : MOk z R G) : wt (mD z R G) ≤ 60 := by
  have e : wt (mD z R G) = (1 + (1 + (wts (R.map rowD) + 1 + (wts (nsD G) + 1 + 0)))) + 1 := rfl
  have h1 : wts (R.map rowD) ≤ 5 * (R.map rowD).length := wts_le fun d hd => by
    obtain ⟨r, hr, rfl⟩ := List.mem_map.mp hd
    have e2 : wt (rowD r) = wts (nsD r) + 1 := rfl
    have h2 := (h.row r hr).1
    have h3 := (five_ok z h.five).2.1
    rw [e2, wts_ns]
    omega
  have h4 := h.glen
  have h5 := h.len2
  rw [List.length_map] at h1
  rw [e, wts_ns]
  omega
theorem ns_wd {l : List Nat} {k : Nat} (h : l.length ≤ k) : wd (.tup (nsD l)) ≤ k := wd_t.mpr ⟨by rw [List.length_map]; exact h, fun d hd => by
  obtain ⟨i, _, rfl⟩ := List.mem_map.mp hd
  rw [wd_v]
  omega⟩
theorem mD_wd (h : MOk z R G) : wd (mD z R G) ≤ 30 := by
  refine wd_t.mpr ⟨Nat.le_of_ble_eq_true rfl, fun d hd => ?_⟩
  simp only [List.mem_cons, List.not_mem_nil, or_false] at hd
  have h4 := h.glen
  have h5 := h.len2
  rcases hd with rfl | rfl | rfl | rfl
  · rw [wd_v]; omega
  · rw [wd_v]; omega
  · refine wd_t.mpr ⟨by rw [List.length_map]; omega, fun d hd => ?_⟩
    obtain ⟨r, hr, rfl⟩ := List.mem_map.mp hd
    have h2 := (h.row r hr).1
    have h3 := (five_ok z h.five).2.1
    exact ns_wd (by omega)
  · exact ns_wd (by omega)
theorem mD_dp : dp (mD z R G) < 12 := by
  have e : dp (mD z R G) = max 0 (max 0 (max (dps (R.map rowD) + 1) (max (dps (nsD G) + 1) 0))) + 1 := by
    unfold mD
    rw [dp_t, dps, dps, dps, dps, dps, dp_t, dp_t]
    rfl
  have h1 : dps (R.map rowD) ≤ 1 := dps_le fun d hd => by
    obtain ⟨r, hr, rfl⟩ := List.mem_map.mp hd
    rw [dp_t, ns_dps]
    omega
  rw [e, ns_dps]
  omega
theorem mD_lf (h : MOk z R G) : lfD (mD z R G) = true := by
  have hl := h.len2
  refine lf_t fun d hd => ?_
  simp only [List.mem_cons, List.not_mem_nil, or_false] at hd
  obtain ⟨z0, z4, z128, _, _⟩ := five_ok z h.five
  rcases hd with rfl | rfl | rfl | rfl
  · exact lf_str (by decide) (by decide)
  · exact lf_str z128 (by omega)
  · refine lf_t fun d hd => ?_
    obtain ⟨r, hr, rfl⟩ := List.mem_map.mp hd
    refine lf_t fun d hd => ?_
    obtain ⟨i, hi, rfl⟩ := List.mem_map.mp hd
    have := (h.row r hr).2 i hi
    exact lf_int (by omega) (by omega)
  · refine lf_t fun d hd => ?_
    obtain ⟨i, hi, rfl⟩ := List.mem_map.mp hd
    have := h.good i hi
    exact lf_int (by omega) (by omega)
theorem num_ns {l : List Nat} {n : Nat} (h : ∀ i ∈ l, i < n) : (nsD l).all (isNumB · n) = true := by
  rw [List.all_eq_true]
  intro d hd
  obtain ⟨i, hi, rfl⟩ := List.mem_map.mp hd
  have := h i hi
  show (decide ((0 : Int) ≤ (i : Int)) && decide ((i : Int) < (n : Int))) = true
  rw [Bool.and_eq_true, decide_eq_true_iff, decide_eq_true_iff]
  omega
theorem mD_B (h : MOk z R G) : machB (mD z R G) = true := by
  obtain ⟨z0, z4, z128, zA, _⟩ := five_ok z h.five
  have h1 := h.len1
  have h2 := h.len2
  unfold mD
  rw [machB4 rfl, zA, Bool.true_and]
  have e1 : rowsTopB (.tup (R.map rowD)) = (decide (1 ≤ (R.map rowD).length) && decide ((R.map rowD).length ≤ 400)) := rfl
  have e2 : lenT (.tup (R.map rowD)) = R.length := by show (R.map rowD).length = _; rw [List.length_map]
  rw [e1, e2, List.length_map, decide_eq_true h1, decide_eq_true (show R.length ≤ 400 by omega), Bool.true_and, Bool.true_and, Bool.and_eq_true]
  constructor
  · show (R.map rowD).all _ = true
    rw [List.all_eq_true]
    intro d hd
    obtain ⟨r, hr, rfl⟩ := List.mem_map.mp hd
    show ((nsD r).length == z.length && (nsD r).all (isNumB · R.length)) = true
    rw [num_ns (h.row r hr).2, List.length_map, (h.row r hr).1]
    simp
  · show ((nsD G).all (isNumB · R.length) && riseZ ((nsD G).map numI)) = true
    rw [num_ns h.good, Bool.true_and, riseZ_up, List.map_map]
    refine List.pairwise_map.mpr (List.Pairwise.imp (fun {a b} hab => ?_) h.up)
    show (a : Int) < (b : Int)
    omega
theorem need_mach {d : D} (hp : plD d = true) (hw : wt d ≤ 16777216) (hb : machB d = true) : F_need_machine [d] = ret (.v .non) := by
  refine bodyF_nx (ρ := [some d]) rfl ?_
  unfold f_need_machine
  have r0 : (List.map some [d] ++ List.replicate (1 - 1) none : En) = [some d] := rfl
  rw [r0, ifS_eq (tNot_eq (tst_eq (fCall_eq (fAll_eq (fVar_eq rfl) fAll_nil) (F_is_machine_ok hp hw)))), hb]
  rfl
theorem need_mach_no {d : D} {μ : Mu} (hp : plD d = true) (hw : wt d ≤ 16777216) (hb : machB d = false) : F_need_machine [d] μ = some (.ex "BadMachine" μ) := by
  refine bodyF_ex rfl ?_
  unfold f_need_machine
  have r0 : (List.map some [d] ++ List.replicate (1 - 1) none : En) = [some d] := rfl
  rw [r0, ifS_eq (tNot_eq (tst_eq (fCall_eq (fAll_eq (fVar_eq rfl) fAll_nil) (F_is_machine_ok hp hw)))), hb]
  rfl
theorem letters_in2 {a : D} {zs y : Str} {more : List D} {x2 : Option D} (hl : y.length ≤ 16777216) : fB dAll [fLc (fItm (fVar 1)) (gN 2) (tYesF) (Tr.f2 dIn (fVar 2) (Tr.f2 dIx (fVar 0) (fC (.v (.int 1))))) [2]] [some (.tup (a :: .v (.str zs) :: more)), some (.v (.str y)), x2] = Tr.ret (.v (.bl (y.cps.toList.all fun x => decide (x ∈ zs.cps.toList)))) := by
  refine fB1_eq (a := .lst (y.cps.toList.map fun x => .v (.bl (decide (x ∈ zs.cps.toList))))) (fLc_eval (fItm_str (fVar_eq (i := 1) rfl)) (by rw [chars_len]; exact hl) ?_) lif_all
  rw [chars_tx]
  refine lcGo_mapL fun x hx => ?_
  exact f2_eq (fVar_eq (i := 2) (d := dt [x]) rfl) (f2_eq (fVar_eq (i := 0) rfl) (fb := fC (.v (.int 1))) rfl lif_ixT1) lif_inC
/-- the condition of need_text_of -/
theorem text_cond {d : D} (hp : plD d = true) : tOrF (tNotF (tst (fCall F_is_text [fVar 1]))) (tNotF (tst (fB dAll [fLc (fItm (fVar 1)) (gN 2) (tYesF) (f2 dIn (fVar 2) (f2 dIx (fVar 0) (fC (.v (.int 1))))) [2]]))) [some (mD z R G), some d, none] = ret (!textOf z d) := by
  have c1 := tNot_eq (tst_eq (fCall_eq (fAll_eq (fVar_eq (i := 1) (ρ := [some (mD z R G), some d, none]) rfl) fAll_nil) (F_is_text_ok hp)))
  cases d with
  | v x =>
    cases x with
    | str y =>
      obtain ⟨h1, h2⟩ := str_small hp
      have e : textOf z (.v (.str y)) = (lowS y && y.cps.toList.all fun x => decide (x ∈ z.cps.toList)) := rfl
      rw [e, Bool.not_and]
      exact tOrB c1 fun _ => tNot_eq (tst_eq (letters_in2 (by omega)))
    | _ => exact tOrB (b := true) c1 fun h => nomatch h
  | tup xs => exact tOrB (b := true) c1 fun h => nomatch h
  | lst xs => exact tOrB (b := true) c1 fun h => nomatch h
  | _ => cases hp
theorem need_text {d : D} (hp : plD d = true) (ht : textOf z d = true) : F_need_text_of [mD z R G, d] = ret (.v .non) := by
  refine bodyF_nx (ρ := [some (mD z R G), some d, none]) rfl ?_
  unfold f_need_text_of
  have r0 : (List.map some [mD z R G, d] ++ List.replicate (3 - 2) none : En) = [some (mD z R G), some d, none] := rfl
  rw [r0, ifS_eq (text_cond hp), ht]
  rfl
theorem need_text_no {d : D} {μ : Mu} (hp : plD d = true) (ht : textOf z d = false) : F_need_text_of [mD z R G, d] μ = some (.ex "BadText" μ) := by
  refine bodyF_ex rfl ?_
  unfold f_need_text_of
  have r0 : (List.map some [mD z R G, d] ++ List.replicate (3 - 2) none : En) = [some (mD z R G), some d, none] := rfl
  rw [r0, ifS_eq (text_cond hp), ht]
  rfl
theorem row_at {s : Nat} (hs : s < R.length) : (R.map rowD)[s]? = some (rowD (R.getD s [])) := by
  rw [List.getElem?_map, List.getD_eq_getElem?_getD, List.getElem?_eq_getElem hs]
  rfl
theorem ns_at {l : List Nat} {k : Nat} (h : k < l.length) : (nsD l)[k]? = some (di (l.getD k 0 : Nat)) := by
  rw [List.getElem?_map, List.getD_eq_getElem?_getD, List.getElem?_eq_getElem h]
  rfl
theorem led_step {s x : Nat} {a2 : Option D} (h : MOk z R G) (hs : s < R.length) (hx : x ∈ zl z) : b_led_from_0 [some (mD z R G), some (di s), a2, some (dt [x])] = ret (.nx [some (mD z R G), some (di ((R.getD s []).getD (ix (zl z) x) 0 : Nat)), a2, some (dt [x])]) := by
  have hr := (h.row _ (getD_mem hs)).1
  have hi := ix_lt hx
  rw [zl_len] at hi
  unfold b_led_from_0
  refine set_eq (f2_eq (f2_eq (f2_eq (fVar_eq rfl) rfl lif_ixT2) (fVar_eq rfl) (lif_ixT (row_at hs))) (ms_eq (f2_eq (fVar_eq rfl) rfl lif_ixT1) (fVar_eq rfl) (sIndex_ok h.five hx)) (lif_ixT (ns_at (by omega))))
theorem led_loop {a2 : Option D} (h : MOk z R G) : ∀ {w : List Nat} {s : Nat} {a3 : Option D}, s < R.length → (∀ x ∈ w, x ∈ zl z) → ∃ y3, loopS (gN 3) b_led_from_0 (w.map fun x => dt [x]) [some (mD z R G), some (di s), a2, a3] = ret (.nx [some (mD z R G), some (di (ledN (zl z) R s w : Nat)), a2, y3])
  | [], s, a3, _, _ => ⟨a3, rfl⟩
  | x :: w, s, a3, hs, hw => by
    obtain ⟨y3, e⟩ := led_loop (a2 := a2) h (w := w) (a3 := some (dt [x])) (go_lt h.good' rfl hs (hw x List.mem_cons_self)) fun y hy => hw y (List.mem_cons_of_mem _ hy)
    refine ⟨y3, ?_⟩
    have es : lif (gN 3 (dt [x]) [some (mD z R G), some (di s), a2, a3]) = ret [some (mD z R G), some (di s), a2, some (dt [x])] := rfl
    rw [List.map_cons, loopS_cons, es, bnd_ret, led_step h hs (hw x List.mem_cons_self), bnd_ret]
    exact e
theorem led_ok {s : Nat} {w : List Nat} (h : MOk z R G) (hs : s < R.length) (hw : ∀ x ∈ w, x ∈ zl z) : F_led_from [mD z R G, di s, dt w] = ret (di (ledN (zl z) R s w : Nat)) := by
  refine bodyF_rt rfl ?_
  unfold f_led_from
  have r0 : (List.map some [mD z R G, di s, dt w] ++ List.replicate (4 - 3) none : En) = [some (mD z R G), some (di s), some (dt w), none] := rfl
  obtain ⟨y3, e⟩ := led_loop (a2 := some (dt w)) (a3 := none) h hs hw
  rw [r0, seq_nx ((fFor_eval (fItm_str (fVar_eq (i := 2) rfl))).trans (by rw [dt_chars]; exact e))]
  exact rt_eq (fVar_eq rfl)
theorem jn_led_ok {s : Nat} {w : List Nat} (h : MOk z R G) (hs : s < R.length) (hw : ∀ x ∈ w, x ∈ zl z) : F__law_jn_led [mD z R G, di s, dt w] = ret (di (ledN (zl z) R s w : Nat)) := led_ok h hs hw
theorem in_ns {i : Nat} {l : List Nat} : lif (dIn (di i) (.tup (nsD l))) = ret (bl (decide (i ∈ l))) := lif_eq fun μ => by
  have hv : view μ (.tup (nsD l)) = .tup (nsD l) := rfl
  unfold dIn inB
  rw [hv, ns_int]
  dsimp only
  rw [flatDs_ints]
  show (some (inV (.int i) _)).map _ = _
  rw [inV_ints]
  show some (bl (decide ((i : Int) ∈ l.map fun i : Nat => (i : Int)))) = _
  have e : decide ((i : Int) ∈ l.map fun i : Nat => (i : Int)) = decide (i ∈ l) := by
    rw [Bool.eq_iff_iff, decide_eq_true_iff, decide_eq_true_iff, List.mem_map]
    constructor
    · rintro ⟨j, hj, e⟩
      have : j = i := by omega
      rw [← this]; exact hj
    · exact fun hi => ⟨i, hi, rfl⟩
  rw [e]
def letsN (z : Str) (R : List (List Nat)) (G : List Nat) (w : List Nat) : Bool := decide (ledN (zl z) R 0 w ∈ G)
theorem jn_lets_ok {w : List Nat} (h : MOk z R G) (hw : ∀ x ∈ w, x ∈ zl z) : F__law_jn_lets [mD z R G, dt w] = ret (bl (letsN z R G w)) := by
  refine bodyF_rt rfl ?_
  unfold f__law_jn_lets
  have r0 : (List.map some [mD z R G, dt w] ++ List.replicate (2 - 2) none : En) = [some (mD z R G), some (dt w)] := rfl
  rw [r0]
  exact rt_eq (f2_eq (fCall_eq (fAll_eq (fVar_eq rfl) (fAll_eq (f := fC (.v (.int 0))) rfl (fAll_eq (fVar_eq rfl) fAll_nil))) (jn_led_ok h (s := 0) (by have := h.len1; omega) hw)) (f2_eq (fVar_eq rfl) rfl lif_ixT3) in_ns)
theorem drop_eq {fa : FE} {d : D} {ρ : En} (h : fa ρ = ret d) : fDrop fa ρ = ret (.nx ρ) := by
  unfold fDrop
  rw [h, bnd_ret]
theorem dt_pl' {w : List Nat} (hz : z ∈ five) (hw : ∀ x ∈ w, x ∈ zl z) (hl : w.length ≤ 4000) : plD (dt w) = true := dt_pl (fun x hx => (five_ok z hz).2.2.1 x (hw x hx)) hl
theorem mD_wt' (h : MOk z R G) : wt (mD z R G) ≤ 16777216 := Nat.le_trans (mD_wt h) (by decide)
theorem lets_ok {w : List Nat} (h : MOk z R G) (hw : ∀ x ∈ w, x ∈ zl z) (hl : w.length ≤ 4000) : F_lets [mD z R G, dt w] = ret (bl (letsN z R G w)) := by
  refine bodyF_rt rfl ?_
  unfold f_lets
  have r0 : (List.map some [mD z R G, dt w] ++ List.replicate (2 - 2) none : En) = [some (mD z R G), some (dt w)] := rfl
  rw [r0]
  rw [seq_nx (drop_eq (fCall_eq (fAll_eq (fVar_eq rfl) fAll_nil) (need_mach (mD_pl h) (mD_wt' h) (mD_B h))))]
  rw [seq_nx (drop_eq (fCall_eq (fAll_eq (fVar_eq rfl) (fAll_eq (fVar_eq rfl) fAll_nil)) (need_text (dt_pl' h.five hw hl) (textOf_dt (five_ok z h.five).2.2.2.2 hw))))]
  exact rt_eq (f2_eq (fCall_eq (fAll_eq (fVar_eq rfl) (fAll_eq (f := fC (.v (.int 0))) rfl (fAll_eq (fVar_eq rfl) fAll_nil))) (led_ok h (s := 0) (by have := h.len1; omega) hw)) (f2_eq (fVar_eq rfl) rfl lif_ixT3) in_ns)
def leds (z : Str) (R : List (List Nat)) (w : List Nat) : List Nat := (List.range R.length).map fun s => ledN (zl z) R s w
theorem len_rows {ρ : En} {i : Nat} (h : fVar i ρ = ret (mD z R G)) : fB dLen [f2 dIx (fVar i) (fC (.v (.int 2)))] ρ = ret (di (R.length : Nat)) := by
  have := fB1_eq (f := dLen) (f2_eq (fb := fC (.v (.int 2))) h rfl lif_ixT2) (lif_lenT (xs := R.map rowD))
  rw [List.length_map] at this
  exact this
theorem led_on_ok {w : List Nat} (h : MOk z R G) (hw : ∀ x ∈ w, x ∈ zl z) (hl : w.length ≤ 4000) : F_led_on [mD z R G, dt w] μ = some (.ok (.r μ.length) (μ ++ [.lst (nsD (leds z R w))])) := by
  refine bodyF_at rfl ?_
  unfold f_led_on
  have r0 : (List.map some [mD z R G, dt w] ++ List.replicate (3 - 2) none : En) = [some (mD z R G), some (dt w), none] := rfl
  rw [r0]
  rw [seq_nx (drop_eq (fCall_eq (fAll_eq (fVar_eq rfl) fAll_nil) (need_mach (mD_pl h) (mD_wt' h) (mD_B h))))]
  rw [seq_nx (drop_eq (fCall_eq (fAll_eq (fVar_eq rfl) (fAll_eq (fVar_eq rfl) fAll_nil)) (need_text (dt_pl' h.five hw hl) (textOf_dt (five_ok z h.five).2.2.2.2 hw))))]
  have h2 := h.len2
  have e := fLcM_eval (fi := fRng1 [fB dLen [f2 dIx (fVar 0) (fC (.v (.int 2)))]]) (gt := gN 2) (ft := tYesF) (fe := fCall F_led_from [fVar 0, fVar 2, fVar 1]) (own := [2]) (ρ := [some (mD z R G), some (dt w), none]) (ds := rngD 0 R.length) (out := nsD (leds z R w)) (rng1_eq (len_rows (fVar_eq rfl)) (by omega)) (by rw [rngD_len]; omega) (by
    rw [rng0]
    unfold leds nsD
    rw [List.map_map]
    exact lcGo_mapL fun s hs => fCall_eq (fAll_eq (fVar_eq rfl) (fAll_eq (fVar_eq rfl) (fAll_eq (fVar_eq rfl) fAll_nil))) (led_ok h (List.mem_range.mp hs) hw))
  refine rt_at ?_
  rw [e]
  rfl
end
end K66
/-! ## L66h -/
set_option Elab.async false
set_option linter.all false
set_option maxRecDepth 100000
set_option maxHeartbeats 4000000
namespace K66
open PySem PySem.Spec PyProof.Rows L2 Tr Mach
section
variable {ρ : En} {μ μ1 μ' : Mu}
theorem f2_at {f : Op2} {fa fb : FE} {a b d : D} (h1 : fa ρ μ = some (.ok a μ)) (h2 : fb ρ μ = some (.ok b μ)) (h : f a b μ = some d) : f2 f fa fb ρ μ = some (.ok d μ) := by
  unfold f2
  rw [bnd_at h1, bnd_at h2]
  exact lif_at h
theorem fB1_at {f : OpN} {fa : FE} {a d : D} (h1 : fa ρ μ = some (.ok a μ)) (h : f [a] μ = some d) : fB f [fa] ρ μ = some (.ok d μ) := by
  unfold fB
  rw [bnd_at (fAll_at h1 (ds := []) (μ2 := μ) rfl)]
  exact lif_at h
theorem var_at {i : Nat} {d : D} (h : ρ[i]? = some (some d)) : fVar i ρ μ = some (.ok d μ) := ret_of (fVar_eq h)
theorem loop_cons_at {gt : FG} {fb : FS} {d : D} {ds : List D} {ρ1 ρ2 : En} {r : Option (R Out)} (h1 : lif (gt d ρ) = ret ρ1) (h2 : fb ρ1 μ = some (.ok (.nx ρ2) μ')) (h3 : loopS gt fb ds ρ2 μ' = r) : loopS gt fb (d :: ds) ρ μ = r := by
  rw [loopS_cons, h1, bnd_ret, bnd_at h2]
  exact h3
/-- counts told by value, or by a cell -/
def CvOk (cd : D) (cs : List Nat) (μ : Mu) : Prop := cd = .lst (nsD cs) ∨ ∃ k, cd = .r k ∧ μ[k]? = some (.lst (nsD cs))
theorem cv_view {cd : D} {cs : List Nat} (h : CvOk cd cs μ) : view μ cd = .lst (nsD cs) := by
  rcases h with rfl | ⟨k, rfl, hk⟩
  · rfl
  · show (match μ[k]? with
      | some (.lst xs) => D.lst xs
      | _ => .r k) = _
    rw [hk]
theorem cv_ext {cd : D} {cs : List Nat} {c : Cell} (h : CvOk cd cs μ) : CvOk cd cs (μ ++ [c]) := by
  rcases h with rfl | ⟨k, rfl, hk⟩
  · exact .inl rfl
  · refine .inr ⟨k, rfl, ?_⟩
    have hlt : k < μ.length := by
      obtain ⟨z, _⟩ := List.getElem?_eq_some_iff.mp hk
      exact z
    rw [List.getElem?_append_left hlt, hk]
theorem atI_ns {l : List Nat} {a : Nat} (ha : a < l.length) : atI (nsD l) (a : Int) = some (di (l.getD a 0 : Nat)) := by
  unfold atI ixN
  rw [if_pos (by omega), if_pos (by rw [List.length_map]; omega)]
  exact ns_at ha
theorem cv_ix {cd : D} {cs : List Nat} {a : Nat} (h : CvOk cd cs μ) (ha : a < cs.length) : dIx cd (di a) μ = some (di (cs.getD a 0 : Nat)) := by
  show (match view μ cd, di a with
    | .lst xs, .v (.int i) => atI xs i
    | .tup xs, .v (.int i) => atI xs i
    | .v (.str z), .v (.int i) => (atI z.cps.toList i).map fun c => .v (.str ⟨#[c]⟩)
    | _, _ => none) = _
  rw [cv_view h]
  exact atI_ns ha
theorem cv_len {cd : D} {cs : List Nat} (h : CvOk cd cs μ) : dLen [cd] μ = some (di (cs.length : Nat)) := by
  show (lenB cd μ).map _ = _
  unfold lenB
  rw [cv_view h]
  show some (di ((nsD cs).length : Nat)) = _
  rw [List.length_map]
end
def cE (m n cd lap : D) (j : Nat) (a5 a6 a7 : Option D) : En := [some m, some n, some cd, some lap, some (.r j), a5, a6, a7]
section
variable {m n cd lap : D} {cs : List Nat} {μ1 : Mu}
theorem put_step {a g : Nat} {a6 : Option D} {ms : List Nat} (h : CvOk cd cs μ1) (ha : a < cs.length) (hg : g < ms.length) :
    b__law_count_0 (cE m n cd lap μ1.length (some (di a)) a6 (some (di g))) (μ1 ++ [.lst (nsD ms)]) = some (.ok (.nx (cE m n cd lap μ1.length (some (di a)) a6 (some (di g)))) (μ1 ++ [.lst (nsD (addAt ms g (cs.getD a 0)))])) := by
  have hc : CvOk (.r μ1.length) ms (μ1 ++ [.lst (nsD ms)]) := .inr ⟨_, rfl, last_get⟩
  unfold b__law_count_0 fPutI
  rw [bnd_at (f2_at (d := di ((ms.getD g 0 + cs.getD a 0 : Nat) : Int)) (f2_at (var_at rfl) (var_at rfl) (cv_ix hc hg)) (f2_at (var_at rfl) (var_at rfl) (cv_ix (cv_ext h) ha)) rfl)]
  rw [bnd_at (var_at (i := 4) (d := .r μ1.length) rfl), bnd_at (var_at (i := 7) (d := di g) rfl)]
  dsimp only
  rw [last_get]
  dsimp only
  have e : ixN (nsD ms).length (g : Int) = some g := by
    unfold ixN
    rw [if_pos (by omega), if_pos (by rw [List.length_map]; omega)]
    rfl
  rw [e]
  dsimp only
  rw [last_set]
  have e2 : (nsD ms).set g (di ((ms.getD g 0 + cs.getD a 0 : Nat) : Int)) = nsD (addAt ms g (cs.getD a 0)) := by
    unfold addAt nsD
    rw [List.map_set]
  rw [e2]
theorem row_loop2 {a : Nat} {a6 : Option D} (h : CvOk cd cs μ1) (ha : a < cs.length) : ∀ {row ms : List Nat} {a7 : Option D}, (∀ g ∈ row, g < ms.length) → ∃ y7, loopS (gN 7) b__law_count_0 (nsD row) (cE m n cd lap μ1.length (some (di a)) a6 a7) (μ1 ++ [.lst (nsD ms)]) =
    some (.ok (.nx (cE m n cd lap μ1.length (some (di a)) a6 y7)) (μ1 ++ [.lst (nsD (rowAdd (cs.getD a 0) row ms))]))
  | [], ms, a7, _ => ⟨a7, rfl⟩
  | g :: row, ms, a7, hg => by
    obtain ⟨y7, e⟩ := row_loop2 (a6 := a6) h ha (row := row) (ms := addAt ms g (cs.getD a 0)) (a7 := some (di g)) fun x hx => by rw [addAt_len]; exact hg x (List.mem_cons_of_mem _ hx)
    exact ⟨y7, loop_cons_at rfl (put_step h ha (hg g List.mem_cons_self)) e⟩
theorem enum_loop (h : CvOk cd cs μ1) : ∀ {rs : List (List Nat)} {k : Nat} {ms : List Nat} {a5 a6 a7 : Option D}, k + rs.length ≤ cs.length → (∀ r ∈ rs, ∀ g ∈ r, g < ms.length) → ∃ y5 y6 y7, loopS (gT 2 (gsCons (gN 5) (gsCons (gN 6) gsNil))) b__law_count_1 (enF k (rs.map rowD)) (cE m n cd lap μ1.length a5 a6 a7) (μ1 ++ [.lst (nsD ms)]) =
    some (.ok (.nx (cE m n cd lap μ1.length y5 y6 y7)) (μ1 ++ [.lst (nsD (stepC (cs.drop k) rs ms))]))
  | [], k, ms, a5, a6, a7, _, _ => ⟨a5, a6, a7, by rw [stepC] <;> first | rfl | simp⟩
  | r :: rs, k, ms, a5, a6, a7, hk, hg => by
    rw [List.length_cons] at hk
    have hkc : k < cs.length := by omega
    obtain ⟨y7, e1⟩ := row_loop2 (m := m) (n := n) (lap := lap) (a6 := some (rowD r)) h hkc (row := r) (ms := ms) (a7 := a7) (hg r List.mem_cons_self)
    obtain ⟨z5, z6, z7, e2⟩ := enum_loop h (rs := rs) (k := k + 1) (ms := rowAdd (cs.getD k 0) r ms) (a5 := some (di k)) (a6 := some (rowD r)) (a7 := y7) (by omega) fun x hx g hgx => by rw [rowAdd_len]; exact hg x (List.mem_cons_of_mem _ hx) g hgx
    refine ⟨z5, z6, z7, ?_⟩
    have ed : cs.drop k = cs.getD k 0 :: cs.drop (k + 1) := by
      rw [List.drop_eq_getElem_cons hkc, List.getD_eq_getElem?_getD, List.getElem?_eq_getElem hkc]
      rfl
    have ee : enF k ((r :: rs).map rowD) = .tup [di k, rowD r] :: enF (k + 1) (rs.map rowD) := rfl
    rw [ee, ed, stepC]
    refine loop_cons_at lif_gT2 ?_ e2
    exact for_at (fItm_tup (fVar_eq rfl)) e1
/-- one lap: the counts of one letter more -/
theorem lap_step {R : List (List Nat)} {m : D} {a4 a5 a6 a7 : Option D} {z : Str} {G : List Nat} (hm : m = mD z R G) (ho : MOk z R G) (h : CvOk cd cs μ1) (hc : cs.length = R.length) : ∃ y5 y6 y7, b__law_count_2 [some m, some n, some cd, some lap, a4, a5, a6, a7] μ1 =
    some (.ok (.nx (cE m n (.r μ1.length) lap μ1.length y5 y6 y7)) (μ1 ++ [.lst (nsD (stepC cs R (List.replicate R.length 0)))])) := by
  have h2 := ho.len2
  obtain ⟨y5, y6, y7, e⟩ := enum_loop (m := m) (n := n) (lap := lap) h (rs := R) (k := 0) (ms := List.replicate R.length 0) (a5 := a5) (a6 := a6) (a7 := a7) (by omega) fun r hr g hg => by rw [List.length_replicate]; exact (ho.row r hr).2 g hg
  refine ⟨y5, y6, y7, ?_⟩
  unfold b__law_count_2
  have e1 : fMulM (fLst [fC (.v (.int 0))]) (fB dLen [fVar 2]) [some m, some n, some cd, some lap, a4, a5, a6, a7] μ1 = some (.ok (.r μ1.length) (μ1 ++ [.lst (nsD (List.replicate R.length 0))])) := by
    unfold fMulM
    rw [bnd_at (ret_of (fLst_eq (fAll_eq (f := fC (.v (.int 0))) (a := di 0) rfl fAll_nil))), bnd_at (fB1_at (f := dLen) (var_at (i := 2) (d := cd) rfl) (cv_len h))]
    dsimp only
    rw [if_pos ⟨by omega, by rw [hc]; omega, by decide⟩]
    have e3 : repD ((cs.length : Nat) : Int).toNat [di 0] = nsD (List.replicate R.length 0) := by
      unfold repD nsD
      rw [Int.toNat_natCast, hc]
      induction R.length with
      | zero => rfl
      | succ k ih => rw [List.replicate_succ, List.replicate_succ, List.flatten_cons, ih]; rfl
    rw [e3]
    rfl
  rw [seq_at (set_at e1)]
  have e0 : ([some m, some n, some cd, some lap, a4, a5, a6, a7] : En).set 4 (some (.r μ1.length)) = cE m n cd lap μ1.length a5 a6 a7 := rfl
  rw [e0]
  rw [List.drop_zero] at e
  rw [seq_at (for_at (ds := enD (R.map rowD)) (r := _) ?_ e)]
  · exact set_at (var_at rfl)
  · unfold fEnum
    rw [f2_eq (fVar_eq (i := 0) (d := m) rfl) (fb := fC (.v (.int 2))) rfl (by rw [hm]; exact lif_ixT2), bnd_ret]
    exact lif_eq fun μ => rfl
theorem laps {R : List (List Nat)} {m : D} {z : Str} {G : List Nat} (hm : m = mD z R G) (ho : MOk z R G) : ∀ {ds : List D} {k : Nat} {cd : D} {μ1 : Mu} {a3 a4 a5 a6 a7 : Option D}, CvOk cd (cnt R k) μ1 → ∃ cells cd' y3 y4 y5 y6 y7, loopS (gN 3) b__law_count_2 ds [some m, some n, some cd, a3, a4, a5, a6, a7] μ1 =
    some (.ok (.nx [some m, some n, some cd', y3, y4, y5, y6, y7]) (μ1 ++ cells)) ∧ CvOk cd' (cnt R (k + ds.length)) (μ1 ++ cells)
  | [], k, cd, μ1, a3, a4, a5, a6, a7, h => ⟨[], cd, a3, a4, a5, a6, a7, by rw [List.append_nil]; rfl, by rw [List.append_nil]; exact h⟩
  | d :: ds, k, cd, μ1, a3, a4, a5, a6, a7, h => by
    obtain ⟨y5, y6, y7, e⟩ := lap_step (n := n) (lap := d) (a4 := a4) (a5 := a5) (a6 := a6) (a7 := a7) hm ho h (cnt_len ho.len1)
    have hc : CvOk (.r μ1.length) (cnt R (k + 1)) (μ1 ++ [.lst (nsD (stepC (cnt R k) R (List.replicate R.length 0)))]) := .inr ⟨_, rfl, last_get⟩
    obtain ⟨cells, cd', w3, w4, w5, w6, w7, e2, e3⟩ := laps hm ho (ds := ds) (a3 := some d) (a4 := some (.r μ1.length)) (a5 := y5) (a6 := y6) (a7 := y7) hc
    rw [List.append_assoc] at e2 e3
    refine ⟨_, cd', w3, w4, w5, w6, w7, loop_cons_at (ρ1 := [some m, some n, some cd, some d, a4, a5, a6, a7]) rfl e e2, ?_⟩
    rw [List.length_cons, show k + (ds.length + 1) = k + 1 + ds.length by omega]
    exact e3
end
theorem sum_ints {l : List Nat} : (l.map fun i : Nat => (i : Int)).sum = ((l.sum : Nat) : Int) := by
  induction l with
  | nil => rfl
  | cons a l ih => rw [List.map_cons, List.sum_cons, List.sum_cons, ih]; omega
section
variable {z : Str} {R : List (List Nat)} {G : List Nat} {μ : Mu}
theorem sum_at {cd : D} {n : D} {k : Nat} {μ1 : Mu} {a3 a4 a5 a6 a7 : Option D} (ho : MOk z R G) (h : CvOk cd (cnt R k) μ1) : fB dSum [fLc (fItm (f2 dIx (fVar 0) (fC (.v (.int 3))))) (gN 5) (tYesF) (f2 dIx (fVar 2) (fVar 5)) [5]] [some (mD z R G), some n, some cd, a3, a4, a5, a6, a7] μ1 = some (.ok (di (countG R G k : Nat)) μ1) := by
  have e1 : fLc (fItm (f2 dIx (fVar 0) (fC (.v (.int 3))))) (gN 5) (tYesF) (f2 dIx (fVar 2) (fVar 5)) [5] [some (mD z R G), some n, some cd, a3, a4, a5, a6, a7] μ1 = some (.ok (.lst ((nsD G).map fun d => di ((cnt R k).getD (numI d).toNat 0 : Nat))) μ1) := by
    have hl := ho.glen
    refine lc_at (ds := nsD G) (g := fun d => di ((cnt R k).getD (numI d).toNat 0 : Nat)) (fItm_tup (f2_eq (fVar_eq rfl) rfl lif_ixT3)) (by rw [List.length_map]; omega) fun d hd => ?_
    obtain ⟨g, hg, rfl⟩ := List.mem_map.mp hd
    exact f2_at (var_at rfl) (var_at rfl) (cv_ix h (by rw [cnt_len ho.len1]; exact ho.good g hg))
  refine fB1_at e1 ?_
  have e2 : ((nsD G).map fun d => di ((cnt R k).getD (numI d).toNat 0 : Nat)) = ((G.map fun g => (cnt R k).getD g 0).map fun i : Nat => (i : Int)).map di := by
    unfold nsD
    rw [List.map_map, List.map_map, List.map_map]
    rfl
  rw [e2]
  show (intsB _).map _ = _
  rw [intsB_map, Option.map_some, sum_ints]
  rfl
theorem law_count_ok {n : Nat} (ho : MOk z R G) (hl : lowAll μ = true) (hn : n ≤ 16777216) : F__law_count [mD z R G, di n] μ = some (.ok (di (countG R G n : Nat)) μ) := by
  have h1 := ho.len1
  have h2 := ho.len2
  have e1 : fLc (fRng1 [fB dLen [f2 dIx (fVar 0) (fC (.v (.int 2)))]]) (gN 5) (tYesF) (fB dIntOf [f2 dEq (fVar 5) (fC (.v (.int 0)))]) [5] [some (mD z R G), some (di n), none, none, none, none, none, none] = ret (.lst (nsD (cnt R 0))) := by
    refine fLc_eval (rng1_eq (len_rows (fVar_eq rfl)) (by omega)) (by rw [rngD_len]; omega) ?_
    rw [rng0]
    have e3 : nsD (cnt R 0) = (List.range R.length).map fun i : Nat => di (if i = 0 then 1 else 0) := by
      obtain ⟨k, hk⟩ : ∃ k, R.length = k + 1 := ⟨R.length - 1, by omega⟩
      rw [Mach.cnt, hk, List.range_succ_eq_map, List.map_cons, List.map_map]
      show di 1 :: nsD (List.replicate k 0) = di 1 :: _
      congr 1
      unfold nsD
      rw [List.map_replicate]
      apply List.ext_getElem (by simp)
      intro i p q
      simp
    rw [e3]
    refine lcGo_mapL fun i hi => ?_
    refine fB1_eq (f2_eq (fVar_eq rfl) (fb := fC (.v (.int 0))) rfl lif_eqI) (lif_eq fun μ => ?_)
    show some (di (if ((i : Int) == 0) = true then 1 else 0)) = _
    by_cases hi0 : i = 0
    · subst hi0
      rfl
    · have : ((i : Int) == 0) = false := by simp; omega
      rw [this, if_neg hi0]
      rfl
  obtain ⟨cells, cd', y3, y4, y5, y6, y7, e2, e3⟩ := laps (n := di n) (m := mD z R G) rfl ho (ds := rngD 0 n) (k := 0) (cd := .lst (nsD (cnt R 0))) (μ1 := μ) (a3 := none) (a4 := none) (a5 := none) (a6 := none) (a7 := none) (.inl rfl)
  rw [rngD_len, Nat.zero_add] at e3
  refine close_v (cs := cells) hl (bodyF_at rfl ?_)
  unfold f__law_count
  have r0 : (List.map some [mD z R G, di n] ++ List.replicate (8 - 2) none : En) = [some (mD z R G), some (di n), none, none, none, none, none, none] := rfl
  rw [r0, seq_nx (set_eq e1)]
  refine (seq_at (for_at (rng1_eq (fVar_eq rfl) hn) e2)).trans ?_
  exact rt_at (sum_at ho e3)
theorem texts_ok {n : Nat} (ho : MOk z R G) (hl : lowAll μ = true) (hn : n ≤ 1000) : F_texts_of_length [mD z R G, di n] μ = some (.ok (di (countG R G n : Nat)) μ) := by
  have h1 := ho.len1
  have h2 := ho.len2
  obtain ⟨cells, cd', y3, y4, y5, y6, y7, e2, e3⟩ := laps (n := di n) (m := mD z R G) rfl ho (ds := rngD 0 n) (k := 0) (cd := .lst (nsD (cnt R 0))) (μ1 := μ) (a3 := none) (a4 := none) (a5 := none) (a6 := none) (a7 := none) (.inl rfl)
  rw [rngD_len, Nat.zero_add] at e3
  refine close_v (cs := cells) hl (bodyF_at rfl ?_)
  unfold f_texts_of_length
  have r0 : (List.map some [mD z R G, di n] ++ List.replicate (8 - 2) none : En) = [some (mD z R G), some (di n), none, none, none, none, none, none] := rfl
  rw [r0]
  rw [seq_nx (drop_eq (fCall_eq (fAll_eq (fVar_eq rfl) fAll_nil) (need_mach (mD_pl ho) (mD_wt' ho) (mD_B ho))))]
  have c : tOrF (tNotF (tst (fCall F_is_whole [fVar 1]))) (tNotF (tst (f3 dLe dLe (fC (.v (.int 0))) (fVar 1) (fC (.v (.int 1000)))))) [some (mD z R G), some (di n), none, none, none, none, none, none] = ret false := by
    have q := tOrB (tNot_eq (tst_eq (fCall_eq (fAll_eq (fVar_eq (i := 1) (ρ := [some (mD z R G), some (di n), none, none, none, none, none, none]) rfl) fAll_nil) (F_is_whole_ok (d := di n) rfl)))) fun _ => tNot_eq (tst_eq (f3_le_le (fa := fC (.v (.int 0))) (fb := fVar 1) (fc := fC (.v (.int 1000))) rfl (fVar_eq rfl) rfl))
    rw [q, decide_eq_true (show (0 : Int) ≤ (n : Int) by omega), decide_eq_true (show (n : Int) ≤ 1000 by omega)]
    rfl
  have c2 : fIfS (tOrF (tNotF (tst (fCall F_is_whole [fVar 1]))) (tNotF (tst (f3 dLe dLe (fC (.v (.int 0))) (fVar 1) (fC (.v (.int 1000))))))) (fRaise "BadNumber") fNx [some (mD z R G), some (di n), none, none, none, none, none, none] = ret (.nx [some (mD z R G), some (di n), none, none, none, none, none, none]) := by
    rw [ifS_eq c, if_neg (by decide)]
    rfl
  rw [seq_nx c2]
  have e1 : f2 dAdd (fLst [fC (.v (.int 1))]) (f2 dMul (fLst [fC (.v (.int 0))]) (f2 (dInt iSub) (fB dLen [f2 dIx (fVar 0) (fC (.v (.int 2)))]) (fC (.v (.int 1))))) [some (mD z R G), some (di n), none, none, none, none, none, none] = ret (.lst (nsD (cnt R 0))) := by
    refine f2_eq (fLst_eq (fAll_eq (f := fC (.v (.int 1))) (a := di 1) rfl fAll_nil)) (f2_eq (d := .lst (nsD (List.replicate (R.length - 1) 0))) (fLst_eq (fAll_eq (f := fC (.v (.int 0))) (a := di 0) rfl fAll_nil)) (f2_eq (len_rows (fVar_eq rfl)) (fb := fC (.v (.int 1))) rfl lif_sub) (lif_eq fun μ => ?_)) ?_
    · show (if 0 ≤ ((R.length : Nat) : Int) - 1 ∧ ((R.length : Nat) : Int) - 1 ≤ 1000 ∧ 1 ≤ 1000 then some (D.lst (repD (((R.length : Nat) : Int) - 1).toNat [di 0])) else none) = _
      rw [if_pos ⟨by omega, by omega, by decide⟩, show (((R.length : Nat) : Int) - 1).toNat = R.length - 1 by omega]
      congr 2
      unfold repD nsD
      induction R.length - 1 with
      | zero => rfl
      | succ k ih => rw [List.replicate_succ, List.replicate_succ, List.flatten_cons, ih]; rfl
    · exact lif_addL (by simp; omega)
  rw [seq_nx (set_eq e1)]
  refine (seq_at (for_at (rng1_eq (fVar_eq rfl) (by omega)) e2)).trans ?_
  exact rt_at (sum_at ho e3)
end
end K66
/-! ## L66i -/
set_option Elab.async false
set_option linter.all false
set_option maxRecDepth 100000
set_option maxHeartbeats 4000000
namespace K66
open PySem PySem.Spec PyProof.Rows L2 Tr Mach
/-! showing -/
theorem lay_ints : ∀ {l : List Nat}, (∀ k ∈ l, k < 501) → PyData.canLayAll0 (l.map fun i : Nat => PyData.int i) = true ∧ PyData.depthAll (l.map fun i : Nat => PyData.int i) = 0 ∧ PyData.showableAll (l.map fun i : Nat => PyData.int i) = true ∧ PyData.leavesShortAll 8 (l.map fun i : Nat => PyData.int i) = true ∧ PyData.bulkAll (l.map fun i : Nat => PyData.int i) ≤ l.length * 4
  | [], _ => ⟨rfl, rfl, rfl, rfl, Nat.zero_le _⟩
  | t :: ts, h => by
    obtain ⟨h1, h2, h3, h4, h5⟩ := lay_ints (l := ts) fun x hx => h x (List.mem_cons_of_mem _ hx)
    have a := h t List.mem_cons_self
    rw [List.map_cons]
    refine ⟨?_, ?_, ?_, ?_, ?_⟩
    · unfold PyData.canLayAll0
      rw [h1]
      rfl
    · unfold PyData.depthAll
      rw [h2]
      rfl
    · unfold PyData.showableAll
      rw [h3]
      simp only [PyData.showable, Bool.and_true, decide_eq_true_eq]
      exact int_log t a
    · unfold PyData.leavesShortAll
      rw [h4, Bool.and_true]
      simp only [PyData.leavesShort, decide_eq_true_eq]
      exact int_short t a
    · unfold PyData.bulkAll
      simp only [PyData.bulk, List.length_cons]
      omega
theorem shown_ints {l : List Nat} (h : ∀ k ∈ l, k < 501) (hl : l.length ≤ 10000) : ∃ s, shownD (.list (l.map fun i : Nat => PyData.int i)) = some (.v (.str s)) := by
  obtain ⟨h1, h2, h3, h4, h5⟩ := lay_ints h
  refine ⟨_, if_pos ⟨?_, ?_, ?_⟩⟩
  · simp only [SeqAt.shaped, PyData.canLay0, PyData.depth, h1, h2]
    rfl
  · simp only [PyData.showable, h3]
  · have := PyData.shown_le_bulk 8 (by decide) (.list (l.map fun i : Nat => PyData.int i)) (by
      simp only [PyData.leavesShort, h4])
    simp only [PyData.bulk] at this
    omega
theorem toP_ns {l : List Nat} : toP (.lst (nsD l)) = some (.list (l.map fun i : Nat => PyData.int i)) := by
  rw [toP, ns_int, toPs_ints, List.map_map]
  rfl
theorem repr_ns {l : List Nat} {cd : D} {μ : Mu} (h : CvOk cd l μ) (h1 : ∀ k ∈ l, k < 501) (hl : l.length ≤ 10000) : ∃ s, shownD (.list (l.map fun i : Nat => PyData.int i)) = some (.v (.str s)) ∧ dReprG [cd] μ = some (.v (.str s)) := by
  obtain ⟨s, e⟩ := shown_ints h1 hl
  refine ⟨s, e, ?_⟩
  rcases h with rfl | ⟨n, rfl, hn⟩
  · show (toQ μ (.lst (nsD l))).bind shownD = _
    have : ∀ {ds : List D} {l : List Nat}, ds = nsD l → toQs μ ds = some (l.map fun i : Nat => PyData.int i) := fun {ds l} e => by
      subst e
      induction l with
      | nil => rfl
      | cons a l ih =>
        have e1 : nsD (a :: l) = di a :: nsD l := rfl
        rw [e1, toQs, ih]
        rfl
    rw [toQ, this rfl]
    exact e
  · show (toQ μ (.r n)).bind shownD = _
    rw [toQ]
    have : view μ (.r n) = .lst (nsD l) := cv_view (.inr ⟨n, rfl, hn⟩)
    rw [this, toP_ns]
    exact e
theorem log_lt {k : Nat} (h : k ≤ 4 ^ 1000) : k.log2 < 12000 := by
  by_cases hk : k = 0
  · subst hk
    decide
  · rw [Nat.log2_lt hk]
    refine Nat.lt_of_le_of_lt h ?_
    rw [show (4 : Nat) = 2 ^ 2 from rfl, ← Nat.pow_mul]
    exact Nat.pow_lt_pow_right (by decide) (by decide)
theorem ofString_len (s : String) : (Str.ofString s).length = s.length := by
  have h : (Str.ofString s).cps.toList = s.toList.map Char.toNat := signs_ofString s
  have h2 : (Str.ofString s).length = (Str.ofString s).cps.toList.length := by unfold Str.length; simp
  rw [h2, h, List.length_map, String.length_toList]
theorem repr_big {k : Nat} {μ : Mu} (h : k ≤ 4 ^ 1000) : ∃ s, dReprG [di k] μ = some (.v (.str s)) := by
  refine ⟨_, if_pos ⟨log_lt h, ?_⟩⟩
  rw [ofString_len]
  show (Nat.repr k).length ≤ _
  have h10 : k < 10 ^ 1000 := Nat.lt_of_le_of_lt h (Nat.pow_lt_pow_left (by decide) (by decide))
  exact Nat.le_trans ((Nat.length_repr_le_iff (by decide)).mpr h10) (by decide)
/-! all texts -/
theorem tx_snoc {w : List Nat} {x : Nat} : tx w ++ tx [x] = tx (w ++ [x]) := by
  rw [← tx_of (tx w ++ tx [x]), app_cps, tx_cps, tx_cps]
theorem add_dt {w : List Nat} {x : Nat} (h : w.length ≤ 1000) : lif (dAdd (dt w) (dt [x])) = ret (dt (w ++ [x])) := lif_eq fun μ => by
  unfold dAdd
  dsimp only
  rw [if_pos (by rw [tx_len, tx_len, List.length_singleton]; omega), tx_snoc]
section
variable {z : Str} {n : Nat} {μ : Mu}
theorem texts_in {a1 a2 a3 a4 a7 : Option D} : ∀ {line : List (List Nat)} {more : List (List Nat)} {a6 : Option D}, (∀ w ∈ line, w.length ≤ 1000) → more.length + line.length * z.length ≤ 16777216 → z.length ≤ 1000 →
    ∃ y6, loopS (gN 6) b__law_jn_texts_0 (line.map dt) [some (.v (.str z)), a1, a2, a3, a4, some (.lst (more.map dt)), a6, a7] = ret (.nx [some (.v (.str z)), a1, a2, a3, a4, some (.lst ((more ++ line.flatMap fun w => (zl z).map fun x => w ++ [x]).map dt)), y6, a7])
  | [], more, a6, _, _, _ => ⟨a6, by rw [List.flatMap_nil, List.append_nil]; rfl⟩
  | w :: line, more, a6, h, hl, hz => by
    rw [List.length_cons, Nat.add_mul] at hl
    obtain ⟨y6, e⟩ := texts_in (a1 := a1) (a2 := a2) (a3 := a3) (a4 := a4) (a7 := a7) (line := line) (more := more ++ (zl z).map fun x => w ++ [x]) (a6 := some (dt w)) (fun v hv => h v (List.mem_cons_of_mem _ hv)) (by rw [List.length_append, List.length_map, zl_len]; omega) hz
    refine ⟨y6, ?_⟩
    rw [List.map_cons, loopS_cons]
    have es : lif (gN 6 (dt w) [some (.v (.str z)), a1, a2, a3, a4, some (.lst (more.map dt)), a6, a7]) = ret [some (.v (.str z)), a1, a2, a3, a4, some (.lst (more.map dt)), some (dt w), a7] := rfl
    rw [es, bnd_ret]
    have e1 : fLc (fItm (fVar 0)) (gN 7) (tYesF) (f2 dAdd (fVar 6) (fVar 7)) [7] [some (.v (.str z)), a1, a2, a3, a4, some (.lst (more.map dt)), some (dt w), a7] = ret (.lst (((zl z).map fun x => w ++ [x]).map dt)) := by
      refine fLc_eval (fItm_str (fVar_eq rfl)) (by rw [chars_len]; omega) ?_
      rw [chars_tx, List.map_map]
      exact lcGo_mapL fun x hx => f2_eq (fVar_eq rfl) (fVar_eq rfl) (add_dt (h w List.mem_cons_self))
    have e2 : b__law_jn_texts_0 [some (.v (.str z)), a1, a2, a3, a4, some (.lst (more.map dt)), some (dt w), a7] = ret (.nx [some (.v (.str z)), a1, a2, a3, a4, some (.lst ((more ++ (zl z).map fun x => w ++ [x]).map dt)), some (dt w), a7]) := by
      unfold b__law_jn_texts_0
      rw [List.map_append]
      exact set_eq (f2_eq (fVar_eq rfl) e1 (lif_addL (by rw [List.length_map, List.length_map, List.length_map, zl_len]; omega)))
    rw [e2, bnd_ret]
    dsimp only
    rw [e, List.flatMap_cons, List.append_assoc]
theorem par_eq {ρ : En} {i j : Nat} {fa fb : FE} {a b : D} (h1 : fa ρ = ret a) (h2 : fb ρ = ret b) : fPar i j [fa, fb] ρ = ret (.nx ((ρ.set i (some a)).set j (some b))) := by
  unfold fPar
  rw [fAll_eq h1 (fAll_eq h2 fAll_nil), bnd_ret]
theorem found_many {zs : List Nat} (h : zs.length ≤ 4) : ∀ {k : Nat}, k ≤ 5 → (foundW zs k).length ≤ 2000 ∧ (lineW zs k).length ≤ 1024 := by
  intro k hk
  have hp : ∀ j, j ≤ 5 → zs.length ^ j ≤ 1024 := fun j hj => Nat.le_trans (Nat.pow_le_pow_left h j) (Nat.le_trans (Nat.pow_le_pow_right (by decide) hj) (by decide))
  refine ⟨?_, by rw [line_many]; exact hp k hk⟩
  have h1 : ∀ j, (foundW zs j).length ≤ ((List.range (j + 1)).map fun i => 4 ^ i).sum := fun j => by
    induction j with
    | zero => exact Nat.le_refl 1
    | succ j ih =>
      rw [foundW, List.length_append, line_many, List.range_succ, List.map_append, List.sum_append]
      have := Nat.pow_le_pow_left h (j + 1)
      simp only [List.map_cons, List.map_nil, List.sum_cons, List.sum_nil]
      omega
  have h2 : ∀ j, j ≤ 5 → ((List.range (j + 1)).map fun i => 4 ^ i).sum ≤ 2000 := by decide
  exact Nat.le_trans (h1 k) (h2 k hk)
theorem texts_laps {nd : D} (hz : z.length ≤ 4) : ∀ {ds : List D} {k : Nat} {a4 a5 a6 a7 : Option D}, k + ds.length ≤ 5 → ∃ y4 y5 y6 y7, loopS (gN 4) b__law_jn_texts_1 ds [some (.v (.str z)), some nd, some (.lst ((foundW (zl z) k).map dt)), some (.lst ((lineW (zl z) k).map dt)), a4, a5, a6, a7] =
    ret (.nx [some (.v (.str z)), some nd, some (.lst ((foundW (zl z) (k + ds.length)).map dt)), some (.lst ((lineW (zl z) (k + ds.length)).map dt)), y4, y5, y6, y7])
  | [], k, a4, a5, a6, a7, _ => ⟨a4, a5, a6, a7, rfl⟩
  | d :: ds, k, a4, a5, a6, a7, hk => by
    rw [List.length_cons] at hk
    have hzz : (zl z).length ≤ 4 := by rw [zl_len]; exact hz
    obtain ⟨g1, g2⟩ := found_many hzz (k := k) (by omega)
    obtain ⟨g3, g4⟩ := found_many hzz (k := k + 1) (by omega)
    have hmul : (lineW (zl z) k).length * z.length ≤ 1024 * 4 := Nat.mul_le_mul g2 hz
    obtain ⟨y6, e⟩ := texts_in (z := z) (a1 := some nd) (a2 := some (.lst ((foundW (zl z) k).map dt))) (a3 := some (.lst ((lineW (zl z) k).map dt))) (a4 := some d) (a7 := a7) (line := lineW (zl z) k) (more := []) (a6 := a6) (fun w hw => by have := (line_len w hw).1; omega) (by simp; omega) (by omega)
    obtain ⟨w4, w5, w6, w7, e2⟩ := texts_laps hz (ds := ds) (k := k + 1) (a4 := some d) (a5 := some (.lst ((lineW (zl z) (k + 1)).map dt))) (a6 := y6) (a7 := a7) (by omega)
    refine ⟨w4, w5, w6, w7, ?_⟩
    rw [loopS_cons]
    have es : lif (gN 4 d [some (.v (.str z)), some nd, some (.lst ((foundW (zl z) k).map dt)), some (.lst ((lineW (zl z) k).map dt)), a4, a5, a6, a7]) = ret [some (.v (.str z)), some nd, some (.lst ((foundW (zl z) k).map dt)), some (.lst ((lineW (zl z) k).map dt)), some d, a5, a6, a7] := rfl
    rw [es, bnd_ret]
    have e3 : b__law_jn_texts_1 [some (.v (.str z)), some nd, some (.lst ((foundW (zl z) k).map dt)), some (.lst ((lineW (zl z) k).map dt)), some d, a5, a6, a7] = ret (.nx [some (.v (.str z)), some nd, some (.lst ((foundW (zl z) (k + 1)).map dt)), some (.lst ((lineW (zl z) (k + 1)).map dt)), some d, some (.lst ((lineW (zl z) (k + 1)).map dt)), y6, a7]) := by
      unfold b__law_jn_texts_1
      rw [List.nil_append] at e
      refine (seq_nx (set_eq (fLst_eq fAll_nil))).trans ?_
      refine (seq_nx ((fFor_eval (fItm_lst (fVar_eq rfl))).trans e)).trans ?_
      have el : (lineW (zl z) k).flatMap (fun w => (zl z).map fun x => w ++ [x]) = lineW (zl z) (k + 1) := rfl
      rw [el]
      refine par_eq (f2_eq (fVar_eq rfl) (fVar_eq rfl) ?_) (fVar_eq rfl)
      rw [foundW, List.map_append]
      exact lif_addL (by rw [List.length_map, List.length_map]; omega)
    rw [e3, bnd_ret]
    dsimp only
    rw [List.length_cons, show k + (ds.length + 1) = k + 1 + ds.length by omega]
    exact e2
theorem jn_texts_ok (hz : z.length ≤ 4) (hn : n ≤ 5) : F__law_jn_texts [.v (.str z), di n] = ret (.lst ((foundW (zl z) n).map dt)) := by
  refine bodyF_rt rfl ?_
  unfold f__law_jn_texts
  have r0 : (List.map some [.v (.str z), di n] ++ List.replicate (8 - 2) none : En) = [some (.v (.str z)), some (di n), none, none, none, none, none, none] := rfl
  obtain ⟨y4, y5, y6, y7, e⟩ := texts_laps (z := z) (nd := di n) hz (ds := rngD 0 n) (k := 0) (a4 := none) (a5 := none) (a6 := none) (a7 := none) (by rw [rngD_len]; omega)
  rw [rngD_len, Nat.zero_add] at e
  rw [r0, seq_nx (par_eq (fLst_eq (fAll_eq (f := fC (.v (.str ""))) (a := dt []) rfl fAll_nil)) (fLst_eq (fAll_eq (f := fC (.v (.str ""))) (a := dt []) rfl fAll_nil)))]
  refine (seq_nx ((fFor_eval (rng1_eq (fVar_eq rfl) (by omega))).trans e)).trans ?_
  exact rt_eq (fVar_eq rfl)
end
end K66
/-! ## L66j -/
set_option Elab.async false
set_option linter.all false
set_option maxRecDepth 100000
set_option maxHeartbeats 4000000
namespace K66
open PySem PySem.Spec PyProof.Rows L2 Tr Mach
def odds : List D := [.v .non, di 5, .v (.str "A"), .v (.str "z"), .lst [.v (.str "a")], .v (.str "a z")]
def fars : List D := [.v .non, di (-1), di 1001, .v (.bl true), .v (.str "3")]
def bads (z : Str) (R : List (List Nat)) (G : List Nat) : List D := [.v .non, di 5, .tup [], .tup [.v (.str "machine"), .v (.str z), .tup (R.map rowD)], .lst [.v (.str "machine"), .v (.str z), .tup (R.map rowD), .tup (nsD G)], .tup [.v (.str "machine"), .v (.str "ba"), .tup [.tup [di 0, di 0]], .tup []], .tup ([.v (.str "m")] ++ [.v (.str z), .tup (R.map rowD), .tup (nsD G)])]
theorem odd_ok : ∀ z ∈ five, ∀ d ∈ odds, textOf z d = false ∧ plD d = true := by
  intro z hz d hd
  simp only [five, List.mem_cons, List.not_mem_nil, or_false] at hz
  simp only [odds, List.mem_cons, List.not_mem_nil, or_false] at hd
  rcases hz with rfl | rfl | rfl | rfl | rfl <;> rcases hd with rfl | rfl | rfl | rfl | rfl | rfl <;> exact ⟨by decide +kernel, by decide +kernel⟩
section
variable {z : Str} {R : List (List Nat)} {G : List Nat} {μ : Mu}
theorem bads_ok (h : MOk z R G) : ∀ d ∈ bads z R G, plD d = true ∧ wt d ≤ 16777216 ∧ machB d = false := by
  have hp := mD_pl h
  have hw := mD_wt h
  have hx := pl_tup hp
  have hwe : wt (mD z R G) = (wt (.v (.str "machine")) + (wt (.v (.str z)) + (wt (.tup (R.map rowD)) + (wt (.tup (nsD G)) + 0)))) + 1 := rfl
  have p1 := hx (.v (.str z)) (by simp)
  have p2 := hx (.tup (R.map rowD)) (by simp)
  have p3 := hx (.tup (nsD G)) (by simp)
  intro d hd
  simp only [bads, List.mem_cons, List.not_mem_nil, or_false] at hd
  rcases hd with rfl | rfl | rfl | rfl | rfl | rfl | rfl
  · exact ⟨rfl, by decide, rfl⟩
  · exact ⟨rfl, by decide, rfl⟩
  · exact ⟨rfl, by decide, rfl⟩
  · refine ⟨plDs_iff.mpr fun d hd => ?_, ?_, rfl⟩
    · simp only [List.mem_cons, List.not_mem_nil, or_false] at hd
      rcases hd with rfl | rfl | rfl
      · exact strs_pl (by decide) (by decide)
      · exact p1
      · exact p2
    · show (wt (.v (.str "machine")) + (wt (.v (.str z)) + (wt (.tup (R.map rowD)) + 0))) + 1 ≤ _
      omega
  · refine ⟨plDs_iff.mpr hx, ?_, rfl⟩
    show (wt (.v (.str "machine")) + (wt (.v (.str z)) + (wt (.tup (R.map rowD)) + (wt (.tup (nsD G)) + 0)))) + 1 ≤ _
    omega
  · exact ⟨by decide +kernel, by decide +kernel, by decide +kernel⟩
  · refine ⟨plDs_iff.mpr fun d hd => ?_, ?_, rfl⟩
    · simp only [List.singleton_append, List.mem_cons, List.not_mem_nil, or_false] at hd
      rcases hd with rfl | rfl | rfl | rfl
      · exact strs_pl (by decide) (by decide)
      · exact p1
      · exact p2
      · exact p3
    · have e0 : wt (.v (.str "m")) = wt (.v (.str "machine")) := rfl
      show (wt (.v (.str "m")) + (wt (.v (.str z)) + (wt (.tup (R.map rowD)) + (wt (.tup (nsD G)) + 0)))) + 1 ≤ _
      omega
theorem lets_bad {bad odd : D} (h : plD bad = true ∧ wt bad ≤ 16777216 ∧ machB bad = false) : F_lets [bad, odd] μ = some (.ex "BadMachine" μ) := by
  refine bodyF_ex rfl ?_
  unfold f_lets
  exact seq_ex (drop_ex (call_at (fAll_eq (fVar_eq (d := bad) rfl) fAll_nil) (need_mach_no h.1 h.2.1 h.2.2)))
theorem led_on_bad {bad odd : D} (h : plD bad = true ∧ wt bad ≤ 16777216 ∧ machB bad = false) : F_led_on [bad, odd] μ = some (.ex "BadMachine" μ) := by
  refine bodyF_ex rfl ?_
  unfold f_led_on
  exact seq_ex (drop_ex (call_at (fAll_eq (fVar_eq (d := bad) rfl) fAll_nil) (need_mach_no h.1 h.2.1 h.2.2)))
theorem texts_bad {bad far : D} (hl : lowAll μ = true) (h : plD bad = true ∧ wt bad ≤ 16777216 ∧ machB bad = false) : F_texts_of_length [bad, far] μ = some (.ex "BadMachine" μ) := by
  refine closeF_ex hl (bodyF_ex rfl ?_)
  unfold f_texts_of_length
  exact seq_ex (drop_ex (call_at (fAll_eq (fVar_eq (d := bad) rfl) fAll_nil) (need_mach_no h.1 h.2.1 h.2.2)))
theorem lets_odd {odd : D} (ho : MOk z R G) (h : textOf z odd = false ∧ plD odd = true) : F_lets [mD z R G, odd] μ = some (.ex "BadText" μ) := by
  refine bodyF_ex rfl ?_
  unfold f_lets
  have r0 : (List.map some [mD z R G, odd] ++ List.replicate (2 - 2) none : En) = [some (mD z R G), some odd] := rfl
  rw [r0, seq_nx (drop_eq (fCall_eq (fAll_eq (fVar_eq rfl) fAll_nil) (need_mach (mD_pl ho) (mD_wt' ho) (mD_B ho))))]
  exact seq_ex (drop_ex (call_at (fAll_eq (fVar_eq rfl) (fAll_eq (fVar_eq rfl) fAll_nil)) (need_text_no h.2 h.1)))
theorem led_on_odd {odd : D} (ho : MOk z R G) (h : textOf z odd = false ∧ plD odd = true) : F_led_on [mD z R G, odd] μ = some (.ex "BadText" μ) := by
  refine bodyF_ex rfl ?_
  unfold f_led_on
  have r0 : (List.map some [mD z R G, odd] ++ List.replicate (3 - 2) none : En) = [some (mD z R G), some odd, none] := rfl
  rw [r0, seq_nx (drop_eq (fCall_eq (fAll_eq (fVar_eq rfl) fAll_nil) (need_mach (mD_pl ho) (mD_wt' ho) (mD_B ho))))]
  exact seq_ex (drop_ex (call_at (fAll_eq (fVar_eq rfl) (fAll_eq (fVar_eq rfl) fAll_nil)) (need_text_no h.2 h.1)))
theorem far_pl : ∀ d ∈ fars, plD d = true := by
  intro d hd
  simp only [fars, List.mem_cons, List.not_mem_nil, or_false] at hd
  rcases hd with rfl | rfl | rfl | rfl | rfl <;> decide +kernel
theorem far_cond {far : D} {ρ : En} (h : far ∈ fars) (hv : fVar 1 ρ = ret far) : tOrF (tNotF (tst (fCall F_is_whole [fVar 1]))) (tNotF (tst (f3 dLe dLe (fC (.v (.int 0))) (fVar 1) (fC (.v (.int 1000)))))) ρ = ret true := by
  have c := tNot_eq (tst_eq (fCall_eq (fAll_eq hv fAll_nil) (F_is_whole_ok (far_pl far h))))
  simp only [fars, List.mem_cons, List.not_mem_nil, or_false] at h
  rcases h with rfl | rfl | rfl | rfl | rfl
  · exact tOrB (b := true) c fun h => nomatch h
  · exact tOrB c fun _ => tNot_eq (tst_eq (f3_le_le (fa := fC (.v (.int 0))) (fc := fC (.v (.int 1000))) rfl hv rfl))
  · exact tOrB c fun _ => tNot_eq (tst_eq (f3_le_le (fa := fC (.v (.int 0))) (fc := fC (.v (.int 1000))) rfl hv rfl))
  · exact tOrB (b := true) c fun h => nomatch h
  · exact tOrB (b := true) c fun h => nomatch h
theorem texts_far {far : D} (hl : lowAll μ = true) (ho : MOk z R G) (h : far ∈ fars) : F_texts_of_length [mD z R G, far] μ = some (.ex "BadNumber" μ) := by
  refine closeF_ex hl (bodyF_ex rfl ?_)
  unfold f_texts_of_length
  have r0 : (List.map some [mD z R G, far] ++ List.replicate (8 - 2) none : En) = [some (mD z R G), some far, none, none, none, none, none, none] := rfl
  rw [r0, seq_nx (drop_eq (fCall_eq (fAll_eq (fVar_eq rfl) fAll_nil) (need_mach (mD_pl ho) (mD_wt' ho) (mD_B ho))))]
  refine seq_ex ?_
  rw [ifS_eq (far_cond h (fVar_eq rfl)), if_pos rfl]
  rfl
end
theorem lamE0 : lamF__law_refused_right 0 = fCall F_lets [fVar 3, fVar 4] := rfl
theorem lamE1 : lamF__law_refused_right 1 = fCall F_led_on [fVar 3, fVar 4] := rfl
theorem lamE2 : lamF__law_refused_right 2 = fCall F_texts_of_length [fVar 3, fVar 5] := rfl
theorem lamE3 : lamF__law_refused_right 3 = fCall F_lets [fVar 1, fVar 4] := rfl
theorem lamE4 : lamF__law_refused_right 4 = fCall F_led_on [fVar 1, fVar 4] := rfl
theorem lamE5 : lamF__law_refused_right 5 = fCall F_texts_of_length [fVar 1, fVar 5] := rfl
/-- what a task must raise -/
theorem task_at {cls : Str} {k : Nat} {ρ : En} {μ : Mu} (hv : ρ[6]? = some (some (.lam k))) (h : lamF__law_refused_right k ρ μ = some (.ex cls μ)) (ho : ownT cls = true) (hT : isaT cls cls = some true) : fIfS (tNotF (tst (fIsExn isaT cls (fCaught ownT lamF__law_refused_right (fVar 6))))) (fRet (fC (.v (.bl false)))) fNx ρ μ = some (.ok (.nx ρ) μ) :=
  ifF_at (tNot_at (tst_at (isExn_at (caught_at hv h ho) hT))) rfl
section
variable {q : Str} {c : List Int} {tl : Mu} {z : Str} {R : List (List Nat)} {G : List Nat}
theorem refused_ok (hT : plT tl) (ho : MOk z R G) (hq : q = "_law_refused_right") : Dw q c 3 tl (F__law_refused_right [.r 2, mD z R G]) fun d tl' => tl' = tl ∧ d = bl true := by
  subst hq
  have hlow : ∀ {g r t}, lowAll (SM "_law_refused_right" g c r t tl) = true := low_of (plT_low hT)
  refine Dw.nol (by show (nlD (.r 2) && (nlD (mD z R G) && true)) = true; rw [pl_nl (mD_pl ho)]; rfl) hT ?_
  refine Dw.body rfl ?_
  have r0 : (List.map some [D.r 2, mD z R G] ++ List.replicate (7 - 2) none : En) = [some (.r 2), some (mD z R G), none, none, none, none, none] := rfl
  rw [r0]
  unfold f__law_refused_right
  have e2 : fLst [fC (.v .non), fC (.v (.int 5)), fTup [], fSl (fVar 1) (fNoP) (fPart (fC (.v (.int 3)))), fB dList [fVar 1], fTup [fC (.v (.str "machine")), fC (.v (.str "ba")), fTup [fTup [fC (.v (.int 0)), fC (.v (.int 0))]], fTup []], f2 dAdd (fTup [fC (.v (.str "m"))]) (fSl (fVar 1) (fPart (fC (.v (.int 1)))) (fNoP))] [some (.r 2), some (mD z R G), none, none, none, none, none] = ret (.lst (bads z R G)) := by
    refine fLst_eq (fAll_eq rfl (fAll_eq rfl (fAll_eq (fTup_eq fAll_nil) (fAll_eq (slT_to (k := 3) (xs := [.v (.str "machine"), .v (.str z), .tup (R.map rowD), .tup (nsD G)]) (fVar_eq rfl) rfl (Nat.le_of_ble_eq_true rfl)) (fAll_eq (fB1_eq (f := dList) (fVar_eq rfl) (lif_eq fun μ => rfl)) (fAll_eq (fTup_eq (fAll_eq rfl (fAll_eq rfl (fAll_eq (fTup_eq (fAll_eq (fTup_eq (fAll_eq rfl (fAll_eq rfl fAll_nil))) fAll_nil)) (fAll_eq (fTup_eq fAll_nil) fAll_nil))))) (fAll_eq (f2_eq (fTup_eq (fAll_eq rfl fAll_nil)) (slT_from (k := 1) (xs := [.v (.str "machine"), .v (.str z), .tup (R.map rowD), .tup (nsD G)]) (fVar_eq rfl) rfl (Nat.le_of_ble_eq_true rfl)) (lif_addT (Nat.le_of_ble_eq_true rfl))) fAll_nil)))))))
  refine Dw.mono (n := 0 + (1 + ((1 + 1) + (0 + (0 + 0))))) ?_ (by decide) fun _ _ z => z
  refine Dw.seq (Dw.set (Dw.eq e2 ⟨_, rfl, ?_⟩))
  refine Dw.seq (Dw.set (Dw.mono (Dw.pick (xs := bads z R G) rfl (fVar_eq rfl) (Nat.le_of_ble_eq_true rfl) (Nat.le_of_ble_eq_true rfl)) (Nat.le_refl _) fun bad tl' hb => ⟨_, rfl, ?_⟩))
  obtain ⟨hb, rfl⟩ := hb
  have hbad := bads_ok ho bad hb
  have ρ1 : ((([some (.r 2), some (mD z R G), none, none, none, none, none] : En).set 2 (some (.lst (bads z R G)))).set 3 (some bad)) = [some (.r 2), some (mD z R G), some (.lst (bads z R G)), some bad, none, none, none] := rfl
  rw [ρ1]
  refine Dw.seq (Dw.asg (Dw.tup2 (Dw.mono (Dw.pick (xs := odds) rfl (fLst_eq (fAll_eq rfl (fAll_eq rfl (fAll_eq rfl (fAll_eq rfl (fAll_eq (fLst_eq (fAll_eq rfl fAll_nil)) (fAll_eq rfl fAll_nil))))))) (by decide) (by decide)) (Nat.le_refl _) fun odd tl' hb2 => ?_)))
  obtain ⟨hodd, rfl⟩ := hb2
  refine Dw.mono (Dw.pick (xs := fars) rfl (fLst_eq (fAll_eq rfl (fAll_eq (fNeg_eq (i := 1) rfl) (fAll_eq rfl (fAll_eq rfl (fAll_eq rfl fAll_nil)))))) (by decide) (by decide)) (Nat.le_refl _) fun far tl2 hb3 => ⟨_, lif_gT2, _, rfl, ?_⟩
  obtain ⟨hfar, rfl⟩ := hb3
  have hoddk := odd_ok z ho.five odd hodd
  have ρ2 : ((([some (.r 2), some (mD z R G), some (.lst (bads z R G)), some bad, none, none, none] : En).set 4 (some odd)).set 5 (some far)) = [some (.r 2), some (mD z R G), some (.lst (bads z R G)), some bad, some odd, some far, none] := rfl
  rw [ρ2]
  have l1 := tasksL (q := "_law_refused_right") (c := c) (tl := tl2) (fb := b__law_refused_right_0) (i := 6) (ks := [0, 1, 2]) (ρ0 := fun x => [some (.r 2), some (mD z R G), some (.lst (bads z R G)), some bad, some odd, some far, x]) (fun x y => rfl) (fun k hk g r t => by
    refine task_at (cls := "BadMachine") rfl ?_ rfl rfl
    simp only [List.mem_cons, List.not_mem_nil, or_false] at hk
    rcases hk with rfl | rfl | rfl
    · rw [lamE0]
      exact call_at (F := F_lets) (fs := [fVar 3, fVar 4]) (fAll_eq (fVar_eq (i := 3) (d := bad) rfl) (fAll_eq (fVar_eq (i := 4) (d := odd) rfl) fAll_nil)) (lets_bad hbad)
    · rw [lamE1]
      exact call_at (F := F_led_on) (fs := [fVar 3, fVar 4]) (fAll_eq (fVar_eq (i := 3) (d := bad) rfl) (fAll_eq (fVar_eq (i := 4) (d := odd) rfl) fAll_nil)) (led_on_bad hbad)
    · rw [lamE2]
      exact call_at (F := F_texts_of_length) (fs := [fVar 3, fVar 5]) (fAll_eq (fVar_eq (i := 3) (d := bad) rfl) (fAll_eq (fVar_eq (i := 5) (d := far) rfl) fAll_nil)) (texts_bad hlow hbad)) (x := none)
  refine Dw.seq (Dw.mono l1 (Nat.le_refl _) fun o tl3 hz => ?_)
  obtain ⟨rfl, y, rfl⟩ := hz
  refine ⟨_, rfl, ?_⟩
  have l2 := tasksL (q := "_law_refused_right") (c := c) (tl := tl3) (fb := b__law_refused_right_1) (i := 6) (ks := [3, 4]) (ρ0 := fun x => [some (.r 2), some (mD z R G), some (.lst (bads z R G)), some bad, some odd, some far, x]) (fun x y => rfl) (fun k hk g r t => by
    refine task_at (cls := "BadText") rfl ?_ rfl rfl
    simp only [List.mem_cons, List.not_mem_nil, or_false] at hk
    rcases hk with rfl | rfl
    · rw [lamE3]
      exact call_at (F := F_lets) (fs := [fVar 1, fVar 4]) (fAll_eq (fVar_eq (i := 1) (d := mD z R G) rfl) (fAll_eq (fVar_eq (i := 4) (d := odd) rfl) fAll_nil)) (lets_odd ho hoddk)
    · rw [lamE4]
      exact call_at (F := F_led_on) (fs := [fVar 1, fVar 4]) (fAll_eq (fVar_eq (i := 1) (d := mD z R G) rfl) (fAll_eq (fVar_eq (i := 4) (d := odd) rfl) fAll_nil)) (led_on_odd ho hoddk)) (x := y)
  refine Dw.seq (Dw.mono l2 (Nat.le_refl _) fun o tl4 hz => ?_)
  obtain ⟨rfl, y2, rfl⟩ := hz
  refine ⟨_, rfl, ?_⟩
  refine Dw.rt (Dw.at (a := bl true) (fun g r t => ?_) ⟨_, rfl, rfl, rfl, rfl⟩)
  refine isExn_at (c := "BadNumber") ?_ rfl
  unfold fCaught
  rw [bnd_at lam_at]
  dsimp only
  have h5 : lamF__law_refused_right 5 [some (.r 2), some (mD z R G), some (.lst (bads z R G)), some bad, some odd, some far, y2] (SM "_law_refused_right" g c r t tl4) = some (.ex "BadNumber" (SM "_law_refused_right" g c r t tl4)) := by
    rw [lamE5]
    exact call_at (F := F_texts_of_length) (fs := [fVar 1, fVar 5]) (fAll_eq (fVar_eq (i := 1) (d := mD z R G) rfl) (fAll_eq (fVar_eq (i := 5) (d := far) rfl) fAll_nil)) (texts_far hlow ho hfar)
  rw [h5]
  rfl
end
end K66
/-! ## L66k -/
set_option Elab.async false
set_option linter.all false
set_option maxRecDepth 100000
set_option maxHeartbeats 4000000
namespace K66
open PySem PySem.Spec PyProof.Rows L2 Tr Mach
section
variable {z : Str} {R : List (List Nat)} {G : List Nat} {μ : Mu} {s0 s1 s2 s3 s5 s6 s7 s8 s9 s10 s11 s12 s13 s14 : Option D}
/-- b_law_0: a thing is judged alike -/
theorem thing_ok {d m : D} (hp : plD d = true) (hw : wt d ≤ 16777216) (hwd : wd d ≤ 60) : b_law_0 [s0, s1, s2, s3, some m, some d, s6, s7, s8, s9, s10, s11, s12, s13, s14] μ = some (.ok (.nx [s0, s1, s2, s3, some m, some d, s6, s7, s8, s9, s10, s11, s12, s13, s14]) μ) := by
  unfold b_law_0
  refine ifF_at (tNot_at (b := true) (tst_at (callA_at (fAll_at (callK_at (ds := []) (zs := [d]) rfl (fAll_eq (fVar_eq rfl) fAll_nil) (ret_of (F_is_machine_ok hp hw))) (fAll_at (call_at (fAll_eq (fVar_eq rfl) fAll_nil) (ret_of (F_law_machine_ok hp hw hwd))) rfl)) truth_ok))) rfl
theorem same_big {k : Nat} (h : k ≤ 4 ^ 1000) : F__law_oh_same [di k, di k] μ = some (.ok (bl true) μ) := by
  obtain ⟨s, e⟩ := repr_big (μ := μ) h
  exact same_at e e
theorem count_le (ho : MOk z R G) {n : Nat} (hn : n ≤ 1000) : countG R G n ≤ 4 ^ 1000 := by
  have h1 := countG_le (z := zl z) (G := G) ho.good' (five_nodup z ho.five) (List.Pairwise.imp (fun {a b} (h : a < b) => Nat.ne_of_lt h) ho.up) (n := n)
  have h2 := (five_ok z ho.five).2.1
  rw [zl_len] at h1
  exact Nat.le_trans h1 (Nat.le_trans (Nat.pow_le_pow_left h2 n) (Nat.pow_le_pow_right (by decide) hn))
/-- b_law_2: a length -/
theorem length_ok (ho : MOk z R G) (hl : lowAll μ = true) {n : Nat} (hn : n ≤ 1000) : b_law_2 [s0, s1, s2, s3, some (mD z R G), s5, s6, s7, s8, some (di n), s10, s11, s12, s13, s14] μ = some (.ok (.nx [s0, s1, s2, s3, some (mD z R G), s5, s6, s7, s8, some (di n), s10, s11, s12, s13, s14]) μ) := by
  unfold b_law_2
  refine ifF_at (tNot_at (b := true) (tst_at (callA_at (fAll_at (callK_at (ds := []) (zs := [di n, mD z R G]) rfl (fAll_eq (fVar_eq rfl) (fAll_eq (fVar_eq rfl) fAll_nil)) (texts_ok ho hl hn)) (fAll_at (call_at (fAll_eq (fVar_eq rfl) (fAll_eq (fVar_eq rfl) fAll_nil)) (law_count_ok ho hl (by omega))) rfl)) (same_big (count_le ho hn))))) rfl
theorem leds_lt (ho : MOk z R G) {w : List Nat} (hw : ∀ x ∈ w, x ∈ zl z) : (∀ k ∈ leds z R w, k < 501) ∧ (leds z R w).length ≤ 10000 := by
  have h2 := ho.len2
  refine ⟨fun k hk => ?_, by unfold leds; rw [List.length_map, List.length_range]; omega⟩
  unfold leds at hk
  obtain ⟨s, hs, rfl⟩ := List.mem_map.mp hk
  have := led_lt ho.good' rfl (w := w) (List.mem_range.mp hs) hw
  omega
theorem ne_same {cd : D} {l : List Nat} (h : CvOk cd l μ) : dNe cd (.lst (nsD l)) μ = some (bl false) := by
  have e : strP cd (.lst (nsD l)) = none := by
    rcases h with rfl | ⟨k, rfl, _⟩ <;> rfl
  unfold dNe
  rw [e]
  show (dEqB (view μ cd) (.lst (nsD l))).map _ = _
  rw [cv_view h, ns_int, eq_ints, Option.map_some, decide_eq_true rfl]
  rfl
/-- b_law_1: a text -/
theorem word_ok (ho : MOk z R G) {w : List Nat} (hw : ∀ x ∈ w, x ∈ zl z) (hl : w.length ≤ 4000) : b_law_1 [s0, s1, s2, s3, some (mD z R G), s5, some (dt w), s7, s8, s9, s10, s11, s12, s13, s14] μ =
    some (.ok (.nx [s0, s1, s2, s3, some (mD z R G), s5, some (dt w), some (.lst (nsD (leds z R w))), some (.r μ.length), s9, s10, s11, s12, s13, s14]) (μ ++ [.lst (nsD (leds z R w) ++ [.v .non]), .lst (nsD (leds z R w))])) := by
  have h2 := ho.len2
  obtain ⟨g1, g2⟩ := leds_lt ho hw
  unfold b_law_1
  have e1 : fIfS (tNotF (tst (fCall F__law_is_truth [fCallK F_lets [] [fVar 6, fVar 4] [1, 0], fCall F__law_jn_lets [fVar 4, fVar 6]]))) (fRet (fC (.v (.bl false)))) fNx [s0, s1, s2, s3, some (mD z R G), s5, some (dt w), s7, s8, s9, s10, s11, s12, s13, s14] μ = some (.ok (.nx [s0, s1, s2, s3, some (mD z R G), s5, some (dt w), s7, s8, s9, s10, s11, s12, s13, s14]) μ) :=
    ifF_at (tNot_at (b := true) (tst_at (callA_at (fAll_at (callK_at (ds := []) (zs := [dt w, mD z R G]) rfl (fAll_eq (fVar_eq rfl) (fAll_eq (fVar_eq rfl) fAll_nil)) (ret_of (lets_ok ho hw hl))) (fAll_at (call_at (fAll_eq (fVar_eq rfl) (fAll_eq (fVar_eq rfl) fAll_nil)) (ret_of (jn_lets_ok ho hw))) rfl)) truth_ok))) rfl
  rw [seq_at e1]
  have e2 : fLc (fRng1 [fB dLen [f2 dIx (fVar 4) (fC (.v (.int 2)))]]) (gN 14) (tYesF) (fCall F__law_jn_led [fVar 4, fVar 14, fVar 6]) [14] [s0, s1, s2, s3, some (mD z R G), s5, some (dt w), s7, s8, s9, s10, s11, s12, s13, s14] = ret (.lst (nsD (leds z R w))) := by
    refine fLc_eval (rng1_eq (len_rows (fVar_eq rfl)) (by omega)) (by rw [rngD_len]; omega) ?_
    rw [rng0]
    unfold leds nsD
    rw [List.map_map]
    exact lcGo_mapL fun s hs => fCall_eq (fAll_eq (fVar_eq rfl) (fAll_eq (fVar_eq rfl) (fAll_eq (fVar_eq rfl) fAll_nil))) (jn_led_ok ho (List.mem_range.mp hs) hw)
  refine (seq_at (set_at (ret_of e2))).trans ?_
  refine (seq_at (set_at (callK_at (ds := [mD z R G]) (zs := [dt w]) (fAll_eq (fVar_eq rfl) fAll_nil) (fAll_eq (fVar_eq rfl) fAll_nil) (led_on_ok ho hw hl)))).trans ?_
  have hc : CvOk (.r μ.length) (leds z R w) (μ ++ [.lst (nsD (leds z R w))]) := .inr ⟨_, rfl, last_get⟩
  obtain ⟨s, sh, sa⟩ := repr_ns hc g1 g2
  obtain ⟨s', sh', sb⟩ := repr_ns (cd := .lst (nsD (leds z R w))) (μ := μ ++ [.lst (nsD (leds z R w))]) (.inl rfl) g1 g2
  have es : s' = s := by
    rw [sh] at sh'
    cases sh'
    rfl
  rw [es] at sb
  have r1 : ((([s0, s1, s2, s3, some (mD z R G), s5, some (dt w), s7, s8, s9, s10, s11, s12, s13, s14] : En).set 7 (some (.lst (nsD (leds z R w))))).set 8 (some (.r μ.length))) = [s0, s1, s2, s3, some (mD z R G), s5, some (dt w), some (.lst (nsD (leds z R w))), some (.r μ.length), s9, s10, s11, s12, s13, s14] := rfl
  rw [r1]
  refine (seq_at (ifF_at (tNot_at (b := true) (tst_at (callA_at (fAll_at (var_at (d := .r μ.length) rfl) (fAll_at (var_at (d := .lst (nsD (leds z R w))) rfl) rfl)) (same_at sa sb)))) rfl)).trans ?_
  refine (seq_at (drop_at (fMl_last (f := lApp) (fo := fVar 8) (fa := fC (.v .non)) (xs := nsD (leds z R w)) (a := .v .non) (fVar_eq rfl) rfl (lApp_ok (by rw [List.length_map]; omega))))).trans ?_
  have e3 : fCall F_led_on [fVar 4, fVar 6] [s0, s1, s2, s3, some (mD z R G), s5, some (dt w), some (.lst (nsD (leds z R w))), some (.r μ.length), s9, s10, s11, s12, s13, s14] (μ ++ [.lst (nsD (leds z R w) ++ [.v .non])]) = _ := call_at (fAll_eq (fVar_eq rfl) (fAll_eq (fVar_eq rfl) fAll_nil)) (led_on_ok ho hw hl)
  refine ifF_at (μ' := μ ++ [.lst (nsD (leds z R w) ++ [.v .non]), .lst (nsD (leds z R w))]) (tst_at ?_) rfl
  unfold f2
  rw [bnd_at e3, bnd_at (var_at (i := 7) (d := .lst (nsD (leds z R w))) rfl), List.append_assoc]
  refine lif_at (ne_same (.inr ⟨_, rfl, ?_⟩))
  rw [List.length_append, List.length_singleton]
  simp
end
section
variable {q : Str} {c : List Int} {tl : Mu} {s0 s2 s3 s4 s5 s6 s7 s8 s9 s10 s11 s12 s13 s14 : Option D}
def fiveD : List D := [.v (.str "a"), .v (.str "ab"), .v (.str "abc"), .v (.str "bd"), .v (.str "abcd")]
theorem every_ok {z : Str} {R : List (List Nat)} {G : List Nat} (ho : MOk z R G) {n : Nat} (hn : n ≤ 5) {ρ : En} (h3 : fVar 3 ρ = ret (.v (.str z))) (h9 : fVar 9 ρ = ret (di n)) (h4 : ∀ d, fVar 4 ((wipeE ρ [6]).set 6 (some d)) = ret (mD z R G)) (h6 : ∀ d, fVar 6 ((wipeE ρ [6]).set 6 (some d)) = ret d) (h9' : ∀ d, fVar 9 ((wipeE ρ [6]).set 6 (some d)) = ret (di n)) :
    ∃ ws : List (List Nat), ws.length = countG R G n ∧ fLc (fItm (fCall F__law_jn_texts [fVar 3, fVar 9])) (gN 6) (tAndF (tst (f2 dEq (fB dLen [fVar 6]) (fVar 9))) (tst (fCall F__law_jn_lets [fVar 4, fVar 6]))) (fVar 6) [6] ρ = ret (.lst (ws.map dt)) := by
  have hz4 := (five_ok z ho.five).2.1
  have hm := (found_many (zs := zl z) (by rw [zl_len]; exact hz4) hn).1
  refine ⟨(foundW (zl z) n).filter fun w => w.length == n && letsN z R G w, ?_, ?_⟩
  · rw [found_filter, count_filter (z := zl z) ho.good' (five_nodup z ho.five) (List.Pairwise.imp (fun {a b} (h : a < b) => Nat.ne_of_lt h) ho.up)]
    rfl
  · refine fLc_eval (fItm_lst (fCall_eq (fAll_eq h3 (fAll_eq h9 fAll_nil)) (jn_texts_ok hz4 hn))) (by rw [List.length_map]; omega) ?_
    refine lcGo_filterL fun w hw => ⟨tAndB (tst_eq ?_) fun _ => tst_eq (fCall_eq (fAll_eq (h4 _) (fAll_eq (h6 _) fAll_nil)) (jn_lets_ok ho (found_len w hw).2)), fun _ => h6 _⟩
    have e := f2_eq (f := dEq) (fB1_eq (h6 (dt w)) (lif_lenS (z := tx w))) (h9' (dt w)) lif_eqI
    rw [lenEq, tx_len] at e
    exact e
theorem turn_ok (hT : plT tl) (hq : q = "_law_refused_right") : Dw q c 160 tl (b_law_3 [s0, some (.r 2), s2, s3, s4, s5, s6, s7, s8, s9, s10, s11, s12, s13, s14]) fun o tl' => plT tl' ∧ ∃ y3 y4 y5 y6 y7 y8 y9 y10 y13 y14, o = .nx [s0, some (.r 2), s2, y3, y4, y5, y6, y7, y8, y9, y10, s11, s12, y13, y14] := by
  unfold b_law_3
  refine Dw.mono (n := 1 + (36 + (24 + (93 + (2 + (1 + (0 + 3))))))) ?_ (by decide) fun _ _ z => z
  refine Dw.seq (Dw.set (Dw.mono (Dw.pick (xs := fiveD) rfl (fLst_eq (fAll_eq rfl (fAll_eq rfl (fAll_eq rfl (fAll_eq rfl (fAll_eq rfl fAll_nil)))))) (by decide) (by decide)) (Nat.le_refl _) fun d tl' hd => ⟨_, rfl, ?_⟩))
  obtain ⟨hd, rfl⟩ := hd
  obtain ⟨z, hz, rfl⟩ : ∃ z ∈ five, d = .v (.str z) := by
    simp only [fiveD, List.mem_cons, List.not_mem_nil, or_false] at hd
    rcases hd with rfl | rfl | rfl | rfl | rfl <;> exact ⟨_, by decide, rfl⟩
  refine Dw.seq (Dw.set (Dw.mono (Dw.callA (n := 0) (m := 36) (Dw.eq (fAll_eq (fVar_eq (i := 1) (d := .r 2) rfl) (fAll_eq (fVar_eq (i := 3) (d := .v (.str z)) rfl) (fAll_eq (f := fC (.v (.int 7))) rfl fAll_nil))) (jn_machine_ok hz))) (by decide) fun d tl2 hd => ⟨_, rfl, ?_⟩))
  obtain ⟨⟨R, G, rfl, ho⟩, rfl⟩ := hd
  obtain ⟨z0, z4, z128, _, _⟩ := five_ok z hz
  have ρ1 : ((([s0, some (.r 2), s2, s3, s4, s5, s6, s7, s8, s9, s10, s11, s12, s13, s14] : En).set 3 (some (.v (.str z)))).set 4 (some (mD z R G))) = [s0, some (.r 2), s2, some (.v (.str z)), some (mD z R G), s5, s6, s7, s8, s9, s10, s11, s12, s13, s14] := rfl
  rw [ρ1]
  -- things
  refine Dw.seq (Dw.mono (n := 24 + 0) (Dw.forD (k0 := 24) (k := 0) (n := 0) (I := fun ds ρ tl' => tl' = tl2 ∧ (∀ d ∈ ds, plD d = true ∧ wt d ≤ 16777216 ∧ wd d ≤ 60) ∧ ∃ y5, ρ = [s0, some (.r 2), s2, some (.v (.str z)), some (mD z R G), y5, s6, s7, s8, s9, s10, s11, s12, s13, s14]) (Dw.itm (Dw.f2 (a := .lst [mD z R G]) (fLst_eq (fAll_eq (fVar_eq rfl) fAll_nil)) (Dw.mono (n := 0 + 24) (Dw.lcV (k0 := 0) (k := 24) (n := 3) (J := fun acc ds tl' => tl' = tl2 ∧ (∀ d ∈ acc, plD d = true ∧ wt d ≤ 16777216 ∧ wd d ≤ 60) ∧ acc.length + ds.length ≤ 8) (Dw.eq (rng1_eq (n := 8) rfl (by decide)) ⟨by decide, by decide, rfl, (fun d h => nomatch h), by decide⟩) (fun acc d ds tl' j => ?_) fun out tl' j => ?_) (by decide) fun _ _ z => z))) fun d ds ρ tl' I => ?_) (by decide) fun o tl' I => ?_)
  · obtain ⟨rfl, ha, hl⟩ := j
    refine Dw.mono (Dw.callA (n := 0) (m := 3) (Dw.eq (fAll_eq (fVar_eq (i := 1) (d := .r 2) rfl) (fAll_eq (fVar_eq (i := 4) (d := mD z R G) rfl) fAll_nil)) (bent_ok (mD_lf ho) mD_dp (Nat.le_trans (mD_wt ho) (by decide)) (mD_wd ho) ⟨_, _, rfl⟩))) (by decide) fun y tl3 hy => ?_
    obtain ⟨b1, b2, b3, rfl⟩ := hy
    refine ⟨rfl, fun x hx => ?_, by rw [List.length_append, List.length_singleton]; rw [List.length_cons] at hl; omega⟩
    rcases List.mem_append.mp hx with h | h
    · exact ha x h
    · rw [List.mem_singleton] at h
      rw [h]
      exact ⟨b1, Nat.le_trans b2 (by decide), b3⟩
  · obtain ⟨rfl, ha, hl⟩ := j
    refine ⟨_, lif_addL (by rw [List.length_nil] at hl; rw [List.length_singleton]; omega), _, rfl, Nat.le_of_eq (Nat.zero_mul _), rfl, fun x hx => ?_, s5, rfl⟩
    rcases List.mem_append.mp hx with h | h
    · rw [List.mem_singleton] at h
      rw [h]
      exact ⟨mD_pl ho, mD_wt' ho, Nat.le_trans (mD_wd ho) (by decide)⟩
    · exact ha x h
  · obtain ⟨rfl, ha, y5, rfl⟩ := I
    rw [lif_gN, bnd_ret]
    obtain ⟨p1, p2, p3⟩ := ha d List.mem_cons_self
    exact Dw.at (fun g r t => thing_ok p1 p2 p3) ⟨_, rfl, rfl, fun x hx => ha x (List.mem_cons_of_mem _ hx), _, rfl⟩
  obtain ⟨ρ', rfl, rfl, _, y5, rfl⟩ := I
  refine ⟨_, rfl, ?_⟩
  -- texts
  refine Dw.seq (Dw.mono (n := 93 + 0) (Dw.forD (k0 := 93) (k := 0) (n := 0) (I := fun ds ρ tl' => plT tl' ∧ (∃ ws : List (List Nat), ds = ws.map dt ∧ ∀ w ∈ ws, w.length ≤ 30 ∧ ∀ x ∈ w, x ∈ zl z) ∧ ∃ y6 y7 y8, ρ = [s0, some (.r 2), s2, some (.v (.str z)), some (mD z R G), y5, y6, y7, y8, s9, s10, s11, s12, s13, s14]) (Dw.itm (Dw.mono (Dw.callA (n := 0) (m := 3 * (1 + 30)) (Dw.eq (fAll_eq (fVar_eq (i := 1) (d := .r 2) rfl) (fAll_eq (fVar_eq (i := 3) (d := .v (.str z)) rfl) (fAll_eq (f := fC (.v (.int 3))) rfl (fAll_eq (f := fC (.v (.int 30))) rfl fAll_nil)))) (jn_some_ok (kk := 3) (mm := 30) (by decide) (by decide) (plT_low hT) z0 (by omega) z128))) (by decide) fun d tl' hd => ?_)) fun d ds ρ tl' I => ?_) (by decide) fun o tl' I => ?_)
  · obtain ⟨⟨ws, rfl, hws⟩, rfl⟩ := hd
    exact ⟨_, rfl, Nat.le_of_eq (Nat.zero_mul _), hT, ⟨ws, rfl, hws⟩, _, _, _, rfl⟩
  · obtain ⟨hT', ⟨ws, hds, hws⟩, y6, y7, y8, rfl⟩ := I
    rw [lif_gN, bnd_ret]
    cases ws with
    | nil => cases hds
    | cons w ws =>
      rw [List.map_cons, List.cons.injEq] at hds
      obtain ⟨rfl, rfl⟩ := hds
      obtain ⟨w1, w2⟩ := hws w List.mem_cons_self
      refine Dw.atT (a := .nx [s0, some (.r 2), s2, some (.v (.str z)), some (mD z R G), y5, some (dt w), some (.lst (nsD (leds z R w))), some (.r (tl'.length + 3)), s9, s10, s11, s12, s13, s14]) (tl' := tl' ++ [.lst (nsD (leds z R w) ++ [.v .non]), .lst (nsD (leds z R w))]) (fun g r t => by
        have e := word_ok (μ := SM q g c r t tl') (s0 := s0) (s1 := some (.r 2)) (s2 := s2) (s3 := some (.v (.str z))) (s5 := y5) (s7 := y7) (s8 := y8) (s9 := s9) (s10 := s10) (s11 := s11) (s12 := s12) (s13 := s13) (s14 := s14) ho w2 (show w.length ≤ 4000 by omega)
        exact e) ⟨_, rfl, plT_app hT' ?_, ⟨ws, rfl, fun v hv => hws v (List.mem_cons_of_mem _ hv)⟩, _, _, _, rfl⟩
      intro x hx
      simp only [List.mem_cons, List.not_mem_nil, or_false] at hx
      rcases hx with rfl | rfl
      · refine ⟨_, rfl, plDs_iff.mpr fun d hd => ?_⟩
        rcases List.mem_append.mp hd with h | h
        · exact plDs_iff.mp ns_pl d h
        · rw [List.mem_singleton] at h; rw [h]; rfl
      · exact ⟨_, rfl, ns_pl⟩
  obtain ⟨ρ', rfl, hT2, _, y6, y7, y8, rfl⟩ := I
  refine ⟨_, rfl, ?_⟩
  -- lengths
  refine Dw.seq (Dw.mono (n := 2 + 0) (Dw.forD (k0 := 2) (k := 0) (n := 0) (I := fun ds ρ tl3 => tl3 = tl' ∧ (∀ d ∈ ds, ∃ n : Nat, n ≤ 1000 ∧ d = di n) ∧ ∃ y9, ρ = [s0, some (.r 2), s2, some (.v (.str z)), some (mD z R G), y5, y6, y7, y8, y9, s10, s11, s12, s13, s14]) (Dw.itm (Dw.lst (Dw.allE (f := fC (.v (.int 0))) rfl (Dw.allE (f := fC (.v (.int 1))) rfl (Dw.mono (n := 1 + 1) (Dw.allD (n := 1) (m := 1) (Dw.mono (Dw.draw (k := 6) rfl rfl (by decide) (by decide)) (Nat.le_refl _) fun d tl3 hd => Dw.mono (n := 1 + 0) (Dw.allD (n := 1) (m := 0) (Dw.mono (Dw.pick (xs := [di 40, di 100, di 1000]) rfl (fLst_eq (fAll_eq rfl (fAll_eq rfl (fAll_eq rfl fAll_nil)))) (by decide) (by decide)) (Nat.le_refl _) fun e tl4 he => Dw.allN ?_)) (by decide) fun _ _ z => z)) (by decide) fun _ _ z => z))))) fun d ds ρ tl3 I => ?_) (by decide) fun o tl3 I => ?_)
  · obtain ⟨⟨j, hj, rfl⟩, rfl⟩ := hd
    obtain ⟨he, rfl⟩ := he
    refine ⟨_, rfl, Nat.le_of_eq (Nat.zero_mul _), rfl, fun x hx => ?_, _, rfl⟩
    simp only [List.mem_cons, List.not_mem_nil, or_false] at hx
    rcases hx with rfl | rfl | rfl | rfl
    · exact ⟨0, by decide, rfl⟩
    · exact ⟨1, by decide, rfl⟩
    · exact ⟨j, by omega, rfl⟩
    · simp only [List.mem_cons, List.not_mem_nil, or_false] at he
      rcases he with rfl | rfl | rfl
      · exact ⟨40, by decide, rfl⟩
      · exact ⟨100, by decide, rfl⟩
      · exact ⟨1000, by decide, rfl⟩
  · obtain ⟨rfl, hds, y9, rfl⟩ := I
    rw [lif_gN, bnd_ret]
    obtain ⟨n, hn, rfl⟩ := hds d List.mem_cons_self
    exact Dw.at (fun g r t => length_ok ho (low_of (plT_low hT2)) hn) ⟨_, rfl, rfl, fun x hx => hds x (List.mem_cons_of_mem _ hx), _, rfl⟩
  obtain ⟨ρ', rfl, rfl, _, y9, rfl⟩ := I
  refine ⟨_, rfl, ?_⟩
  refine Dw.seq (Dw.set (Dw.mono (Dw.draw (k := 6) rfl rfl (by decide) (by decide)) (Nat.le_refl _) fun d tl3 hd => ⟨_, rfl, ?_⟩))
  obtain ⟨⟨n, hn, rfl⟩, rfl⟩ := hd
  have hn5 : n ≤ 5 := by omega
  have ρ2 : (([s0, some (.r 2), s2, some (.v (.str z)), some (mD z R G), y5, y6, y7, y8, y9, s10, s11, s12, s13, s14] : En).set 9 (some (di n))) = [s0, some (.r 2), s2, some (.v (.str z)), some (mD z R G), y5, y6, y7, y8, some (di n), s10, s11, s12, s13, s14] := rfl
  rw [ρ2]
  obtain ⟨ws, hws, ee⟩ := every_ok ho hn5 (ρ := [s0, some (.r 2), s2, some (.v (.str z)), some (mD z R G), y5, y6, y7, y8, some (di n), s10, s11, s12, s13, s14]) (fVar_eq rfl) (fVar_eq rfl) (fun d => fVar_eq rfl) (fun d => fVar_eq rfl) (fun d => fVar_eq rfl)
  refine Dw.seq (Dw.set (Dw.eq ee ⟨_, rfl, ?_⟩))
  have ρ3 : (([s0, some (.r 2), s2, some (.v (.str z)), some (mD z R G), y5, y6, y7, y8, some (di n), s10, s11, s12, s13, s14] : En).set 10 (some (.lst (ws.map dt)))) = [s0, some (.r 2), s2, some (.v (.str z)), some (mD z R G), y5, y6, y7, y8, some (di n), some (.lst (ws.map dt)), s11, s12, s13, s14] := rfl
  rw [ρ3]
  refine Dw.mono (n := 3 + 0) (Dw.ifN (n := 3) (m := 0) (Dw.tOr (fun g r t => tst_at ?_) (Dw.tNot (Dw.tst (Dw.callA (n := 0) (m := 3) (Dw.eq (fAll_eq (fVar_eq (i := 1) (d := .r 2) rfl) (fAll_eq (fVar_eq (i := 4) (d := mD z R G) rfl) fAll_nil)) (Dw.mono (refused_ok hT2 ho hq) (Nat.le_refl _) fun d tl4 hd => ?_))))))) (by decide) fun _ _ z => z
  · refine f2_at (call_at (fAll_eq (fVar_eq rfl) (fAll_eq (fVar_eq rfl) fAll_nil)) (texts_ok ho (low_of (plT_low hT2)) (by omega))) (fB1_at (f := dLen) (var_at (i := 10) (d := .lst (ws.map dt)) rfl) (d := di ((ws.map dt).length : Nat)) rfl) ?_
    show some (bl (!(((countG R G n : Nat) : Int) == (((ws.map dt).length : Nat) : Int)))) = _
    rw [List.length_map, hws]
    simp
  · obtain ⟨rfl, rfl⟩ := hd
    exact ⟨true, rfl, rfl, Dw.ret ⟨hT2, _, _, _, _, _, _, _, _, _, _, rfl⟩⟩
end
def greatD (n : Nat) : D := .tup [.v (.str "machine"), .v (.str "abcdefghijklmnopqrstuvwxyz"), .tup (repD n [.tup (repD 26 [di ((n : Int) - 1)])]), .tup [di 0, di ((n : Int) - 1)]]
theorem great_ok : ∀ n ∈ [399, 400, 401], plD (greatD n) = true ∧ wt (greatD n) ≤ 16777216 ∧ machB (greatD n) = decide ((n : Int) ≤ 400) := by decide +kernel
theorem law_true (ns : List Int) (hn : ns.length ≤ 63) : ∃ μ', bodyF f_law 1 15 [scr ns] (tabMu ["_law_refused_right"]) = some (.ok (.v (.bl true)) μ') := by
  obtain ⟨g, c, hb⟩ := begun_ok (q := "_law_refused_right") hn
  obtain ⟨k, hk, hr⟩ := turns_eq (n := ns.length)
  have r0 : (List.map some [scr ns] ++ List.replicate (15 - 1) none : En) = [some (scr ns), none, none, none, none, none, none, none, none, none, none, none, none, none, none] := rfl
  have key : Dw "_law_refused_right" c 1121 [] (fSeq (fFor (fRng1 [Tr.f2 dAdd (fC (.v (.int 2))) (fB dMin2 [fB dLen [fVar 0], fC (.v (.int 5))])]) (gN 2) b_law_3) (fSeq (fSet 11 (fCall F__law_pick [fVar 1, fLst [fC (.v (.int 399)), fC (.v (.int 400)), fC (.v (.int 401))]])) (fSeq (fSet 12 (fTup [fC (.v (.str "machine")), fC (.v (.str "abcdefghijklmnopqrstuvwxyz")), f2 dMul (fTup [f2 dMul (fTup [f2 (dInt iSub) (fVar 11) (fC (.v (.int 1)))]) (fC (.v (.int 26)))]) (fVar 11), fTup [fC (.v (.int 0)), f2 (dInt iSub) (fVar 11) (fC (.v (.int 1)))]])) (fRet (fCall F__law_is_truth [fCall F_is_machine [fVar 12], f2 dLe (fVar 11) (fC (.v (.int 400)))])))) [some (scr ns), some (.r 2), none, none, none, none, none, none, none, none, none, none, none, none, none]) fun o tl => o = .rt (.v (.bl true)) := by
    refine Dw.mono (n := 1120 + (1 + (0 + 0))) (Dw.seq (Dw.mono (Dw.for (k := 1120) (n := 160) (ds := rngD 0 k) (I := fun ds ρ tl => plT tl ∧ ∃ x2 x3 x4 x5 x6 x7 x8 x9 x10 x11 x12 x13 x14, ρ = [some (scr ns), some (.r 2), x2, x3, x4, x5, x6, x7, x8, x9, x10, x11, x12, x13, x14]) (hr rfl rfl) (by rw [rngD_len]; omega) ⟨plT_nil, _, _, _, _, _, _, _, _, _, _, _, _, _, rfl⟩ fun d ds ρ tl I => ?_) (Nat.le_refl _) fun o tl ⟨ρ', e, hl, x2, x3, x4, x5, x6, x7, x8, x9, x10, x11, x12, x13, x14, e2⟩ => ⟨ρ', e, ?_⟩)) (by decide) fun _ _ z => z
    · obtain ⟨hl, x2, x3, x4, x5, x6, x7, x8, x9, x10, x11, x12, x13, x14, rfl⟩ := I
      rw [lif_gN, bnd_ret]
      refine Dw.mono (turn_ok hl rfl (s0 := some (scr ns)) (s2 := some d) (s3 := x3) (s4 := x4) (s5 := x5) (s6 := x6) (s7 := x7) (s8 := x8) (s9 := x9) (s10 := x10) (s11 := x11) (s12 := x12) (s13 := x13) (s14 := x14)) (Nat.le_refl _) fun o tl' z => ?_
      obtain ⟨hl', y3, y4, y5, y6, y7, y8, y9, y10, y13, y14, rfl⟩ := z
      exact ⟨_, rfl, hl', _, _, _, _, _, _, _, _, _, _, _, _, _, rfl⟩
    · subst e2
      refine Dw.seq (Dw.set (Dw.mono (Dw.pick (xs := [di 399, di 400, di 401]) rfl (fLst_eq (fAll_eq rfl (fAll_eq rfl (fAll_eq rfl fAll_nil)))) (by decide) (by decide)) (Nat.le_refl _) fun d tl' hd => ⟨_, rfl, ?_⟩))
      obtain ⟨hd, rfl⟩ := hd
      obtain ⟨n, hn3, rfl⟩ : ∃ n ∈ [399, 400, 401], d = di (n : Nat) := by
        simp only [List.mem_cons, List.not_mem_nil, or_false] at hd
        rcases hd with rfl | rfl | rfl <;> exact ⟨_, by decide, rfl⟩
      obtain ⟨g1, g2, g3⟩ := great_ok n hn3
      have hn4 : 399 ≤ n ∧ n ≤ 401 := by
        simp only [List.mem_cons, List.not_mem_nil, or_false] at hn3
        omega
      have em : fTup [fC (.v (.str "machine")), fC (.v (.str "abcdefghijklmnopqrstuvwxyz")), f2 dMul (fTup [f2 dMul (fTup [f2 (dInt iSub) (fVar 11) (fC (.v (.int 1)))]) (fC (.v (.int 26)))]) (fVar 11), fTup [fC (.v (.int 0)), f2 (dInt iSub) (fVar 11) (fC (.v (.int 1)))]] (([some (scr ns), some (.r 2), x2, x3, x4, x5, x6, x7, x8, x9, x10, x11, x12, x13, x14] : En).set 11 (some (di n))) = ret (greatD n) := by
        refine fTup_eq (fAll_eq rfl (fAll_eq rfl (fAll_eq (f2_eq (fTup_eq (fAll_eq (f2_eq (fTup_eq (fAll_eq (f2_eq (fVar_eq rfl) (fb := fC (.v (.int 1))) rfl lif_sub) fAll_nil)) (fb := fC (.v (.int 26))) rfl (lif_mulT (by decide) (by decide) (Nat.le_of_ble_eq_true rfl))) fAll_nil)) (fVar_eq (d := di n) rfl) (lif_mulT (by omega) (by omega) (Nat.le_of_ble_eq_true rfl))) (fAll_eq (fTup_eq (fAll_eq rfl (fAll_eq (f2_eq (fVar_eq (d := di n) rfl) (fb := fC (.v (.int 1))) rfl lif_sub) fAll_nil))) fAll_nil))))
      refine Dw.seq (Dw.set (Dw.eq em ⟨_, rfl, ?_⟩))
      refine Dw.rt (Dw.at (a := bl true) (fun g r t => ?_) rfl)
      have e1 : fCall F_is_machine [fVar 12] ((([some (scr ns), some (.r 2), x2, x3, x4, x5, x6, x7, x8, x9, x10, x11, x12, x13, x14] : En).set 11 (some (di n))).set 12 (some (greatD n))) = ret (bl (decide ((n : Int) ≤ 400))) := by
        rw [← g3]
        exact fCall_eq (fAll_eq (fVar_eq rfl) fAll_nil) (F_is_machine_ok g1 g2)
      have e2 : f2 dLe (fVar 11) (fC (.v (.int 400))) ((([some (scr ns), some (.r 2), x2, x3, x4, x5, x6, x7, x8, x9, x10, x11, x12, x13, x14] : En).set 11 (some (di n))).set 12 (some (greatD n))) = ret (bl (decide ((n : Int) ≤ 400))) := f2_eq (fVar_eq (d := di n) rfl) (fb := fC (.v (.int 400))) rfl lif_cmp
      exact callA_at (fAll_at (ret_of e1) (fAll_at (ret_of e2) rfl)) truth_ok
  obtain ⟨o, g', r', t', tl', e, _, _, rfl⟩ := key g 0 0 (Int.le_refl _) (by decide)
  refine ⟨SM "_law_refused_right" g' c r' t' tl', bodyF_at rfl ?_⟩
  rw [r0]
  unfold f_law
  refine (seq_at (set_at (call_at (F := F__law_begun) (fs := [fVar 0]) (ds := [.lst (ns.map di)]) (fAll_eq rfl fAll_nil) hb))).trans ?_
  exact e
end K66
/-! ## L66z -/
set_option Elab.async false
set_option linter.all false
set_option maxRecDepth 100000
set_option maxHeartbeats 4000000
namespace K66
open PySem PySem.Spec PyProof.Rows L2 Tr
set_option maxHeartbeats 0 in
theorem all_mk {P : Program} {w : World} {K : PySem.W.Frag} {h : Heap} {mg : Str → Option Value} {fa : Addr} (X : K.In h) (G : h.Ns mainGlobals mg) (hfa : mg "law" = some (.ref fa))
    {fnis_whole : Addr} {ocis_whole kVis_whole dcis_whole pmis_whole cdis_whole ctis_whole : Value} {odis_whole anis_whole : Option Addr} {slis_whole : Array (Option Value)}
    {fnis_text : Addr} {ocis_text kVis_text dcis_text pmis_text cdis_text ctis_text : Value} {odis_text anis_text : Option Addr} {slis_text : Array (Option Value)}
    {fnis_number : Addr} {ocis_number kVis_number dcis_number pmis_number cdis_number ctis_number : Value} {odis_number anis_number : Option Addr} {slis_number : Array (Option Value)}
    {fnare_letters : Addr} {ocare_letters kVare_letters dcare_letters pmare_letters cdare_letters ctare_letters : Value} {odare_letters anare_letters : Option Addr} {slare_letters : Array (Option Value)}
    {fnis_state : Addr} {ocis_state kVis_state dcis_state pmis_state cdis_state ctis_state : Value} {odis_state anis_state : Option Addr} {slis_state : Array (Option Value)}
    {fnis_machine : Addr} {ocis_machine kVis_machine dcis_machine pmis_machine cdis_machine ctis_machine : Value} {odis_machine anis_machine : Option Addr} {slis_machine : Array (Option Value)}
    {fnneed_machine : Addr} {ocneed_machine kVneed_machine dcneed_machine pmneed_machine cdneed_machine ctneed_machine : Value} {odneed_machine anneed_machine : Option Addr} {slneed_machine : Array (Option Value)}
    {fnneed_text_of : Addr} {ocneed_text_of kVneed_text_of dcneed_text_of pmneed_text_of cdneed_text_of ctneed_text_of : Value} {odneed_text_of anneed_text_of : Option Addr} {slneed_text_of : Array (Option Value)}
    {fnled_from : Addr} {ocled_from kVled_from dcled_from pmled_from cdled_from ctled_from : Value} {odled_from anled_from : Option Addr} {slled_from : Array (Option Value)}
    {fnlets : Addr} {oclets kVlets dclets pmlets cdlets ctlets : Value} {odlets anlets : Option Addr} {sllets : Array (Option Value)}
    {fnled_on : Addr} {ocled_on kVled_on dcled_on pmled_on cdled_on ctled_on : Value} {odled_on anled_on : Option Addr} {slled_on : Array (Option Value)}
    {fntexts_of_length : Addr} {octexts_of_length kVtexts_of_length dctexts_of_length pmtexts_of_length cdtexts_of_length cttexts_of_length : Value} {odtexts_of_length antexts_of_length : Option Addr} {sltexts_of_length : Array (Option Value)}
    {fn_law_begun : Addr} {oc_law_begun kV_law_begun dc_law_begun pm_law_begun cd_law_begun ct_law_begun : Value} {od_law_begun an_law_begun : Option Addr} {sl_law_begun : Array (Option Value)}
    {fn_law_blended : Addr} {oc_law_blended kV_law_blended dc_law_blended pm_law_blended cd_law_blended ct_law_blended : Value} {od_law_blended an_law_blended : Option Addr} {sl_law_blended : Array (Option Value)}
    {fn_law_draw : Addr} {oc_law_draw kV_law_draw dc_law_draw pm_law_draw cd_law_draw ct_law_draw : Value} {od_law_draw an_law_draw : Option Addr} {sl_law_draw : Array (Option Value)}
    {fn_law_pick : Addr} {oc_law_pick kV_law_pick dc_law_pick pm_law_pick cd_law_pick ct_law_pick : Value} {od_law_pick an_law_pick : Option Addr} {sl_law_pick : Array (Option Value)}
    {fn_law_is_truth : Addr} {oc_law_is_truth kV_law_is_truth dc_law_is_truth pm_law_is_truth cd_law_is_truth ct_law_is_truth : Value} {od_law_is_truth an_law_is_truth : Option Addr} {sl_law_is_truth : Array (Option Value)}
    {fn_law_oh_same : Addr} {oc_law_oh_same kV_law_oh_same dc_law_oh_same pm_law_oh_same cd_law_oh_same ct_law_oh_same : Value} {od_law_oh_same an_law_oh_same : Option Addr} {sl_law_oh_same : Array (Option Value)}
    {fn_law_oh_at : Addr} {oc_law_oh_at kV_law_oh_at dc_law_oh_at pm_law_oh_at cd_law_oh_at ct_law_oh_at : Value} {od_law_oh_at an_law_oh_at : Option Addr} {sl_law_oh_at : Array (Option Value)}
    {fn_law_oh_put : Addr} {oc_law_oh_put kV_law_oh_put dc_law_oh_put pm_law_oh_put cd_law_oh_put ct_law_oh_put : Value} {od_law_oh_put an_law_oh_put : Option Addr} {sl_law_oh_put : Array (Option Value)}
    {fn_law_oh_bent : Addr} {oc_law_oh_bent kV_law_oh_bent dc_law_oh_bent pm_law_oh_bent cd_law_oh_bent ct_law_oh_bent : Value} {od_law_oh_bent an_law_oh_bent : Option Addr} {sl_law_oh_bent : Array (Option Value)}
    {fn_law_oh_spots : Addr} {oc_law_oh_spots kV_law_oh_spots dc_law_oh_spots pm_law_oh_spots cd_law_oh_spots ct_law_oh_spots : Value} {od_law_oh_spots an_law_oh_spots : Option Addr} {sl_law_oh_spots : Array (Option Value)}
    {fn_law_oh_whole : Addr} {oc_law_oh_whole kV_law_oh_whole dc_law_oh_whole pm_law_oh_whole cd_law_oh_whole ct_law_oh_whole : Value} {od_law_oh_whole an_law_oh_whole : Option Addr} {sl_law_oh_whole : Array (Option Value)}
    {fn_law_oh_is_word : Addr} {oc_law_oh_is_word kV_law_oh_is_word dc_law_oh_is_word pm_law_oh_is_word cd_law_oh_is_word ct_law_oh_is_word : Value} {od_law_oh_is_word an_law_oh_is_word : Option Addr} {sl_law_oh_is_word : Array (Option Value)}
    {fn_law_jn_texts : Addr} {oc_law_jn_texts kV_law_jn_texts dc_law_jn_texts pm_law_jn_texts cd_law_jn_texts ct_law_jn_texts : Value} {od_law_jn_texts an_law_jn_texts : Option Addr} {sl_law_jn_texts : Array (Option Value)}
    {fn_law_jn_some : Addr} {oc_law_jn_some kV_law_jn_some dc_law_jn_some pm_law_jn_some cd_law_jn_some ct_law_jn_some : Value} {od_law_jn_some an_law_jn_some : Option Addr} {sl_law_jn_some : Array (Option Value)}
    {fn_law_jn_machine : Addr} {oc_law_jn_machine kV_law_jn_machine dc_law_jn_machine pm_law_jn_machine cd_law_jn_machine ct_law_jn_machine : Value} {od_law_jn_machine an_law_jn_machine : Option Addr} {sl_law_jn_machine : Array (Option Value)}
    {fn_law_jn_led : Addr} {oc_law_jn_led kV_law_jn_led dc_law_jn_led pm_law_jn_led cd_law_jn_led ct_law_jn_led : Value} {od_law_jn_led an_law_jn_led : Option Addr} {sl_law_jn_led : Array (Option Value)}
    {fn_law_jn_lets : Addr} {oc_law_jn_lets kV_law_jn_lets dc_law_jn_lets pm_law_jn_lets cd_law_jn_lets ct_law_jn_lets : Value} {od_law_jn_lets an_law_jn_lets : Option Addr} {sl_law_jn_lets : Array (Option Value)}
    {fn_law_is_machine : Addr} {oc_law_is_machine kV_law_is_machine dc_law_is_machine pm_law_is_machine cd_law_is_machine ct_law_is_machine : Value} {od_law_is_machine an_law_is_machine : Option Addr} {sl_law_is_machine : Array (Option Value)}
    {fn_law_count : Addr} {oc_law_count kV_law_count dc_law_count pm_law_count cd_law_count ct_law_count : Value} {od_law_count an_law_count : Option Addr} {sl_law_count : Array (Option Value)}
    {fn_law_refused_right : Addr} {oc_law_refused_right kV_law_refused_right dc_law_refused_right pm_law_refused_right ct_law_refused_right : Value} {od_law_refused_right an_law_refused_right : Option Addr} {sl_law_refused_right : Array (Option Value)}
    {fn_law_caught : Addr} {oc_law_caught kV_law_caught dc_law_caught pm_law_caught cd_law_caught ct_law_caught : Value} {od_law_caught an_law_caught : Option Addr} {sl_law_caught : Array (Option Value)}
    {fnlaw : Addr} {oclaw kVlaw dclaw pmlaw cdlaw ctlaw : Value} {odlaw anlaw : Option Addr} {sllaw : Array (Option Value)}
    {cL_law_refused_right tL_law_refused_right : Addr} {eL_law_refused_right : Value} {eD_law_refused_right : Option Addr} {eV_law_refused_right : Array Value} {eS_law_refused_right : Array (Option Value)}
    {t_LETTERS : Tok}
    {t_MOST_LENGTH : Tok}
    {t_MOST_LETTERS : Tok}
    {t_MOST_STATES : Tok}
    {C_BadMachine : Addr}
    {C_BadNumber : Addr}
    {C_BadText : Addr}
    {C_HeadError : Addr}
    (ais_whole : PySem.W.nsIn K mainGlobals "is_whole" = some (some (.ref fnis_whole)))
    (lis_whole : K.lookup fnis_whole = some ⟨ocis_whole, odis_whole, .func (PySem.W.fnOf "is_whole" "is_whole" (defArgs (topS 6)) (defBody (topS 6)) (defScope (topS 6)) .none kVis_whole dcis_whole pmis_whole anis_whole cdis_whole ctis_whole), slis_whole⟩)
    (cis_whole : PySem.W.codeIn K cdis_whole "is_whole" = true)
    (kis_whole : PySem.W.keepIn K (.ref fnis_whole) = true)
    (ais_text : PySem.W.nsIn K mainGlobals "is_text" = some (some (.ref fnis_text)))
    (lis_text : K.lookup fnis_text = some ⟨ocis_text, odis_text, .func (PySem.W.fnOf "is_text" "is_text" (defArgs (topS 9)) (defBody (topS 9)) (defScope (topS 9)) .none kVis_text dcis_text pmis_text anis_text cdis_text ctis_text), slis_text⟩)
    (cis_text : PySem.W.codeIn K cdis_text "is_text" = true)
    (kis_text : PySem.W.keepIn K (.ref fnis_text) = true)
    (ais_number : PySem.W.nsIn K mainGlobals "is_number" = some (some (.ref fnis_number)))
    (lis_number : K.lookup fnis_number = some ⟨ocis_number, odis_number, .func (PySem.W.fnOf "is_number" "is_number" (defArgs (topS 14)) (defBody (topS 14)) (defScope (topS 14)) .none kVis_number dcis_number pmis_number anis_number cdis_number ctis_number), slis_number⟩)
    (cis_number : PySem.W.codeIn K cdis_number "is_number" = true)
    (kis_number : PySem.W.keepIn K (.ref fnis_number) = true)
    (aare_letters : PySem.W.nsIn K mainGlobals "are_letters" = some (some (.ref fnare_letters)))
    (lare_letters : K.lookup fnare_letters = some ⟨ocare_letters, odare_letters, .func (PySem.W.fnOf "are_letters" "are_letters" (defArgs (topS 15)) (defBody (topS 15)) (defScope (topS 15)) .none kVare_letters dcare_letters pmare_letters anare_letters cdare_letters ctare_letters), slare_letters⟩)
    (care_letters : PySem.W.codeIn K cdare_letters "are_letters" = true)
    (kare_letters : PySem.W.keepIn K (.ref fnare_letters) = true)
    (ais_state : PySem.W.nsIn K mainGlobals "is_state" = some (some (.ref fnis_state)))
    (lis_state : K.lookup fnis_state = some ⟨ocis_state, odis_state, .func (PySem.W.fnOf "is_state" "is_state" (defArgs (topS 16)) (defBody (topS 16)) (defScope (topS 16)) .none kVis_state dcis_state pmis_state anis_state cdis_state ctis_state), slis_state⟩)
    (cis_state : PySem.W.codeIn K cdis_state "is_state" = true)
    (kis_state : PySem.W.keepIn K (.ref fnis_state) = true)
    (ais_machine : PySem.W.nsIn K mainGlobals "is_machine" = some (some (.ref fnis_machine)))
    (lis_machine : K.lookup fnis_machine = some ⟨ocis_machine, odis_machine, .func (PySem.W.fnOf "is_machine" "is_machine" (defArgs (topS 17)) (defBody (topS 17)) (defScope (topS 17)) .none kVis_machine dcis_machine pmis_machine anis_machine cdis_machine ctis_machine), slis_machine⟩)
    (cis_machine : PySem.W.codeIn K cdis_machine "is_machine" = true)
    (kis_machine : PySem.W.keepIn K (.ref fnis_machine) = true)
    (aneed_machine : PySem.W.nsIn K mainGlobals "need_machine" = some (some (.ref fnneed_machine)))
    (lneed_machine : K.lookup fnneed_machine = some ⟨ocneed_machine, odneed_machine, .func (PySem.W.fnOf "need_machine" "need_machine" (defArgs (topS 18)) (defBody (topS 18)) (defScope (topS 18)) .none kVneed_machine dcneed_machine pmneed_machine anneed_machine cdneed_machine ctneed_machine), slneed_machine⟩)
    (cneed_machine : PySem.W.codeIn K cdneed_machine "need_machine" = true)
    (kneed_machine : PySem.W.keepIn K (.ref fnneed_machine) = true)
    (aneed_text_of : PySem.W.nsIn K mainGlobals "need_text_of" = some (some (.ref fnneed_text_of)))
    (lneed_text_of : K.lookup fnneed_text_of = some ⟨ocneed_text_of, odneed_text_of, .func (PySem.W.fnOf "need_text_of" "need_text_of" (defArgs (topS 19)) (defBody (topS 19)) (defScope (topS 19)) .none kVneed_text_of dcneed_text_of pmneed_text_of anneed_text_of cdneed_text_of ctneed_text_of), slneed_text_of⟩)
    (cneed_text_of : PySem.W.codeIn K cdneed_text_of "need_text_of" = true)
    (kneed_text_of : PySem.W.keepIn K (.ref fnneed_text_of) = true)
    (aled_from : PySem.W.nsIn K mainGlobals "led_from" = some (some (.ref fnled_from)))
    (lled_from : K.lookup fnled_from = some ⟨ocled_from, odled_from, .func (PySem.W.fnOf "led_from" "led_from" (defArgs (topS 20)) (defBody (topS 20)) (defScope (topS 20)) .none kVled_from dcled_from pmled_from anled_from cdled_from ctled_from), slled_from⟩)
    (cled_from : PySem.W.codeIn K cdled_from "led_from" = true)
    (kled_from : PySem.W.keepIn K (.ref fnled_from) = true)
    (alets : PySem.W.nsIn K mainGlobals "lets" = some (some (.ref fnlets)))
    (llets : K.lookup fnlets = some ⟨oclets, odlets, .func (PySem.W.fnOf "lets" "lets" (defArgs (topS 21)) (defBody (topS 21)) (defScope (topS 21)) .none kVlets dclets pmlets anlets cdlets ctlets), sllets⟩)
    (clets : PySem.W.codeIn K cdlets "lets" = true)
    (klets : PySem.W.keepIn K (.ref fnlets) = true)
    (aled_on : PySem.W.nsIn K mainGlobals "led_on" = some (some (.ref fnled_on)))
    (lled_on : K.lookup fnled_on = some ⟨ocled_on, odled_on, .func (PySem.W.fnOf "led_on" "led_on" (defArgs (topS 22)) (defBody (topS 22)) (defScope (topS 22)) .none kVled_on dcled_on pmled_on anled_on cdled_on ctled_on), slled_on⟩)
    (cled_on : PySem.W.codeIn K cdled_on "led_on" = true)
    (kled_on : PySem.W.keepIn K (.ref fnled_on) = true)
    (atexts_of_length : PySem.W.nsIn K mainGlobals "texts_of_length" = some (some (.ref fntexts_of_length)))
    (ltexts_of_length : K.lookup fntexts_of_length = some ⟨octexts_of_length, odtexts_of_length, .func (PySem.W.fnOf "texts_of_length" "texts_of_length" (defArgs (topS 23)) (defBody (topS 23)) (defScope (topS 23)) .none kVtexts_of_length dctexts_of_length pmtexts_of_length antexts_of_length cdtexts_of_length cttexts_of_length), sltexts_of_length⟩)
    (ctexts_of_length : PySem.W.codeIn K cdtexts_of_length "texts_of_length" = true)
    (ktexts_of_length : PySem.W.keepIn K (.ref fntexts_of_length) = true)
    (a_law_begun : PySem.W.nsIn K mainGlobals "_law_begun" = some (some (.ref fn_law_begun)))
    (l_law_begun : K.lookup fn_law_begun = some ⟨oc_law_begun, od_law_begun, .func (PySem.W.fnOf "_law_begun" "_law_begun" (defArgs (topS 25)) (defBody (topS 25)) (defScope (topS 25)) .none kV_law_begun dc_law_begun pm_law_begun an_law_begun cd_law_begun ct_law_begun), sl_law_begun⟩)
    (c_law_begun : PySem.W.codeIn K cd_law_begun "_law_begun" = true)
    (k_law_begun : PySem.W.keepIn K (.ref fn_law_begun) = true)
    (a_law_blended : PySem.W.nsIn K mainGlobals "_law_blended" = some (some (.ref fn_law_blended)))
    (l_law_blended : K.lookup fn_law_blended = some ⟨oc_law_blended, od_law_blended, .func (PySem.W.fnOf "_law_blended" "_law_blended" (defArgs (topS 26)) (defBody (topS 26)) (defScope (topS 26)) .none kV_law_blended dc_law_blended pm_law_blended an_law_blended cd_law_blended ct_law_blended), sl_law_blended⟩)
    (c_law_blended : PySem.W.codeIn K cd_law_blended "_law_blended" = true)
    (k_law_blended : PySem.W.keepIn K (.ref fn_law_blended) = true)
    (a_law_draw : PySem.W.nsIn K mainGlobals "_law_draw" = some (some (.ref fn_law_draw)))
    (l_law_draw : K.lookup fn_law_draw = some ⟨oc_law_draw, od_law_draw, .func (PySem.W.fnOf "_law_draw" "_law_draw" (defArgs (topS 27)) (defBody (topS 27)) (defScope (topS 27)) .none kV_law_draw dc_law_draw pm_law_draw an_law_draw cd_law_draw ct_law_draw), sl_law_draw⟩)
    (c_law_draw : PySem.W.codeIn K cd_law_draw "_law_draw" = true)
    (k_law_draw : PySem.W.keepIn K (.ref fn_law_draw) = true)
    (a_law_pick : PySem.W.nsIn K mainGlobals "_law_pick" = some (some (.ref fn_law_pick)))
    (l_law_pick : K.lookup fn_law_pick = some ⟨oc_law_pick, od_law_pick, .func (PySem.W.fnOf "_law_pick" "_law_pick" (defArgs (topS 28)) (defBody (topS 28)) (defScope (topS 28)) .none kV_law_pick dc_law_pick pm_law_pick an_law_pick cd_law_pick ct_law_pick), sl_law_pick⟩)
    (c_law_pick : PySem.W.codeIn K cd_law_pick "_law_pick" = true)
    (k_law_pick : PySem.W.keepIn K (.ref fn_law_pick) = true)
    (a_law_is_truth : PySem.W.nsIn K mainGlobals "_law_is_truth" = some (some (.ref fn_law_is_truth)))
    (l_law_is_truth : K.lookup fn_law_is_truth = some ⟨oc_law_is_truth, od_law_is_truth, .func (PySem.W.fnOf "_law_is_truth" "_law_is_truth" (defArgs (topS 30)) (defBody (topS 30)) (defScope (topS 30)) .none kV_law_is_truth dc_law_is_truth pm_law_is_truth an_law_is_truth cd_law_is_truth ct_law_is_truth), sl_law_is_truth⟩)
    (c_law_is_truth : PySem.W.codeIn K cd_law_is_truth "_law_is_truth" = true)
    (k_law_is_truth : PySem.W.keepIn K (.ref fn_law_is_truth) = true)
    (a_law_oh_same : PySem.W.nsIn K mainGlobals "_law_oh_same" = some (some (.ref fn_law_oh_same)))
    (l_law_oh_same : K.lookup fn_law_oh_same = some ⟨oc_law_oh_same, od_law_oh_same, .func (PySem.W.fnOf "_law_oh_same" "_law_oh_same" (defArgs (topS 31)) (defBody (topS 31)) (defScope (topS 31)) .none kV_law_oh_same dc_law_oh_same pm_law_oh_same an_law_oh_same cd_law_oh_same ct_law_oh_same), sl_law_oh_same⟩)
    (c_law_oh_same : PySem.W.codeIn K cd_law_oh_same "_law_oh_same" = true)
    (k_law_oh_same : PySem.W.keepIn K (.ref fn_law_oh_same) = true)
    (a_law_oh_at : PySem.W.nsIn K mainGlobals "_law_oh_at" = some (some (.ref fn_law_oh_at)))
    (l_law_oh_at : K.lookup fn_law_oh_at = some ⟨oc_law_oh_at, od_law_oh_at, .func (PySem.W.fnOf "_law_oh_at" "_law_oh_at" (defArgs (topS 32)) (defBody (topS 32)) (defScope (topS 32)) .none kV_law_oh_at dc_law_oh_at pm_law_oh_at an_law_oh_at cd_law_oh_at ct_law_oh_at), sl_law_oh_at⟩)
    (c_law_oh_at : PySem.W.codeIn K cd_law_oh_at "_law_oh_at" = true)
    (k_law_oh_at : PySem.W.keepIn K (.ref fn_law_oh_at) = true)
    (a_law_oh_put : PySem.W.nsIn K mainGlobals "_law_oh_put" = some (some (.ref fn_law_oh_put)))
    (l_law_oh_put : K.lookup fn_law_oh_put = some ⟨oc_law_oh_put, od_law_oh_put, .func (PySem.W.fnOf "_law_oh_put" "_law_oh_put" (defArgs (topS 33)) (defBody (topS 33)) (defScope (topS 33)) .none kV_law_oh_put dc_law_oh_put pm_law_oh_put an_law_oh_put cd_law_oh_put ct_law_oh_put), sl_law_oh_put⟩)
    (c_law_oh_put : PySem.W.codeIn K cd_law_oh_put "_law_oh_put" = true)
    (k_law_oh_put : PySem.W.keepIn K (.ref fn_law_oh_put) = true)
    (a_law_oh_bent : PySem.W.nsIn K mainGlobals "_law_oh_bent" = some (some (.ref fn_law_oh_bent)))
    (l_law_oh_bent : K.lookup fn_law_oh_bent = some ⟨oc_law_oh_bent, od_law_oh_bent, .func (PySem.W.fnOf "_law_oh_bent" "_law_oh_bent" (defArgs (topS 34)) (defBody (topS 34)) (defScope (topS 34)) .none kV_law_oh_bent dc_law_oh_bent pm_law_oh_bent an_law_oh_bent cd_law_oh_bent ct_law_oh_bent), sl_law_oh_bent⟩)
    (c_law_oh_bent : PySem.W.codeIn K cd_law_oh_bent "_law_oh_bent" = true)
    (k_law_oh_bent : PySem.W.keepIn K (.ref fn_law_oh_bent) = true)
    (a_law_oh_spots : PySem.W.nsIn K mainGlobals "_law_oh_spots" = some (some (.ref fn_law_oh_spots)))
    (l_law_oh_spots : K.lookup fn_law_oh_spots = some ⟨oc_law_oh_spots, od_law_oh_spots, .func (PySem.W.fnOf "_law_oh_spots" "_law_oh_spots" (defArgs (topS 35)) (defBody (topS 35)) (defScope (topS 35)) .none kV_law_oh_spots dc_law_oh_spots pm_law_oh_spots an_law_oh_spots cd_law_oh_spots ct_law_oh_spots), sl_law_oh_spots⟩)
    (c_law_oh_spots : PySem.W.codeIn K cd_law_oh_spots "_law_oh_spots" = true)
    (k_law_oh_spots : PySem.W.keepIn K (.ref fn_law_oh_spots) = true)
    (a_law_oh_whole : PySem.W.nsIn K mainGlobals "_law_oh_whole" = some (some (.ref fn_law_oh_whole)))
    (l_law_oh_whole : K.lookup fn_law_oh_whole = some ⟨oc_law_oh_whole, od_law_oh_whole, .func (PySem.W.fnOf "_law_oh_whole" "_law_oh_whole" (defArgs (topS 36)) (defBody (topS 36)) (defScope (topS 36)) .none kV_law_oh_whole dc_law_oh_whole pm_law_oh_whole an_law_oh_whole cd_law_oh_whole ct_law_oh_whole), sl_law_oh_whole⟩)
    (c_law_oh_whole : PySem.W.codeIn K cd_law_oh_whole "_law_oh_whole" = true)
    (k_law_oh_whole : PySem.W.keepIn K (.ref fn_law_oh_whole) = true)
    (a_law_oh_is_word : PySem.W.nsIn K mainGlobals "_law_oh_is_word" = some (some (.ref fn_law_oh_is_word)))
    (l_law_oh_is_word : K.lookup fn_law_oh_is_word = some ⟨oc_law_oh_is_word, od_law_oh_is_word, .func (PySem.W.fnOf "_law_oh_is_word" "_law_oh_is_word" (defArgs (topS 37)) (defBody (topS 37)) (defScope (topS 37)) .none kV_law_oh_is_word dc_law_oh_is_word pm_law_oh_is_word an_law_oh_is_word cd_law_oh_is_word ct_law_oh_is_word), sl_law_oh_is_word⟩)
    (c_law_oh_is_word : PySem.W.codeIn K cd_law_oh_is_word "_law_oh_is_word" = true)
    (k_law_oh_is_word : PySem.W.keepIn K (.ref fn_law_oh_is_word) = true)
    (a_law_jn_texts : PySem.W.nsIn K mainGlobals "_law_jn_texts" = some (some (.ref fn_law_jn_texts)))
    (l_law_jn_texts : K.lookup fn_law_jn_texts = some ⟨oc_law_jn_texts, od_law_jn_texts, .func (PySem.W.fnOf "_law_jn_texts" "_law_jn_texts" (defArgs (topS 38)) (defBody (topS 38)) (defScope (topS 38)) .none kV_law_jn_texts dc_law_jn_texts pm_law_jn_texts an_law_jn_texts cd_law_jn_texts ct_law_jn_texts), sl_law_jn_texts⟩)
    (c_law_jn_texts : PySem.W.codeIn K cd_law_jn_texts "_law_jn_texts" = true)
    (k_law_jn_texts : PySem.W.keepIn K (.ref fn_law_jn_texts) = true)
    (a_law_jn_some : PySem.W.nsIn K mainGlobals "_law_jn_some" = some (some (.ref fn_law_jn_some)))
    (l_law_jn_some : K.lookup fn_law_jn_some = some ⟨oc_law_jn_some, od_law_jn_some, .func (PySem.W.fnOf "_law_jn_some" "_law_jn_some" (defArgs (topS 39)) (defBody (topS 39)) (defScope (topS 39)) .none kV_law_jn_some dc_law_jn_some pm_law_jn_some an_law_jn_some cd_law_jn_some ct_law_jn_some), sl_law_jn_some⟩)
    (c_law_jn_some : PySem.W.codeIn K cd_law_jn_some "_law_jn_some" = true)
    (k_law_jn_some : PySem.W.keepIn K (.ref fn_law_jn_some) = true)
    (a_law_jn_machine : PySem.W.nsIn K mainGlobals "_law_jn_machine" = some (some (.ref fn_law_jn_machine)))
    (l_law_jn_machine : K.lookup fn_law_jn_machine = some ⟨oc_law_jn_machine, od_law_jn_machine, .func (PySem.W.fnOf "_law_jn_machine" "_law_jn_machine" (defArgs (topS 40)) (defBody (topS 40)) (defScope (topS 40)) .none kV_law_jn_machine dc_law_jn_machine pm_law_jn_machine an_law_jn_machine cd_law_jn_machine ct_law_jn_machine), sl_law_jn_machine⟩)
    (c_law_jn_machine : PySem.W.codeIn K cd_law_jn_machine "_law_jn_machine" = true)
    (k_law_jn_machine : PySem.W.keepIn K (.ref fn_law_jn_machine) = true)
    (a_law_jn_led : PySem.W.nsIn K mainGlobals "_law_jn_led" = some (some (.ref fn_law_jn_led)))
    (l_law_jn_led : K.lookup fn_law_jn_led = some ⟨oc_law_jn_led, od_law_jn_led, .func (PySem.W.fnOf "_law_jn_led" "_law_jn_led" (defArgs (topS 41)) (defBody (topS 41)) (defScope (topS 41)) .none kV_law_jn_led dc_law_jn_led pm_law_jn_led an_law_jn_led cd_law_jn_led ct_law_jn_led), sl_law_jn_led⟩)
    (c_law_jn_led : PySem.W.codeIn K cd_law_jn_led "_law_jn_led" = true)
    (k_law_jn_led : PySem.W.keepIn K (.ref fn_law_jn_led) = true)
    (a_law_jn_lets : PySem.W.nsIn K mainGlobals "_law_jn_lets" = some (some (.ref fn_law_jn_lets)))
    (l_law_jn_lets : K.lookup fn_law_jn_lets = some ⟨oc_law_jn_lets, od_law_jn_lets, .func (PySem.W.fnOf "_law_jn_lets" "_law_jn_lets" (defArgs (topS 42)) (defBody (topS 42)) (defScope (topS 42)) .none kV_law_jn_lets dc_law_jn_lets pm_law_jn_lets an_law_jn_lets cd_law_jn_lets ct_law_jn_lets), sl_law_jn_lets⟩)
    (c_law_jn_lets : PySem.W.codeIn K cd_law_jn_lets "_law_jn_lets" = true)
    (k_law_jn_lets : PySem.W.keepIn K (.ref fn_law_jn_lets) = true)
    (a_law_is_machine : PySem.W.nsIn K mainGlobals "_law_is_machine" = some (some (.ref fn_law_is_machine)))
    (l_law_is_machine : K.lookup fn_law_is_machine = some ⟨oc_law_is_machine, od_law_is_machine, .func (PySem.W.fnOf "_law_is_machine" "_law_is_machine" (defArgs (topS 43)) (defBody (topS 43)) (defScope (topS 43)) .none kV_law_is_machine dc_law_is_machine pm_law_is_machine an_law_is_machine cd_law_is_machine ct_law_is_machine), sl_law_is_machine⟩)
    (c_law_is_machine : PySem.W.codeIn K cd_law_is_machine "_law_is_machine" = true)
    (k_law_is_machine : PySem.W.keepIn K (.ref fn_law_is_machine) = true)
    (a_law_count : PySem.W.nsIn K mainGlobals "_law_count" = some (some (.ref fn_law_count)))
    (l_law_count : K.lookup fn_law_count = some ⟨oc_law_count, od_law_count, .func (PySem.W.fnOf "_law_count" "_law_count" (defArgs (topS 44)) (defBody (topS 44)) (defScope (topS 44)) .none kV_law_count dc_law_count pm_law_count an_law_count cd_law_count ct_law_count), sl_law_count⟩)
    (c_law_count : PySem.W.codeIn K cd_law_count "_law_count" = true)
    (k_law_count : PySem.W.keepIn K (.ref fn_law_count) = true)
    (a_law_refused_right : PySem.W.nsIn K mainGlobals "_law_refused_right" = some (some (.ref fn_law_refused_right)))
    (l_law_refused_right : K.lookup fn_law_refused_right = some ⟨oc_law_refused_right, od_law_refused_right, .func (PySem.W.fnOf "_law_refused_right" "_law_refused_right" (defArgs (topS 45)) (defBody (topS 45)) (defScope (topS 45)) .none kV_law_refused_right dc_law_refused_right pm_law_refused_right an_law_refused_right (.ref cL_law_refused_right) ct_law_refused_right), sl_law_refused_right⟩)
    (c_law_refused_right : PySem.W.codeIn K (.ref cL_law_refused_right) "_law_refused_right" = true)
    (k_law_refused_right : PySem.W.keepIn K (.ref fn_law_refused_right) = true)
    (a_law_caught : PySem.W.nsIn K mainGlobals "_law_caught" = some (some (.ref fn_law_caught)))
    (l_law_caught : K.lookup fn_law_caught = some ⟨oc_law_caught, od_law_caught, .func (PySem.W.fnOf "_law_caught" "_law_caught" (defArgs (topS 29)) (defBody (topS 29)) (defScope (topS 29)) .none kV_law_caught dc_law_caught pm_law_caught an_law_caught cd_law_caught ct_law_caught), sl_law_caught⟩)
    (c_law_caught : PySem.W.codeIn K cd_law_caught "_law_caught" = true)
    (k_law_caught : PySem.W.keepIn K (.ref fn_law_caught) = true)
    (alaw : PySem.W.nsIn K mainGlobals "law" = some (some (.ref fnlaw)))
    (llaw : K.lookup fnlaw = some ⟨oclaw, odlaw, .func (PySem.W.fnOf "law" "law" (defArgs (topS 46)) (defBody (topS 46)) (defScope (topS 46)) .none kVlaw dclaw pmlaw anlaw cdlaw ctlaw), sllaw⟩)
    (claw : PySem.W.codeIn K cdlaw "law" = true)
    (klaw : PySem.W.keepIn K (.ref fnlaw) = true)
    (lcL_law_refused_right : K.lookup cL_law_refused_right = some ⟨eL_law_refused_right, eD_law_refused_right, .fields eV_law_refused_right, eS_law_refused_right⟩) (vL_law_refused_right : eV_law_refused_right[11]? = some (.ref tL_law_refused_right)) (nL_law_refused_right : K.lookup tL_law_refused_right = none)
    (zdig : PySem.W.nsIn K cStatics digKey = some none)
    (z_abs : PySem.W.nsIn K mainGlobals "abs" = some none)
    (z_all : PySem.W.nsIn K mainGlobals "all" = some none)
    (z_bool : PySem.W.nsIn K mainGlobals "bool" = some none)
    (z_enumerate : PySem.W.nsIn K mainGlobals "enumerate" = some none)
    (z_int : PySem.W.nsIn K mainGlobals "int" = some none)
    (z_isinstance : PySem.W.nsIn K mainGlobals "isinstance" = some none)
    (z_len : PySem.W.nsIn K mainGlobals "len" = some none)
    (z_list : PySem.W.nsIn K mainGlobals "list" = some none)
    (z_min : PySem.W.nsIn K mainGlobals "min" = some none)
    (z_range : PySem.W.nsIn K mainGlobals "range" = some none)
    (z_repr : PySem.W.nsIn K mainGlobals "repr" = some none)
    (z_set : PySem.W.nsIn K mainGlobals "set" = some none)
    (z_sorted : PySem.W.nsIn K mainGlobals "sorted" = some none)
    (z_str : PySem.W.nsIn K mainGlobals "str" = some none)
    (z_sum : PySem.W.nsIn K mainGlobals "sum" = some none)
    (z_tuple : PySem.W.nsIn K mainGlobals "tuple" = some none)
    (q_LETTERS : PySem.W.nsIn K mainGlobals "LETTERS" = some (some (.str "abcdefghijklmnopqrstuvwxyz" t_LETTERS)))
    (q_MOST_LENGTH : PySem.W.nsIn K mainGlobals "MOST_LENGTH" = some (some (.int 1000 t_MOST_LENGTH)))
    (q_MOST_LETTERS : PySem.W.nsIn K mainGlobals "MOST_LETTERS" = some (some (.int 26 t_MOST_LETTERS)))
    (q_MOST_STATES : PySem.W.nsIn K mainGlobals "MOST_STATES" = some (some (.int 400 t_MOST_STATES)))
    (e_BadMachine : PySem.W.nsIn K mainGlobals "BadMachine" = some (some (.ref C_BadMachine)))
    (s_BadMachine : PySem.W.subIn K (.ref C_BadMachine) (.type "BaseException") = some true)
    (t_BadMachine : PySem.W.typeIn K (.ref C_BadMachine) = some (.type "type"))
    (d_BadMachine : PySem.W.hasDictIn K C_BadMachine = true)
    (x_BadMachine : PySem.W.excIn K C_BadMachine [.type "ValueError", .type "Exception", .type "BaseException", .type "object"] "ValueError.__new__" = true)
    (p_BadMachine : PySem.W.keepIn K (.ref C_BadMachine) = true)
    (g_BadMachine : PySem.W.findIn K (.ref C_BadMachine) "__getattribute__" = some (some (.builtin "BaseException.__getattribute__")))
    (h_BadMachine : PySem.W.findIn K (.ref C_BadMachine) "__getattr__" = some none)
    (j_BadMachine : PySem.W.findIn K (.ref C_BadMachine) "__class__" = some (some (.builtin "object.__class__")))
    (m_BadMachine : PySem.W.mroIn K C_BadMachine (.type "object") = some true)
    (o_BadMachine : PySem.W.subIn K (.ref C_BadMachine) (.ref C_HeadError) = some true)
    (e_BadNumber : PySem.W.nsIn K mainGlobals "BadNumber" = some (some (.ref C_BadNumber)))
    (s_BadNumber : PySem.W.subIn K (.ref C_BadNumber) (.type "BaseException") = some true)
    (t_BadNumber : PySem.W.typeIn K (.ref C_BadNumber) = some (.type "type"))
    (d_BadNumber : PySem.W.hasDictIn K C_BadNumber = true)
    (x_BadNumber : PySem.W.excIn K C_BadNumber [.type "ValueError", .type "Exception", .type "BaseException", .type "object"] "ValueError.__new__" = true)
    (p_BadNumber : PySem.W.keepIn K (.ref C_BadNumber) = true)
    (g_BadNumber : PySem.W.findIn K (.ref C_BadNumber) "__getattribute__" = some (some (.builtin "BaseException.__getattribute__")))
    (h_BadNumber : PySem.W.findIn K (.ref C_BadNumber) "__getattr__" = some none)
    (j_BadNumber : PySem.W.findIn K (.ref C_BadNumber) "__class__" = some (some (.builtin "object.__class__")))
    (m_BadNumber : PySem.W.mroIn K C_BadNumber (.type "object") = some true)
    (o_BadNumber : PySem.W.subIn K (.ref C_BadNumber) (.ref C_HeadError) = some true)
    (e_BadText : PySem.W.nsIn K mainGlobals "BadText" = some (some (.ref C_BadText)))
    (s_BadText : PySem.W.subIn K (.ref C_BadText) (.type "BaseException") = some true)
    (t_BadText : PySem.W.typeIn K (.ref C_BadText) = some (.type "type"))
    (d_BadText : PySem.W.hasDictIn K C_BadText = true)
    (x_BadText : PySem.W.excIn K C_BadText [.type "ValueError", .type "Exception", .type "BaseException", .type "object"] "ValueError.__new__" = true)
    (p_BadText : PySem.W.keepIn K (.ref C_BadText) = true)
    (g_BadText : PySem.W.findIn K (.ref C_BadText) "__getattribute__" = some (some (.builtin "BaseException.__getattribute__")))
    (h_BadText : PySem.W.findIn K (.ref C_BadText) "__getattr__" = some none)
    (j_BadText : PySem.W.findIn K (.ref C_BadText) "__class__" = some (some (.builtin "object.__class__")))
    (m_BadText : PySem.W.mroIn K C_BadText (.type "object") = some true)
    (o_BadText : PySem.W.subIn K (.ref C_BadText) (.ref C_HeadError) = some true)
    (e_HeadError : PySem.W.nsIn K mainGlobals "HeadError" = some (some (.ref C_HeadError)))
    (s_HeadError : PySem.W.subIn K (.ref C_HeadError) (.type "BaseException") = some true)
    (t_HeadError : PySem.W.typeIn K (.ref C_HeadError) = some (.type "type"))
    (d_HeadError : PySem.W.hasDictIn K C_HeadError = true)
    (yn : PySem.W.specialIn K (.builtin "object.__class__") "__get__" = some (some (.builtin "getset_descriptor.__get__"))) (yt : PySem.W.takesIn K (.builtin "object.__class__") = some true)
    (u_BadMachine_BadMachine : PySem.W.subIn K (.ref C_BadMachine) (.ref C_BadMachine) = some true)
    (u_BadMachine_BadNumber : PySem.W.subIn K (.ref C_BadMachine) (.ref C_BadNumber) = some false)
    (ne_BadMachine_BadNumber : C_BadMachine ≠ C_BadNumber)
    (u_BadMachine_BadText : PySem.W.subIn K (.ref C_BadMachine) (.ref C_BadText) = some false)
    (ne_BadMachine_BadText : C_BadMachine ≠ C_BadText)
    (u_BadNumber_BadMachine : PySem.W.subIn K (.ref C_BadNumber) (.ref C_BadMachine) = some false)
    (ne_BadNumber_BadMachine : C_BadNumber ≠ C_BadMachine)
    (u_BadNumber_BadNumber : PySem.W.subIn K (.ref C_BadNumber) (.ref C_BadNumber) = some true)
    (u_BadNumber_BadText : PySem.W.subIn K (.ref C_BadNumber) (.ref C_BadText) = some false)
    (ne_BadNumber_BadText : C_BadNumber ≠ C_BadText)
    (u_BadText_BadMachine : PySem.W.subIn K (.ref C_BadText) (.ref C_BadMachine) = some false)
    (ne_BadText_BadMachine : C_BadText ≠ C_BadMachine)
    (u_BadText_BadNumber : PySem.W.subIn K (.ref C_BadText) (.ref C_BadNumber) = some false)
    (ne_BadText_BadNumber : C_BadText ≠ C_BadNumber)
    (u_BadText_BadText : PySem.W.subIn K (.ref C_BadText) (.ref C_BadText) = some true)
    : ∃ ts : List (Str × Addr × Addr), ts.map (·.1) = (["_law_refused_right"] : List PySem.Str) ∧ (∀ t ∈ ts, PySem.W.tabIn K t.1 = some t.2 ∧ K.lookup t.2.2 = none) ∧ LawT P w K mg fa (ts.map (·.2)) 63 := by
  have M : ∀ {n : Str} {v : Value}, PySem.W.nsIn K mainGlobals n = some (some v) → mg n = some v := fun e => PySem.W.mg_of X G e
  have e := hfa.symm.trans (M alaw)
  cases e
  have B : Bt K mg := {
    n_abs := PySem.W.mg_none_of X G z_abs
    n_all := PySem.W.mg_none_of X G z_all
    n_bool := PySem.W.mg_none_of X G z_bool
    n_enumerate := PySem.W.mg_none_of X G z_enumerate
    n_int := PySem.W.mg_none_of X G z_int
    n_isinstance := PySem.W.mg_none_of X G z_isinstance
    n_len := PySem.W.mg_none_of X G z_len
    n_list := PySem.W.mg_none_of X G z_list
    n_min := PySem.W.mg_none_of X G z_min
    n_range := PySem.W.mg_none_of X G z_range
    n_repr := PySem.W.mg_none_of X G z_repr
    n_set := PySem.W.mg_none_of X G z_set
    n_sorted := PySem.W.mg_none_of X G z_sorted
    n_str := PySem.W.mg_none_of X G z_str
    n_sum := PySem.W.mg_none_of X G z_sum
    n_tuple := PySem.W.mg_none_of X G z_tuple
    n_LETTERS := ⟨_, M q_LETTERS, ⟨_, rfl⟩⟩
    n_MOST_LENGTH := ⟨_, M q_MOST_LENGTH, ⟨_, rfl⟩⟩
    n_MOST_LETTERS := ⟨_, M q_MOST_LETTERS, ⟨_, rfl⟩⟩
    n_MOST_STATES := ⟨_, M q_MOST_STATES, ⟨_, rfl⟩⟩
    n_BadMachine := ⟨C_BadMachine, _, M e_BadMachine, PySem.F.excBase_ValueError, x_BadMachine, p_BadMachine, s_BadMachine, t_BadMachine⟩
    n_BadNumber := ⟨C_BadNumber, _, M e_BadNumber, PySem.F.excBase_ValueError, x_BadNumber, p_BadNumber, s_BadNumber, t_BadNumber⟩
    n_BadText := ⟨C_BadText, _, M e_BadText, PySem.F.excBase_ValueError, x_BadText, p_BadText, s_BadText, t_BadText⟩
    k_BadMachine := ⟨_, M e_BadMachine⟩
    k_BadNumber := ⟨_, M e_BadNumber⟩
    k_BadText := ⟨_, M e_BadText⟩
    n_isa := fun c d b hT => by
      unfold isaT at hT
      split at hT
      · rename_i hcd
        obtain ⟨rfl, rfl⟩ := hcd
        cases hT
        exact ⟨_, _, M e_BadMachine, M e_BadMachine, ⟨g_BadMachine, h_BadMachine, s_BadMachine, d_BadMachine, j_BadMachine, yn, yt, m_BadMachine⟩, kit_by t_BadMachine d_BadMachine u_BadMachine_BadMachine (fun _ => rfl)⟩
      split at hT
      · rename_i hcd
        obtain ⟨rfl, rfl⟩ := hcd
        cases hT
        exact ⟨_, _, M e_BadMachine, M e_BadNumber, ⟨g_BadMachine, h_BadMachine, s_BadMachine, d_BadMachine, j_BadMachine, yn, yt, m_BadMachine⟩, kit_by t_BadNumber d_BadNumber u_BadMachine_BadNumber (fun z => absurd z ne_BadMachine_BadNumber)⟩
      split at hT
      · rename_i hcd
        obtain ⟨rfl, rfl⟩ := hcd
        cases hT
        exact ⟨_, _, M e_BadMachine, M e_BadText, ⟨g_BadMachine, h_BadMachine, s_BadMachine, d_BadMachine, j_BadMachine, yn, yt, m_BadMachine⟩, kit_by t_BadText d_BadText u_BadMachine_BadText (fun z => absurd z ne_BadMachine_BadText)⟩
      split at hT
      · rename_i hcd
        obtain ⟨rfl, rfl⟩ := hcd
        cases hT
        exact ⟨_, _, M e_BadNumber, M e_BadMachine, ⟨g_BadNumber, h_BadNumber, s_BadNumber, d_BadNumber, j_BadNumber, yn, yt, m_BadNumber⟩, kit_by t_BadMachine d_BadMachine u_BadNumber_BadMachine (fun z => absurd z ne_BadNumber_BadMachine)⟩
      split at hT
      · rename_i hcd
        obtain ⟨rfl, rfl⟩ := hcd
        cases hT
        exact ⟨_, _, M e_BadNumber, M e_BadNumber, ⟨g_BadNumber, h_BadNumber, s_BadNumber, d_BadNumber, j_BadNumber, yn, yt, m_BadNumber⟩, kit_by t_BadNumber d_BadNumber u_BadNumber_BadNumber (fun _ => rfl)⟩
      split at hT
      · rename_i hcd
        obtain ⟨rfl, rfl⟩ := hcd
        cases hT
        exact ⟨_, _, M e_BadNumber, M e_BadText, ⟨g_BadNumber, h_BadNumber, s_BadNumber, d_BadNumber, j_BadNumber, yn, yt, m_BadNumber⟩, kit_by t_BadText d_BadText u_BadNumber_BadText (fun z => absurd z ne_BadNumber_BadText)⟩
      split at hT
      · rename_i hcd
        obtain ⟨rfl, rfl⟩ := hcd
        cases hT
        exact ⟨_, _, M e_BadText, M e_BadMachine, ⟨g_BadText, h_BadText, s_BadText, d_BadText, j_BadText, yn, yt, m_BadText⟩, kit_by t_BadMachine d_BadMachine u_BadText_BadMachine (fun z => absurd z ne_BadText_BadMachine)⟩
      split at hT
      · rename_i hcd
        obtain ⟨rfl, rfl⟩ := hcd
        cases hT
        exact ⟨_, _, M e_BadText, M e_BadNumber, ⟨g_BadText, h_BadText, s_BadText, d_BadText, j_BadText, yn, yt, m_BadText⟩, kit_by t_BadNumber d_BadNumber u_BadText_BadNumber (fun z => absurd z ne_BadText_BadNumber)⟩
      split at hT
      · rename_i hcd
        obtain ⟨rfl, rfl⟩ := hcd
        cases hT
        exact ⟨_, _, M e_BadText, M e_BadText, ⟨g_BadText, h_BadText, s_BadText, d_BadText, j_BadText, yn, yt, m_BadText⟩, kit_by t_BadText d_BadText u_BadText_BadText (fun _ => rfl)⟩
      cases hT
    n_dig := zdig
    n_own := ⟨_, M e_HeadError, fun n hn C hC => by
      unfold ownT at hn
      simp only [Bool.or_eq_true, decide_eq_true_eq] at hn
      rcases hn with (rfl | rfl) | rfl
      · cases (M e_BadMachine).symm.trans hC
        exact PySem.W.exm_ref s_HeadError d_HeadError t_HeadError o_BadMachine
      · cases (M e_BadNumber).symm.trans hC
        exact PySem.W.exm_ref s_HeadError d_HeadError t_HeadError o_BadNumber
      · cases (M e_BadText).symm.trans hC
        exact PySem.W.exm_ref s_HeadError d_HeadError t_HeadError o_BadText
      ⟩ }
  have Fis_whole := fun_mk (st := topS 6) lis_whole cis_whole kis_whole
  have bis_whole := Fis_whole.binds (ps := ["value"]) fun _ _ _ _ _ _ us hl => match us, hl with | [_], _ => rfl
  have Fis_text := fun_mk (st := topS 9) lis_text cis_text kis_text
  have bis_text := Fis_text.binds (ps := ["value"]) fun _ _ _ _ _ _ us hl => match us, hl with | [_], _ => rfl
  have Fis_number := fun_mk (st := topS 14) lis_number cis_number kis_number
  have bis_number := Fis_number.binds (ps := ["value", "end"]) fun _ _ _ _ _ _ us hl => match us, hl with | [_, _], _ => rfl
  have Fare_letters := fun_mk (st := topS 15) lare_letters care_letters kare_letters
  have bare_letters := Fare_letters.binds (ps := ["value"]) fun _ _ _ _ _ _ us hl => match us, hl with | [_], _ => rfl
  have Fis_state := fun_mk (st := topS 16) lis_state cis_state kis_state
  have bis_state := Fis_state.binds (ps := ["value", "size", "many"]) fun _ _ _ _ _ _ us hl => match us, hl with | [_, _, _], _ => rfl
  have Fis_machine := fun_mk (st := topS 17) lis_machine cis_machine kis_machine
  have bis_machine := Fis_machine.binds (ps := ["value"]) fun _ _ _ _ _ _ us hl => match us, hl with | [_], _ => rfl
  have Fneed_machine := fun_mk (st := topS 18) lneed_machine cneed_machine kneed_machine
  have bneed_machine := Fneed_machine.binds (ps := ["machine"]) fun _ _ _ _ _ _ us hl => match us, hl with | [_], _ => rfl
  have Fneed_text_of := fun_mk (st := topS 19) lneed_text_of cneed_text_of kneed_text_of
  have bneed_text_of := Fneed_text_of.binds (ps := ["machine", "text"]) fun _ _ _ _ _ _ us hl => match us, hl with | [_, _], _ => rfl
  have Fled_from := fun_mk (st := topS 20) lled_from cled_from kled_from
  have bled_from := Fled_from.binds (ps := ["machine", "state", "text"]) fun _ _ _ _ _ _ us hl => match us, hl with | [_, _, _], _ => rfl
  have Flets := fun_mk (st := topS 21) llets clets klets
  have blets := Flets.binds (ps := ["machine", "text"]) fun _ _ _ _ _ _ us hl => match us, hl with | [_, _], _ => rfl
  have Fled_on := fun_mk (st := topS 22) lled_on cled_on kled_on
  have bled_on := Fled_on.binds (ps := ["machine", "text"]) fun _ _ _ _ _ _ us hl => match us, hl with | [_, _], _ => rfl
  have Ftexts_of_length := fun_mk (st := topS 23) ltexts_of_length ctexts_of_length ktexts_of_length
  have btexts_of_length := Ftexts_of_length.binds (ps := ["machine", "length"]) fun _ _ _ _ _ _ us hl => match us, hl with | [_, _], _ => rfl
  have F_law_begun := fun_mk (st := topS 25) l_law_begun c_law_begun k_law_begun
  have b_law_begun := F_law_begun.binds (ps := ["_law_script"]) fun _ _ _ _ _ _ us hl => match us, hl with | [_], _ => rfl
  have F_law_blended := fun_mk (st := topS 26) l_law_blended c_law_blended k_law_blended
  have b_law_blended := F_law_blended.binds (ps := ["_law_state"]) fun _ _ _ _ _ _ us hl => match us, hl with | [_], _ => rfl
  have F_law_draw := fun_mk (st := topS 27) l_law_draw c_law_draw k_law_draw
  have b_law_draw := F_law_draw.binds (ps := ["_law_state", "_law_room"]) fun _ _ _ _ _ _ us hl => match us, hl with | [_, _], _ => rfl
  have F_law_pick := fun_mk (st := topS 28) l_law_pick c_law_pick k_law_pick
  have b_law_pick := F_law_pick.binds (ps := ["_law_state", "_law_some"]) fun _ _ _ _ _ _ us hl => match us, hl with | [_, _], _ => rfl
  have F_law_is_truth := fun_mk (st := topS 30) l_law_is_truth c_law_is_truth k_law_is_truth
  have b_law_is_truth := F_law_is_truth.binds (ps := ["_law_found", "_law_due"]) fun _ _ _ _ _ _ us hl => match us, hl with | [_, _], _ => rfl
  have F_law_oh_same := fun_mk (st := topS 31) l_law_oh_same c_law_oh_same k_law_oh_same
  have b_law_oh_same := F_law_oh_same.binds (ps := ["_law_found", "_law_due"]) fun _ _ _ _ _ _ us hl => match us, hl with | [_, _], _ => rfl
  have F_law_oh_at := fun_mk (st := topS 32) l_law_oh_at c_law_oh_at k_law_oh_at
  have b_law_oh_at := F_law_oh_at.binds (ps := ["_law_thing", "_law_path"]) fun _ _ _ _ _ _ us hl => match us, hl with | [_, _], _ => rfl
  have F_law_oh_put := fun_mk (st := topS 33) l_law_oh_put c_law_oh_put k_law_oh_put
  have b_law_oh_put := F_law_oh_put.binds (ps := ["_law_thing", "_law_path", "_law_part"]) fun _ _ _ _ _ _ us hl => match us, hl with | [_, _, _], _ => rfl
  have F_law_oh_bent := fun_mk (st := topS 34) l_law_oh_bent c_law_oh_bent k_law_oh_bent
  have b_law_oh_bent := F_law_oh_bent.binds (ps := ["_law_state", "_law_thing"]) fun _ _ _ _ _ _ us hl => match us, hl with | [_, _], _ => rfl
  have F_law_oh_spots := fun_mk (st := topS 35) l_law_oh_spots c_law_oh_spots k_law_oh_spots
  have b_law_oh_spots := F_law_oh_spots.binds (ps := ["_law_thing", "_law_path"]) fun _ _ _ _ _ _ us hl => match us, hl with | [_, _], _ => rfl
  have F_law_oh_whole := fun_mk (st := topS 36) l_law_oh_whole c_law_oh_whole k_law_oh_whole
  have b_law_oh_whole := F_law_oh_whole.binds (ps := ["_law_thing"]) fun _ _ _ _ _ _ us hl => match us, hl with | [_], _ => rfl
  have F_law_oh_is_word := fun_mk (st := topS 37) l_law_oh_is_word c_law_oh_is_word k_law_oh_is_word
  have b_law_oh_is_word := F_law_oh_is_word.binds (ps := ["_law_thing"]) fun _ _ _ _ _ _ us hl => match us, hl with | [_], _ => rfl
  have F_law_jn_texts := fun_mk (st := topS 38) l_law_jn_texts c_law_jn_texts k_law_jn_texts
  have b_law_jn_texts := F_law_jn_texts.binds (ps := ["_law_letters_here", "_law_most"]) fun _ _ _ _ _ _ us hl => match us, hl with | [_, _], _ => rfl
  have F_law_jn_some := fun_mk (st := topS 39) l_law_jn_some c_law_jn_some k_law_jn_some
  have b_law_jn_some := F_law_jn_some.binds (ps := ["_law_state", "_law_letters_here", "_law_many", "_law_most"]) fun _ _ _ _ _ _ us hl => match us, hl with | [_, _, _, _], _ => rfl
  have F_law_jn_machine := fun_mk (st := topS 40) l_law_jn_machine c_law_jn_machine k_law_jn_machine
  have b_law_jn_machine := F_law_jn_machine.binds (ps := ["_law_state", "_law_letters_here", "_law_most"]) fun _ _ _ _ _ _ us hl => match us, hl with | [_, _, _], _ => rfl
  have F_law_jn_led := fun_mk (st := topS 41) l_law_jn_led c_law_jn_led k_law_jn_led
  have b_law_jn_led := F_law_jn_led.binds (ps := ["_law_machine", "_law_at", "_law_word"]) fun _ _ _ _ _ _ us hl => match us, hl with | [_, _, _], _ => rfl
  have F_law_jn_lets := fun_mk (st := topS 42) l_law_jn_lets c_law_jn_lets k_law_jn_lets
  have b_law_jn_lets := F_law_jn_lets.binds (ps := ["_law_machine", "_law_word"]) fun _ _ _ _ _ _ us hl => match us, hl with | [_, _], _ => rfl
  have F_law_is_machine := fun_mk (st := topS 43) l_law_is_machine c_law_is_machine k_law_is_machine
  have b_law_is_machine := F_law_is_machine.binds (ps := ["_law_thing"]) fun _ _ _ _ _ _ us hl => match us, hl with | [_], _ => rfl
  have F_law_count := fun_mk (st := topS 44) l_law_count c_law_count k_law_count
  have b_law_count := F_law_count.binds (ps := ["_law_machine", "_law_length"]) fun _ _ _ _ _ _ us hl => match us, hl with | [_, _], _ => rfl
  have F_law_refused_right := fun_mk (st := topS 45) l_law_refused_right c_law_refused_right k_law_refused_right
  have b_law_refused_right := F_law_refused_right.binds (ps := ["_law_state", "_law_machine"]) fun _ _ _ _ _ _ us hl => match us, hl with | [_, _], _ => rfl
  have F_law_caught := fun_mk (st := topS 29) l_law_caught c_law_caught k_law_caught
  have b_law_caught := F_law_caught.binds (ps := ["_law_action"]) fun _ _ _ _ _ _ us hl => match us, hl with | [_], _ => rfl
  have kbis_machine_0_value := kb_of (n := 0) (ks := ["value"]) (ps := ["value"]) (perm := [0]) Fis_machine fun _ _ _ _ _ _ us ws l1 l2 => match us, ws, l1, l2 with | [], [_], _, _ => rfl
  have kbled_on_1_text := kb_of (n := 1) (ks := ["text"]) (ps := ["machine", "text"]) (perm := [0, 1]) Fled_on fun _ _ _ _ _ _ us ws l1 l2 => match us, ws, l1, l2 with | [_], [_], _, _ => rfl
  have kblets_0_text_machine := kb_of (n := 0) (ks := ["text", "machine"]) (ps := ["machine", "text"]) (perm := [1, 0]) Flets fun _ _ _ _ _ _ us ws l1 l2 => match us, ws, l1, l2 with | [], [_, _], _, _ => rfl
  have kbtexts_of_length_0_length_machine := kb_of (n := 0) (ks := ["length", "machine"]) (ps := ["machine", "length"]) (perm := [1, 0]) Ftexts_of_length fun _ _ _ _ _ _ us ws l1 l2 => match us, ws, l1, l2 with | [], [_, _], _, _ => rfl
  have rm : Rm 14 callerA := ⟨⟨rfl, by decide, by decide⟩, rfl⟩
  have tb_law_refused_right : PySem.W.tabIn K "_law_refused_right" = some (cL_law_refused_right, tL_law_refused_right) := by
    unfold PySem.W.tabIn
    rw [a_law_refused_right]
    dsimp only
    rw [l_law_refused_right]
    dsimp only [PySem.W.fnOf]
    rw [lcL_law_refused_right]
    dsimp only
    rw [vL_law_refused_right]
  have hTs : ∀ t ∈ ([("_law_refused_right", cL_law_refused_right, tL_law_refused_right)] : List (Str × Addr × Addr)), PySem.W.tabIn K t.1 = some t.2 ∧ K.lookup t.2.2 = none := fun t ht => by
    simp only [List.mem_cons, List.not_mem_nil, or_false] at ht
    subst ht
    exact ⟨tb_law_refused_right, nL_law_refused_right⟩
  refine ⟨[("_law_refused_right", cL_law_refused_right, tL_law_refused_right)], rfl, hTs, ?_⟩
  have bind : ∀ (s : Shared) (u : Value), BindsTo s (PySem.W.fnOf "law" "law" (defArgs s_law) (defBody s_law) (defScope s_law) .none kVlaw dclaw pmlaw anlaw cdlaw ctlaw) ⟨[u], []⟩ [("_law_script", u)] := fun s u => .of_eq rfl
  refine lawT_mk (ts := [("_law_refused_right", cL_law_refused_right, tL_law_refused_right)]) (st := s_law) (f0 := f_law) (LOf := fun _ => ⟨fun _ _ _ => .ext fun _ => False, fun _ => .ext fun _ => False⟩) llaw claw sc_law bind rm (fun t ht => (hTs t ht).1) (by simp) (fun base s H KB hns TB hr => ?_) law_true
  have at_is_whole := ok_is_whole (P := P) (w := w) (base := base) Fis_whole (M ais_whole) bis_whole B  
  have h_is_whole := at_is_whole.fn
  have at_is_text := ok_is_text (P := P) (w := w) (base := base) Fis_text (M ais_text) bis_text B  
  have h_is_text := at_is_text.fn
  have at_is_number := ok_is_number (P := P) (w := w) (base := base) Fis_number (M ais_number) bis_number B h_is_whole 
  have h_is_number := at_is_number.fn
  have at_are_letters := ok_are_letters (P := P) (w := w) (base := base) Fare_letters (M aare_letters) bare_letters B h_is_text 
  have h_are_letters := at_are_letters.fn
  have at_is_state := ok_is_state (P := P) (w := w) (base := base) Fis_state (M ais_state) bis_state B h_is_number 
  have h_is_state := at_is_state.fn
  have at_is_machine := ok_is_machine (P := P) (w := w) (base := base) Fis_machine (M ais_machine) bis_machine B h_are_letters h_is_state h_is_number 
  have h_is_machine := at_is_machine.fn
  have hk_is_machine_0_value := at_is_machine.kw kbis_machine_0_value
  have at_need_machine := ok_need_machine (P := P) (w := w) (base := base) Fneed_machine (M aneed_machine) bneed_machine B h_is_machine 
  have h_need_machine := at_need_machine.fn
  have at_need_text_of := ok_need_text_of (P := P) (w := w) (base := base) Fneed_text_of (M aneed_text_of) bneed_text_of B h_is_text 
  have h_need_text_of := at_need_text_of.fn
  have at_led_from := ok_led_from (P := P) (w := w) (base := base) Fled_from (M aled_from) bled_from B  
  have h_led_from := at_led_from.fn
  have at_lets := ok_lets (P := P) (w := w) (base := base) Flets (M alets) blets B h_need_machine h_need_text_of h_led_from 
  have h_lets := at_lets.fn
  have hk_lets_0_text_machine := at_lets.kw kblets_0_text_machine
  have at_led_on := ok_led_on (P := P) (w := w) (base := base) Fled_on (M aled_on) bled_on B h_need_machine h_need_text_of h_led_from 
  have h_led_on := at_led_on.fn
  have hk_led_on_1_text := at_led_on.kw kbled_on_1_text
  have at_texts_of_length := ok_texts_of_length (P := P) (w := w) (base := base) Ftexts_of_length (M atexts_of_length) btexts_of_length B h_need_machine h_is_whole 
  have h_texts_of_length := at_texts_of_length.fn
  have hk_texts_of_length_0_length_machine := at_texts_of_length.kw kbtexts_of_length_0_length_machine
  have at__law_begun := ok__law_begun (P := P) (w := w) (base := base) F_law_begun (M a_law_begun) b_law_begun B  
  have h__law_begun := at__law_begun.fn
  have at__law_blended := ok__law_blended (P := P) (w := w) (base := base) F_law_blended (M a_law_blended) b_law_blended B  
  have h__law_blended := at__law_blended.fn
  have at__law_draw := ok__law_draw (P := P) (w := w) (base := base) F_law_draw (M a_law_draw) b_law_draw B h__law_blended 
  have h__law_draw := at__law_draw.fn
  have at__law_pick := ok__law_pick (P := P) (w := w) (base := base) F_law_pick (M a_law_pick) b_law_pick B h__law_draw 
  have h__law_pick := at__law_pick.fn
  have at__law_is_truth := ok__law_is_truth (P := P) (w := w) (base := base) F_law_is_truth (M a_law_is_truth) b_law_is_truth B  
  have h__law_is_truth := at__law_is_truth.fn
  have at__law_oh_same := ok__law_oh_same (P := P) (w := w) (base := base) F_law_oh_same (M a_law_oh_same) b_law_oh_same B  
  have h__law_oh_same := at__law_oh_same.fn
  have at__law_oh_at := ok__law_oh_at (P := P) (w := w) (base := base) F_law_oh_at (M a_law_oh_at) b_law_oh_at B  
  have h__law_oh_at := at__law_oh_at.fn
  have at__law_oh_put := (ok__law_oh_put (P := P) (w := w) (base := base) F_law_oh_put (M a_law_oh_put) b_law_oh_put B   12)
  have h__law_oh_put := at__law_oh_put.fn
  have at__law_oh_spots := (ok__law_oh_spots (P := P) (w := w) (base := base) F_law_oh_spots (M a_law_oh_spots) b_law_oh_spots B   12)
  have h__law_oh_spots := at__law_oh_spots.fn
  have at__law_oh_bent := ok__law_oh_bent (P := P) (w := w) (base := base) F_law_oh_bent (M a_law_oh_bent) b_law_oh_bent B h__law_oh_spots h__law_pick h__law_oh_at h__law_oh_put 
  have h__law_oh_bent := at__law_oh_bent.fn
  have at__law_oh_whole := ok__law_oh_whole (P := P) (w := w) (base := base) F_law_oh_whole (M a_law_oh_whole) b_law_oh_whole B  
  have h__law_oh_whole := at__law_oh_whole.fn
  have at__law_oh_is_word := ok__law_oh_is_word (P := P) (w := w) (base := base) F_law_oh_is_word (M a_law_oh_is_word) b_law_oh_is_word B  
  have h__law_oh_is_word := at__law_oh_is_word.fn
  have at__law_jn_texts := ok__law_jn_texts (P := P) (w := w) (base := base) F_law_jn_texts (M a_law_jn_texts) b_law_jn_texts B  
  have h__law_jn_texts := at__law_jn_texts.fn
  have at__law_jn_some := ok__law_jn_some (P := P) (w := w) (base := base) F_law_jn_some (M a_law_jn_some) b_law_jn_some B h__law_draw h__law_pick 
  have h__law_jn_some := at__law_jn_some.fn
  have at__law_jn_machine := ok__law_jn_machine (P := P) (w := w) (base := base) F_law_jn_machine (M a_law_jn_machine) b_law_jn_machine B h__law_draw 
  have h__law_jn_machine := at__law_jn_machine.fn
  have at__law_jn_led := ok__law_jn_led (P := P) (w := w) (base := base) F_law_jn_led (M a_law_jn_led) b_law_jn_led B  
  have h__law_jn_led := at__law_jn_led.fn
  have at__law_jn_lets := ok__law_jn_lets (P := P) (w := w) (base := base) F_law_jn_lets (M a_law_jn_lets) b_law_jn_lets B h__law_jn_led 
  have h__law_jn_lets := at__law_jn_lets.fn
  have at__law_is_machine := ok__law_is_machine (P := P) (w := w) (base := base) F_law_is_machine (M a_law_is_machine) b_law_is_machine B h__law_oh_is_word h__law_oh_whole 
  have h__law_is_machine := at__law_is_machine.fn
  have at__law_count := ok__law_count (P := P) (w := w) (base := base) F_law_count (M a_law_count) b_law_count B  
  have h__law_count := at__law_count.fn
  have at__law_refused_right := ok__law_refused_right (P := P) (w := w) (base := base) F_law_caught b_law_caught (M a_law_caught) l_law_refused_right c_law_refused_right k_law_refused_right (M a_law_refused_right) b_law_refused_right (TB ("_law_refused_right", cL_law_refused_right, tL_law_refused_right) (by simp)) tb_law_refused_right B h__law_pick h_lets h_led_on h_texts_of_length 
  have h__law_refused_right := at__law_refused_right.fn
  exact der_law B h__law_begun h__law_pick h__law_jn_machine h__law_oh_bent h__law_is_truth h_is_machine h__law_is_machine h__law_jn_some h_lets h__law_jn_lets h__law_jn_led h_led_on h__law_oh_same h__law_draw h_texts_of_length h__law_count h__law_jn_texts h__law_refused_right hk_is_machine_0_value hk_led_on_1_text hk_lets_0_text_machine hk_texts_of_length_0_length_machine hr
end K66
/-! ## L66p -/
open PySem PySem.W PyProof.Rows in
set_option maxRecDepth 100000 in
set_option maxHeartbeats 0 in
theorem PySem.Challenge.cw_oneuseheads_k66_machines_judged_and_led_holds : PySem.Challenge.rw_oneuseheads_k66_machines_judged_and_led.Holds := by
  w_on; o_law; k_head; (case hw => w_witness2)
  k_fill
  refine Tr.walk_tree (l := PySem.Challenge.rw_oneuseheads_k66_machines_judged_and_led) (n := 63) rfl (by decide) rfl (ns := [("_law_refused_right" : PySem.Str)]) (by decide +kernel) (fun w h Y => by first | exact PySem.W.kIn_of Y | exact PySem.W.km_in_of Y) ?F
  case F =>
    intro w mg fa h KX G hmg
    refine' K66.all_mk KX G hmg ?ais_whole ?lis_whole ?cis_whole ?kis_whole ?ais_text ?lis_text ?cis_text ?kis_text ?ais_number ?lis_number ?cis_number ?kis_number ?aare_letters ?lare_letters ?care_letters ?kare_letters ?ais_state ?lis_state ?cis_state ?kis_state ?ais_machine ?lis_machine ?cis_machine ?kis_machine ?aneed_machine ?lneed_machine ?cneed_machine ?kneed_machine ?aneed_text_of ?lneed_text_of ?cneed_text_of ?kneed_text_of ?aled_from ?lled_from ?cled_from ?kled_from ?alets ?llets ?clets ?klets ?aled_on ?lled_on ?cled_on ?kled_on ?atexts_of_length ?ltexts_of_length ?ctexts_of_length ?ktexts_of_length ?a_law_begun ?l_law_begun ?c_law_begun ?k_law_begun ?a_law_blended ?l_law_blended ?c_law_blended ?k_law_blended ?a_law_draw ?l_law_draw ?c_law_draw ?k_law_draw ?a_law_pick ?l_law_pick ?c_law_pick ?k_law_pick ?a_law_is_truth ?l_law_is_truth ?c_law_is_truth ?k_law_is_truth ?a_law_oh_same ?l_law_oh_same ?c_law_oh_same ?k_law_oh_same ?a_law_oh_at ?l_law_oh_at ?c_law_oh_at ?k_law_oh_at ?a_law_oh_put ?l_law_oh_put ?c_law_oh_put ?k_law_oh_put ?a_law_oh_bent ?l_law_oh_bent ?c_law_oh_bent ?k_law_oh_bent ?a_law_oh_spots ?l_law_oh_spots ?c_law_oh_spots ?k_law_oh_spots ?a_law_oh_whole ?l_law_oh_whole ?c_law_oh_whole ?k_law_oh_whole ?a_law_oh_is_word ?l_law_oh_is_word ?c_law_oh_is_word ?k_law_oh_is_word ?a_law_jn_texts ?l_law_jn_texts ?c_law_jn_texts ?k_law_jn_texts ?a_law_jn_some ?l_law_jn_some ?c_law_jn_some ?k_law_jn_some ?a_law_jn_machine ?l_law_jn_machine ?c_law_jn_machine ?k_law_jn_machine ?a_law_jn_led ?l_law_jn_led ?c_law_jn_led ?k_law_jn_led ?a_law_jn_lets ?l_law_jn_lets ?c_law_jn_lets ?k_law_jn_lets ?a_law_is_machine ?l_law_is_machine ?c_law_is_machine ?k_law_is_machine ?a_law_count ?l_law_count ?c_law_count ?k_law_count ?a_law_refused_right ?l_law_refused_right ?c_law_refused_right ?k_law_refused_right ?a_law_caught ?l_law_caught ?c_law_caught ?k_law_caught ?alaw ?llaw ?claw ?klaw ?lcL_law_refused_right ?vL_law_refused_right ?nL_law_refused_right ?zdig ?z_abs ?z_all ?z_bool ?z_enumerate ?z_int ?z_isinstance ?z_len ?z_list ?z_min ?z_range ?z_repr ?z_set ?z_sorted ?z_str ?z_sum ?z_tuple ?q_LETTERS ?q_MOST_LENGTH ?q_MOST_LETTERS ?q_MOST_STATES ?e_BadMachine ?s_BadMachine ?t_BadMachine ?d_BadMachine ?x_BadMachine ?p_BadMachine ?g_BadMachine ?h_BadMachine ?j_BadMachine ?m_BadMachine ?o_BadMachine ?e_BadNumber ?s_BadNumber ?t_BadNumber ?d_BadNumber ?x_BadNumber ?p_BadNumber ?g_BadNumber ?h_BadNumber ?j_BadNumber ?m_BadNumber ?o_BadNumber ?e_BadText ?s_BadText ?t_BadText ?d_BadText ?x_BadText ?p_BadText ?g_BadText ?h_BadText ?j_BadText ?m_BadText ?o_BadText ?e_HeadError ?s_HeadError ?t_HeadError ?d_HeadError ?yn ?yt ?u_BadMachine_BadMachine ?u_BadMachine_BadNumber ?ne_BadMachine_BadNumber ?u_BadMachine_BadText ?ne_BadMachine_BadText ?u_BadNumber_BadMachine ?ne_BadNumber_BadMachine ?u_BadNumber_BadNumber ?u_BadNumber_BadText ?ne_BadNumber_BadText ?u_BadText_BadMachine ?ne_BadText_BadMachine ?u_BadText_BadNumber ?ne_BadText_BadNumber ?u_BadText_BadText
    (case ais_whole => k_is)
    (case lis_whole => k_is)
    (case cis_whole => k_is)
    (case kis_whole => k_is)
    (case ais_text => k_is)
    (case lis_text => k_is)
    (case cis_text => k_is)
    (case kis_text => k_is)
    (case ais_number => k_is)
    (case lis_number => k_is)
    (case cis_number => k_is)
    (case kis_number => k_is)
    (case aare_letters => k_is)
    (case lare_letters => k_is)
    (case care_letters => k_is)
    (case kare_letters => k_is)
    (case ais_state => k_is)
    (case lis_state => k_is)
    (case cis_state => k_is)
    (case kis_state => k_is)
    (case ais_machine => k_is)
    (case lis_machine => k_is)
    (case cis_machine => k_is)
    (case kis_machine => k_is)
    (case aneed_machine => k_is)
    (case lneed_machine => k_is)
    (case cneed_machine => k_is)
    (case kneed_machine => k_is)
    (case aneed_text_of => k_is)
    (case lneed_text_of => k_is)
    (case cneed_text_of => k_is)
    (case kneed_text_of => k_is)
    (case aled_from => k_is)
    (case lled_from => k_is)
    (case cled_from => k_is)
    (case kled_from => k_is)
    (case alets => k_is)
    (case llets => k_is)
    (case clets => k_is)
    (case klets => k_is)
    (case aled_on => k_is)
    (case lled_on => k_is)
    (case cled_on => k_is)
    (case kled_on => k_is)
    (case atexts_of_length => k_is)
    (case ltexts_of_length => k_is)
    (case ctexts_of_length => k_is)
    (case ktexts_of_length => k_is)
    (case a_law_begun => k_is)
    (case l_law_begun => k_is)
    (case c_law_begun => k_is)
    (case k_law_begun => k_is)
    (case a_law_blended => k_is)
    (case l_law_blended => k_is)
    (case c_law_blended => k_is)
    (case k_law_blended => k_is)
    (case a_law_draw => k_is)
    (case l_law_draw => k_is)
    (case c_law_draw => k_is)
    (case k_law_draw => k_is)
    (case a_law_pick => k_is)
    (case l_law_pick => k_is)
    (case c_law_pick => k_is)
    (case k_law_pick => k_is)
    (case a_law_is_truth => k_is)
    (case l_law_is_truth => k_is)
    (case c_law_is_truth => k_is)
    (case k_law_is_truth => k_is)
    (case a_law_oh_same => k_is)
    (case l_law_oh_same => k_is)
    (case c_law_oh_same => k_is)
    (case k_law_oh_same => k_is)
    (case a_law_oh_at => k_is)
    (case l_law_oh_at => k_is)
    (case c_law_oh_at => k_is)
    (case k_law_oh_at => k_is)
    (case a_law_oh_put => k_is)
    (case l_law_oh_put => k_is)
    (case c_law_oh_put => k_is)
    (case k_law_oh_put => k_is)
    (case a_law_oh_bent => k_is)
    (case l_law_oh_bent => k_is)
    (case c_law_oh_bent => k_is)
    (case k_law_oh_bent => k_is)
    (case a_law_oh_spots => k_is)
    (case l_law_oh_spots => k_is)
    (case c_law_oh_spots => k_is)
    (case k_law_oh_spots => k_is)
    (case a_law_oh_whole => k_is)
    (case l_law_oh_whole => k_is)
    (case c_law_oh_whole => k_is)
    (case k_law_oh_whole => k_is)
    (case a_law_oh_is_word => k_is)
    (case l_law_oh_is_word => k_is)
    (case c_law_oh_is_word => k_is)
    (case k_law_oh_is_word => k_is)
    (case a_law_jn_texts => k_is)
    (case l_law_jn_texts => k_is)
    (case c_law_jn_texts => k_is)
    (case k_law_jn_texts => k_is)
    (case a_law_jn_some => k_is)
    (case l_law_jn_some => k_is)
    (case c_law_jn_some => k_is)
    (case k_law_jn_some => k_is)
    (case a_law_jn_machine => k_is)
    (case l_law_jn_machine => k_is)
    (case c_law_jn_machine => k_is)
    (case k_law_jn_machine => k_is)
    (case a_law_jn_led => k_is)
    (case l_law_jn_led => k_is)
    (case c_law_jn_led => k_is)
    (case k_law_jn_led => k_is)
    (case a_law_jn_lets => k_is)
    (case l_law_jn_lets => k_is)
    (case c_law_jn_lets => k_is)
    (case k_law_jn_lets => k_is)
    (case a_law_is_machine => k_is)
    (case l_law_is_machine => k_is)
    (case c_law_is_machine => k_is)
    (case k_law_is_machine => k_is)
    (case a_law_count => k_is)
    (case l_law_count => k_is)
    (case c_law_count => k_is)
    (case k_law_count => k_is)
    (case a_law_refused_right => k_is)
    (case l_law_refused_right => k_is)
    (case c_law_refused_right => k_is)
    (case k_law_refused_right => k_is)
    (case a_law_caught => k_is)
    (case l_law_caught => k_is)
    (case c_law_caught => k_is)
    (case k_law_caught => k_is)
    (case alaw => k_is)
    (case llaw => k_is)
    (case claw => k_is)
    (case klaw => k_is)
    (case lcL_law_refused_right => k_is)
    (case vL_law_refused_right => rfl)
    (case nL_law_refused_right => rfl)
    (case zdig => k_is)
    (case z_abs => k_is)
    (case z_all => k_is)
    (case z_bool => k_is)
    (case z_enumerate => k_is)
    (case z_int => k_is)
    (case z_isinstance => k_is)
    (case z_len => k_is)
    (case z_list => k_is)
    (case z_min => k_is)
    (case z_range => k_is)
    (case z_repr => k_is)
    (case z_set => k_is)
    (case z_sorted => k_is)
    (case z_str => k_is)
    (case z_sum => k_is)
    (case z_tuple => k_is)
    (case q_LETTERS => k_is)
    (case q_MOST_LENGTH => k_is)
    (case q_MOST_LETTERS => k_is)
    (case q_MOST_STATES => k_is)
    (case e_BadMachine => k_is)
    (case s_BadMachine => k_is)
    (case t_BadMachine => k_is)
    (case d_BadMachine => k_is)
    (case x_BadMachine => k_exc)
    (case p_BadMachine => k_is)
    (case g_BadMachine => k_is)
    (case h_BadMachine => k_is)
    (case j_BadMachine => k_is)
    (case m_BadMachine => k_is)
    (case e_BadNumber => k_is)
    (case s_BadNumber => k_is)
    (case t_BadNumber => k_is)
    (case d_BadNumber => k_is)
    (case x_BadNumber => k_exc)
    (case p_BadNumber => k_is)
    (case g_BadNumber => k_is)
    (case h_BadNumber => k_is)
    (case j_BadNumber => k_is)
    (case m_BadNumber => k_is)
    (case e_BadText => k_is)
    (case s_BadText => k_is)
    (case t_BadText => k_is)
    (case d_BadText => k_is)
    (case x_BadText => k_exc)
    (case p_BadText => k_is)
    (case g_BadText => k_is)
    (case h_BadText => k_is)
    (case j_BadText => k_is)
    (case m_BadText => k_is)
    (case e_HeadError => k_is)
    (case s_HeadError => k_is)
    (case t_HeadError => k_is)
    (case d_HeadError => k_is)
    (case yn => k_is)
    (case yt => k_is)
    (case u_BadMachine_BadMachine => k_is)
    (case u_BadMachine_BadNumber => k_is)
    (case ne_BadMachine_BadNumber => decide)
    (case u_BadMachine_BadText => k_is)
    (case ne_BadMachine_BadText => decide)
    (case u_BadNumber_BadMachine => k_is)
    (case ne_BadNumber_BadMachine => decide)
    (case u_BadNumber_BadNumber => k_is)
    (case u_BadNumber_BadText => k_is)
    (case ne_BadNumber_BadText => decide)
    (case u_BadText_BadMachine => k_is)
    (case ne_BadText_BadMachine => decide)
    (case u_BadText_BadNumber => k_is)
    (case ne_BadText_BadNumber => decide)
    (case u_BadText_BadText => k_is)
    (case o_BadMachine => k_is)
    (case o_BadNumber => k_is)
    (case o_BadText => k_is)
