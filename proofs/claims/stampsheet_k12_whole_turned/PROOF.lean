import PyProof.Rows.All
import Wide.All
import OpenK.AllK
import Wide.FinOn
import HandS.ForMost
import HandS.Exc
import HandS.ExcOwn
import HandS.TryOnly
import HandS.WordsExc
import HandS.Deep
import HandS.IsInst
import HandS.Wide
import HandS.EndBits
import HandS.Evl
import KE.SortData
import KE.KDictKeyed
import KE.KeyNested
import HandS.TupAny
import HandS.TupMul
import HandS.TupLe
import HandS.Style
import HandS.Rev
import HandS.Zip
import HandS.Conv
import HandS.TupLen
import KE.DataMinMax
import HandS.SetFor
import HandS.Strs
import HandS.SortInts
import KE.KTupSum
import HandS.ExcIs
import PyProof.Rows.TupTab
import PyProof.CallStr
import PyProof.FString2
import HandS.Codes
import KE.SortKeyHeap
import HandS.SortKw
import PySem.Challenge.RW_stampsheet_k12_whole_turned
set_option Elab.async false
set_option linter.all false
set_option maxRecDepth 100000
set_option maxHeartbeats 4000000
namespace Stm
open PySem PySem.Spec PyProof.Rows L2

/-! ### data at a heap -/
theorem seqT {K : PySem.W.Frag} {H H' : Hp} {a : Addr} {xs : List V} (e : Same H H') (h : SqT K H a xs) : SqT K H' a xs := by
  rcases h with (h | ⟨o, h⟩) | h
  · exact .inl (.inl (e _ _ h))
  · exact .inl (.inr ⟨o, e _ _ h⟩)
  · exact .inr h
mutual
theorem dpMono {K : PySem.W.Frag} {H H' : Hp} (e : Same H H') : ∀ (d : PyData) (v : V), Dp K H v d → Dp K H' v d
  | .none, _, h => by cases h; exact .non
  | .bool _, _, h => by cases h; exact .bl _
  | .int _, _, h => by cases h; exact .int _
  | .str _, _, h => by cases h; exact .str _
  | .list ds, _, h => by
    cases h with
    | lst hs ha => exact .lst (e.seq hs) (dpsMono e ds _ ha)
  | .tuple ds, _, h => by
    cases h with
    | tup hs ha => exact .tup (seqT e hs) (dpsMono e ds _ ha)
  | .dict _, _, h => by cases h
theorem dpsMono {K : PySem.W.Frag} {H H' : Hp} (e : Same H H') : ∀ (ds : List PyData) (vs : List V), DpAll K H vs ds → DpAll K H' vs ds
  | [], _, h => by cases h; exact .nil
  | d :: ds, _, h => by
    cases h with
    | cons h1 h2 => exact .cons (dpMono e d _ h1) (dpsMono e ds _ h2)
end
theorem dpsLen {K : PySem.W.Frag} {H : Hp} : ∀ {ds : List PyData} {vs : List V}, DpAll K H vs ds → vs.length = ds.length
  | [], _, h => by cases h; rfl
  | d :: ds, _, h => by
    cases h with
    | cons h1 h2 => rw [List.length_cons, List.length_cons, dpsLen h2]
theorem dpsGet {K : PySem.W.Frag} {H : Hp} : ∀ {ds : List PyData} {vs : List V} {i : Nat} {v : V}, DpAll K H vs ds → vs[i]? = some v → ∃ d, ds[i]? = some d ∧ Dp K H v d
  | [], _, i, v, h, e => by cases h; simp at e
  | d :: ds, _, 0, v, h, e => by
    cases h with
    | cons h1 h2 => simp at e; subst e; exact ⟨d, rfl, h1⟩
  | d :: ds, _, i + 1, v, h, e => by
    cases h with
    | cons h1 h2 =>
      obtain ⟨d', e1, e2⟩ := dpsGet (i := i) (v := v) h2 (by simpa using e)
      exact ⟨d', by simpa using e1, e2⟩
theorem dpsGet' {K : PySem.W.Frag} {H : Hp} : ∀ {ds : List PyData} {vs : List V} {i : Nat} {d : PyData}, DpAll K H vs ds → ds[i]? = some d → ∃ v, vs[i]? = some v ∧ Dp K H v d
  | [], _, i, v, h, e => by simp at e
  | d :: ds, _, 0, v, h, e => by
    cases h with
    | cons h1 h2 => simp at e; subst e; exact ⟨_, rfl, h1⟩
  | d :: ds, _, i + 1, v, h, e => by
    cases h with
    | cons h1 h2 =>
      obtain ⟨d', e1, e2⟩ := dpsGet' (i := i) (d := v) h2 (by simpa using e)
      exact ⟨d', by simpa using e1, e2⟩
theorem dpsApp {K : PySem.W.Frag} {H : Hp} : ∀ {ds es : List PyData} {vs ws : List V}, DpAll K H vs ds → DpAll K H ws es → DpAll K H (vs ++ ws) (ds ++ es)
  | [], _, _, _, h, g => by cases h; exact g
  | d :: ds, _, _, _, h, g => by
    cases h with
    | cons h1 h2 => exact .cons h1 (dpsApp h2 g)
theorem dpsTake {K : PySem.W.Frag} {H : Hp} : ∀ {ds : List PyData} {vs : List V} (n : Nat), DpAll K H vs ds → DpAll K H (vs.take n) (ds.take n)
  | [], _, n, h => by cases h; simp; exact .nil
  | d :: ds, _, 0, h => by simp; exact .nil
  | d :: ds, _, n + 1, h => by
    cases h with
    | cons h1 h2 => exact .cons h1 (dpsTake n h2)
theorem dpsDrop {K : PySem.W.Frag} {H : Hp} : ∀ {ds : List PyData} {vs : List V} (n : Nat), DpAll K H vs ds → DpAll K H (vs.drop n) (ds.drop n)
  | [], _, n, h => by cases h; simp; exact .nil
  | d :: ds, _, 0, h => h
  | d :: ds, _, n + 1, h => by
    cases h with
    | cons h1 h2 => exact dpsDrop n h2
theorem dpsRev {K : PySem.W.Frag} {H : Hp} : ∀ {ds : List PyData} {vs : List V}, DpAll K H vs ds → DpAll K H vs.reverse ds.reverse
  | [], _, h => by cases h; exact .nil
  | d :: ds, _, h => by
    cases h with
    | cons h1 h2 =>
      rw [List.reverse_cons, List.reverse_cons]
      exact dpsApp (dpsRev h2) (.cons h1 .nil)
theorem dpsInts {K : PySem.W.Frag} {H : Hp} : ∀ (ns : List Int), DpAll K H (ns.map V.int) (ns.map PyData.int)
  | [] => .nil
  | n :: ns => .cons (.int n) (dpsInts ns)
theorem dpsInts' {K : PySem.W.Frag} {H : Hp} : ∀ {ns : List Int} {vs : List V}, DpAll K H vs (ns.map PyData.int) → vs = ns.map V.int
  | [], _, h => by cases h; rfl
  | n :: ns, _, h => by
    cases h with
    | cons h1 h2 => cases h1; rw [dpsInts' h2]; rfl
theorem dpsBls' {K : PySem.W.Frag} {H : Hp} : ∀ {ns : List Bool} {vs : List V}, DpAll K H vs (ns.map PyData.bool) → vs = ns.map V.bl
  | [], _, h => by cases h; rfl
  | n :: ns, _, h => by
    cases h with
    | cons h1 h2 => cases h1; rw [dpsBls' h2]; rfl
theorem dpsStrs' {K : PySem.W.Frag} {H : Hp} : ∀ {ns : List Str} {vs : List V}, DpAll K H vs (ns.map PyData.str) → vs = ns.map V.str
  | [], _, h => by cases h; rfl
  | n :: ns, _, h => by
    cases h with
    | cons h1 h2 => cases h1; rw [dpsStrs' h2]; rfl
theorem dpsStrs {K : PySem.W.Frag} {H : Hp} : ∀ (ns : List Str), DpAll K H (ns.map V.str) (ns.map PyData.str)
  | [] => .nil
  | n :: ns => .cons (.str n) (dpsStrs ns)

/-! ### outcomes -/
/-- the refusals -/
inductive Ex where
  | sheet | cell | piece | number | wants | text
  deriving DecidableEq
inductive Res (α : Type) where
  | ok (a : α)
  | exc (c : Ex)
  | stuck
def Res.bind {α β : Type} (x : Res α) (f : α → Res β) : Res β :=
  match x with
  | .ok a => f a
  | .exc c => .exc c
  | .stuck => .stuck
/-- a name's state: not set, a value, a list of the def's own that it changes, a dict of its own (ints for keys; tuples for keys), each key with True -/
inductive Sl where
  | un
  | val (d : PyData)
  | own (ds : List PyData)
  | dI (ks : List Int)
  | dT (ks : List NestedKey)
abbrev Rho := List Sl
abbrev EM := Rho → Res PyData
abbrev TM := Rho → Res Bool
abbrev AM := Rho → Res (List PyData)
inductive SRes where
  | nx (ρ : Rho)
  | rt (d : PyData)
  | exc (c : Ex) (ρ : Rho)
  | stuck
abbrev SM := Rho → SRes

/-- what is fixed through a def's body: the entry's heaps -/
structure Cst where
  P : Program
  w : World
  K : PySem.W.Frag
  F0 : Hp
  H0 : Hp
  cl : Ex → Value


/-- the entries of a dict with tuple keys, each with True -/
abbrev KEnt := NestedKey × Addr
def entsOf (C : Cst) (ks : List KEnt) : Array DictEntry := (ks.map fun k => entryOfKey (nestedKind C.P C.w) (k.1, k.2, Value.bool true)).toArray
end Stm
set_option Elab.async false
set_option linter.all false
set_option maxRecDepth 100000
set_option maxHeartbeats 4000000
namespace Stm
open PySem PySem.Spec PyProof.Rows L2

/-! ### a def's state -/
def DTOk (C : Cst) (F H : Hp) (p : Addr) (ks : List NestedKey) : Prop :=
  ∃ xs : List KEnt, xs.map (·.1) = ks ∧ ks.Nodup ∧ ks.length ≤ sizeLine ∧ (p == sysModules) = false ∧ (∀ x ∈ xs, Dp C.K F (.ref x.2) x.1.data ∧ x.1.depth ≤ 8) ∧
    H p = some (.ext fun h => ∃ o es ep, h.get? p = some o ∧ o.ExactDict ∧ o.data = .dict es ep ∧ es.toList = xs.map fun k => entryOfKey (nestedKind C.P C.w) (k.1, k.2, Value.bool true))
def dIV (ks : List Int) : List (Key × V) := ks.map fun k => (Sum.inl k, V.bl true)
def SlotOk (C : Cst) (F H : Hp) : Sl → Option V → Prop
  | .un, _ => True
  | .val d, o => ∃ v, o = some v ∧ Dp C.K F v d
  | .own ds, o => ∃ p vs, o = some (.ref p) ∧ H p = some (.lst vs) ∧ F p = none ∧ C.H0 p = none ∧ DpAll C.K F vs ds
  | .dI ks, o => ∃ p, o = some (.ref p) ∧ H p = some (.dK (dIV ks)) ∧ F p = none ∧ C.H0 p = none
  | .dT ks, o => ∃ p, o = some (.ref p) ∧ DTOk C F H p ks ∧ F p = none ∧ C.H0 p = none
def isOwn : Sl → Bool
  | .un => false
  | .val _ => false
  | _ => true
structure Ag (C : Cst) (F : Hp) (ρ : Rho) (σ : L2.St) (H : Hp) : Prop where
  s0 : Same C.H0 H
  f0 : Same C.F0 F
  fh : Same F H
  nb : ∀ a, C.H0 a ≠ none → C.F0 a = none → F a = none
  len : ρ.length = σ.length
  sl : ∀ (i : Nat) (s : Sl), ρ[i]? = some s → ∃ o, σ[i]? = some o ∧ SlotOk C F H s o
  sep : ∀ (i j : Nat) (si sj : Sl) (p : Addr), i ≠ j → ρ[i]? = some si → ρ[j]? = some sj → isOwn si = true → isOwn sj = true → σ[i]? = some (some (.ref p)) → σ[j]? = some (some (.ref p)) → False
/-- on: the heap has grown, nothing that stood has changed -/
structure Xt (F H F' H' : Hp) : Prop where
  f : Same F F'
  h : Same H H'
  n : ∀ a, H a ≠ none → F a = none → F' a = none
  fh : Same F' H'
theorem Xt.refl {F H : Hp} (h : Same F H) : Xt F H F H := ⟨Same.refl _, Same.refl _, fun _ _ x => x, h⟩
theorem Xt.trans {F H F1 H1 F2 H2 : Hp} (a : Xt F H F1 H1) (b : Xt F1 H1 F2 H2) : Xt F H F2 H2 :=
  ⟨a.f.trans b.f, a.h.trans b.h, fun x h1 h2 => b.n x (fun z => h1 (a.h.free z)) (a.n x h1 h2), b.fh⟩
theorem same_new {H : Hp} {p : Addr} {o : HO} (h : H p = none) : Same H (upd H p o) := fun b x e => by
  rw [upd_ne (ne_of_none e h)]
  exact e
/-- a new object, of all that follows a part -/
theorem Xt.new {F H : Hp} {p : Addr} {o : HO} (h : Same F H) (hp : H p = none) : Xt F H (upd F p o) (upd H p o) := by
  have hf : F p = none := h.free hp
  refine ⟨same_new hf, same_new hp, fun a h1 h2 => ?_, fun b x e => ?_⟩
  · rw [upd_ne (fun z => h1 (by rw [z]; exact hp))]; exact h2
  · by_cases hb : b = p
    · subst hb; rw [upd_same] at e ⊢; exact e
    · rw [upd_ne hb] at e ⊢; exact h b x e
/-- a new object, not a part of what stays -/
theorem Xt.grow {F H : Hp} {p : Addr} {o : HO} (h : Same F H) (hp : H p = none) : Xt F H F (upd H p o) :=
  ⟨Same.refl _, same_new hp, fun _ _ x => x, h.trans (same_new hp)⟩
theorem DTOk.ext {C : Cst} {F H F' H' : Hp} {p : Addr} {ks : List NestedKey} (x : DTOk C F H p ks) (f : Same F F') (h : Same H H') : DTOk C F' H' p ks := by
  obtain ⟨xs, e, nd, len, sm, a, b⟩ := x
  exact ⟨xs, e, nd, len, sm, fun y hy => ⟨dpMono f _ _ (a y hy).1, (a y hy).2⟩, h _ _ b⟩
theorem SlotOk.ext {C : Cst} {F H F' H' : Hp} (x : Xt F H F' H') : ∀ {s : Sl} {o : Option V}, SlotOk C F H s o → SlotOk C F' H' s o
  | .un, _, _ => trivial
  | .val d, _, ⟨v, e, h⟩ => ⟨v, e, dpMono x.f _ _ h⟩
  | .own ds, _, ⟨p, vs, e, h1, h2, h3, h4⟩ => ⟨p, vs, e, x.h _ _ h1, x.n p (by rw [h1]; exact fun z => nomatch z) h2, h3, dpsMono x.f _ _ h4⟩
  | .dI ks, _, ⟨p, e, h1, h2, h3⟩ => ⟨p, e, x.h _ _ h1, x.n p (by rw [h1]; exact fun z => nomatch z) h2, h3⟩
  | .dT ks, _, ⟨p, e, h1, h2, h3⟩ => ⟨p, e, h1.ext x.f x.h, x.n p (by
      obtain ⟨xs, _, _, _, _, _, b⟩ := h1
      rw [b]; exact fun z => nomatch z) h2, h3⟩
theorem Ag.ext {C : Cst} {F H F' H' : Hp} {ρ : Rho} {σ : L2.St} (a : Ag C F ρ σ H) (x : Xt F H F' H') : Ag C F' ρ σ H' where
  s0 := a.s0.trans x.h
  f0 := a.f0.trans x.f
  fh := x.fh
  nb := fun b h1 h2 => x.n b (fun z => h1 (a.s0.free z)) (a.nb b h1 h2)
  len := a.len
  sl := fun i s e => let ⟨o, h1, h2⟩ := a.sl i s e; ⟨o, h1, h2.ext x⟩
  sep := a.sep

/-! ### readings told by functions -/
/-- a value that may be looked at: it stays, or it is a list of the def's own whose items stay -/
def Bq (C : Cst) (F H : Hp) (v : V) (d : PyData) : Prop := Dp C.K F v d ∨ ∃ p vs ds, v = .ref p ∧ d = .list ds ∧ H p = some (.lst vs) ∧ DpAll C.K F vs ds
theorem Bq.ext {C : Cst} {F H F' H' : Hp} {v : V} {d : PyData} (b : Bq C F H v d) (x : Xt F H F' H') : Bq C F' H' v d := by
  rcases b with b | ⟨p, vs, ds, e1, e2, e3, e4⟩
  · exact .inl (dpMono x.f _ _ b)
  · exact .inr ⟨p, vs, ds, e1, e2, x.h _ _ e3, dpsMono x.f _ _ e4⟩
theorem Bq.dp {C : Cst} {F H : Hp} {v : V} {d : PyData} (b : Bq C F H v d) (h : Same F H) : Dp C.K H v d := by
  rcases b with b | ⟨p, vs, ds, rfl, rfl, e3, e4⟩
  · exact dpMono h _ _ b
  · exact .lst (SqL.of e3) (dpsMono h _ _ e4)
theorem Bq.list {C : Cst} {F H : Hp} {v : V} {ds : List PyData} (b : Bq C F H v (.list ds)) (h : Same F H) : ∃ p vs, v = .ref p ∧ SqL C.K H p vs ∧ DpAll C.K F vs ds := by
  rcases b with b | ⟨p, vs, ds', rfl, e2, e3, e4⟩
  · cases b with
    | lst hs ha => exact ⟨_, _, rfl, h.seq hs, ha⟩
  · cases e2
    exact ⟨p, vs, rfl, SqL.of e3, e4⟩
theorem Bq.tup {C : Cst} {F H : Hp} {v : V} {ds : List PyData} (b : Bq C F H v (.tuple ds)) (h : Same F H) : ∃ p vs, v = .ref p ∧ SqT C.K H p vs ∧ DpAll C.K F vs ds := by
  rcases b with b | ⟨p, vs, ds', rfl, e2, e3, e4⟩
  · cases b with
    | tup hs ha => exact ⟨_, _, rfl, seqT h hs, ha⟩
  · cases e2
theorem Bq.int {C : Cst} {F H : Hp} {v : V} {i : Int} (b : Bq C F H v (.int i)) : v = .int i := by
  rcases b with b | ⟨p, vs, ds', rfl, e2, e3, e4⟩
  · cases b; rfl
  · cases e2
theorem Bq.bool {C : Cst} {F H : Hp} {v : V} {i : Bool} (b : Bq C F H v (.bool i)) : v = .bl i := by
  rcases b with b | ⟨p, vs, ds', rfl, e2, e3, e4⟩
  · cases b; rfl
  · cases e2
theorem Bq.str {C : Cst} {F H : Hp} {v : V} {i : Str} (b : Bq C F H v (.str i)) : v = .str i := by
  rcases b with b | ⟨p, vs, ds', rfl, e2, e3, e4⟩
  · cases b; rfl
  · cases e2
theorem Bq.non {C : Cst} {F H : Hp} {v : V} (b : Bq C F H v .none) : v = .non := by
  rcases b with b | ⟨p, vs, ds', rfl, e2, e3, e4⟩
  · cases b; rfl
  · cases e2
inductive BqAll (C : Cst) (F H : Hp) : List V → List PyData → Prop
  | nil : BqAll C F H [] []
  | cons {v : V} {vs : List V} {d : PyData} {ds : List PyData} : Bq C F H v d → BqAll C F H vs ds → BqAll C F H (v :: vs) (d :: ds)
theorem BqAll.ext {C : Cst} {F H F' H' : Hp} {vs : List V} {ds : List PyData} (b : BqAll C F H vs ds) (x : Xt F H F' H') : BqAll C F' H' vs ds := by
  induction b with
  | nil => exact .nil
  | cons h _ ih => exact .cons (h.ext x) ih

abbrev RE (C : Cst) : Hp → Hp → V → PyData → Prop := fun F _ v d => Dp C.K F v d
abbrev RT : Hp → Hp → Bool → Bool → Prop := fun _ _ a b => a = b
abbrev RA (C : Cst) : Hp → Hp → List V → List PyData → Prop := fun F _ vs ds => DpAll C.K F vs ds
/-- what is wanted behind an outcome -/
def RK (C : Cst) (W : WX) {α β : Type} (R : Hp → Hp → β → α → Prop) (r : Res α) (F : Hp) (σ : L2.St) (H : Hp) (Q : β → Hp → Prop) : Prop :=
  match r with
  | .ok d => ∀ v F' H', Xt F H F' H' → R F' H' v d → Q v H'
  | .exc c => ∀ F' H', Xt F H F' H' → W (C.cl c) none σ H'
  | .stuck => False
theorem RK.mono {C : Cst} {W : WX} {α β : Type} {R : Hp → Hp → β → α → Prop} {r : Res α} {F H F1 H1 : Hp} {σ : L2.St} {Q : β → Hp → Prop} (h : RK C W R r F σ H Q) (x : Xt F H F1 H1) : RK C W R r F1 σ H1 Q := by
  cases r with
  | ok d => exact fun v F' H' y q => h v F' H' (x.trans y) q
  | exc c => exact fun F' H' y => h F' H' (x.trans y)
  | stuck => exact h
theorem RK.bind {C : Cst} {W : WX} {α β γ δ : Type} {R : Hp → Hp → β → α → Prop} {R1 : Hp → Hp → δ → γ → Prop} {x : Res γ} {f : γ → Res α} {F H : Hp} {σ : L2.St} {Q : β → Hp → Prop} {Q1 : δ → Hp → Prop}
    (h : RK C W R (x.bind f) F σ H Q) (k : ∀ d v F1 H1, Xt F H F1 H1 → R1 F1 H1 v d → RK C W R (f d) F1 σ H1 Q → Q1 v H1) : RK C W R1 x F σ H Q1 := by
  cases x with
  | ok d => exact fun v F' H' y q => k d v F' H' y q (RK.mono h y)
  | exc c => exact h
  | stuck => exact h
def tE (C : Cst) (W : WX) (m : EM) : TE := fun σ H Q => ∃ ρ F, Ag C F ρ σ H ∧ RK C W (RE C) (m ρ) F σ H Q
def tQ (C : Cst) (W : WX) (m : EM) : TE := fun σ H Q => ∃ ρ F, Ag C F ρ σ H ∧ RK C W (Bq C) (m ρ) F σ H Q
def tT (C : Cst) (W : WX) (m : TM) : TT := fun σ H Q => ∃ ρ F, Ag C F ρ σ H ∧ RK C W RT (m ρ) F σ H Q
def tAs (C : Cst) (W : WX) (m : AM) : TA := fun σ H Q => ∃ ρ F, Ag C F ρ σ H ∧ RK C W (RA C) (m ρ) F σ H Q
def tBs (C : Cst) (W : WX) (m : AM) : TA := fun σ H Q => ∃ ρ F, Ag C F ρ σ H ∧ RK C W (BqAll C) (m ρ) F σ H Q

theorem pe_wk {X : Cx} {e : Expr} {t t' : TE} (h : PE X e t) (w : ∀ σ H Q, t' σ H Q → t σ H Q) : PE X e t' := ⟨fun pins s σ H Q I q => h.run pins s σ H Q I (w σ H Q q)⟩
theorem pt_wk {X : Cx} {e : Expr} {t t' : TT} (h : PT X e t) (w : ∀ σ H Q, t' σ H Q → t σ H Q) : PT X e t' := ⟨fun pins s σ H Q I q => h.run pins s σ H Q I (w σ H Q q)⟩
theorem pa_wk {X : Cx} {e : List Expr} {t t' : TA} (h : PA X e t) (w : ∀ σ H Q, t' σ H Q → t σ H Q) : PA X e t' := ⟨fun pos pins s σ H Q I q => h.run pos pins s σ H Q I (w σ H Q q)⟩
theorem ps_wk {X : Cx} {e : Stmt} {t t' : TS} (h : PS X e t) (w : ∀ D σ H, t' D σ H → t D σ H) : PS X e t' := ⟨fun pins s σ H D I q => h.run pins s σ H D I (w D σ H q)⟩
theorem pss_wk {X : Cx} {e : List Stmt} {t t' : TS} (h : PSs X e t) (w : ∀ D σ H, t' D σ H → t D σ H) : PSs X e t' := ⟨fun pins s σ H D I q => h.run pins s σ H D I (w D σ H q)⟩
/-- what stays may be looked at -/
theorem x_q {X : Cx} {C : Cst} {W : WX} {e : Expr} {m : EM} (h : PE X e (tE C W m)) : PE X e (tQ C W m) := pe_wk h fun σ H Q ⟨ρ, F, ag, k⟩ => ⟨ρ, F, ag, by
  cases hm : m ρ with
  | ok d =>
    rw [hm] at k
    exact fun v F' H' y q => k v F' H' y (.inl q)
  | exc c => rw [hm] at k; exact k
  | stuck => rw [hm] at k; exact k⟩

/-! ### names, constants -/
def mVar (i : Nat) : EM := fun ρ => match ρ[i]? with
  | some (.val d) => .ok d
  | _ => .stuck
def mOwn (i : Nat) : EM := fun ρ => match ρ[i]? with
  | some (.own ds) => .ok (.list ds)
  | some (.val d) => .ok d
  | _ => .stuck
def mC (d : PyData) : EM := fun _ => .ok d
section
variable {X : Cx} {C : Cst} {W : WX} {pos : Pos}
theorem x_var (i : Nat) {x : Str} (hN : X.N[i]? = some x := by rfl) (hv : Vis X.env.scope x := by first | exact Or.inl rfl | exact Or.inr (Or.inl rfl) | exact Or.inr (Or.inr rfl)) (hd : (x == ("__debug__" : Str)) = false := by decide)
    (hcd : (x == ("__classdict__" : Str)) = false := by decide) : PE X (.Name x pos) (tE C W (mVar i)) := pe_wk (pe_var hN hv hd hcd) fun σ H Q ⟨ρ, F, ag, k⟩ => by
  cases hr : ρ[i]? with
  | none => rw [show mVar i ρ = .stuck by unfold mVar; rw [hr]] at k; exact False.elim k
  | some s =>
    cases s with
    | val d =>
      rw [show mVar i ρ = .ok d by unfold mVar; rw [hr]] at k
      obtain ⟨o, h1, v, rfl, h2⟩ := ag.sl i _ hr
      exact ⟨v, h1, k v F H (Xt.refl ag.fh) h2⟩
    | _ => rw [show mVar i ρ = .stuck by unfold mVar; rw [hr]] at k; exact False.elim k
theorem x_own (i : Nat) {x : Str} (hN : X.N[i]? = some x := by rfl) (hv : Vis X.env.scope x := by first | exact Or.inl rfl | exact Or.inr (Or.inl rfl) | exact Or.inr (Or.inr rfl)) (hd : (x == ("__debug__" : Str)) = false := by decide)
    (hcd : (x == ("__classdict__" : Str)) = false := by decide) : PE X (.Name x pos) (tQ C W (mOwn i)) := pe_wk (pe_var hN hv hd hcd) fun σ H Q ⟨ρ, F, ag, k⟩ => by
  cases hr : ρ[i]? with
  | none => rw [show mOwn i ρ = .stuck by unfold mOwn; rw [hr]] at k; exact False.elim k
  | some s =>
    cases s with
    | val d =>
      rw [show mOwn i ρ = .ok d by unfold mOwn; rw [hr]] at k
      obtain ⟨o, h1, v, rfl, h2⟩ := ag.sl i _ hr
      exact ⟨v, h1, k v F H (Xt.refl ag.fh) (.inl h2)⟩
    | own ds =>
      rw [show mOwn i ρ = .ok (.list ds) by unfold mOwn; rw [hr]] at k
      obtain ⟨o, h1, p, vs, rfl, h2, h3, h4, h5⟩ := ag.sl i _ hr
      exact ⟨_, h1, k _ F H (Xt.refl ag.fh) (.inr ⟨p, vs, ds, rfl, rfl, h2, h5⟩)⟩
    | _ => rw [show mOwn i ρ = .stuck by unfold mOwn; rw [hr]] at k; exact False.elim k
theorem x_c {e : Expr} {v : V} {d : PyData} (h : PE X e (tC v)) (hd : ∀ F, Dp C.K F v d) : PE X e (tE C W (mC d)) := pe_wk h fun σ H Q ⟨ρ, F, ag, k⟩ => k v F H (Xt.refl ag.fh) (hd F)
theorem x_int {i : Int} {j} : PE X (.Constant (.int i) j pos) (tE C W (mC (.int i))) := x_c pe_int fun _ => .int i
theorem x_bl {i : Bool} {j} : PE X (.Constant (.bool i) j pos) (tE C W (mC (.bool i))) := x_c pe_bl fun _ => .bl i
theorem x_non {j} : PE X (.Constant .none j pos) (tE C W (mC .none)) := x_c pe_non fun _ => .non
theorem x_str {i : Str} {j} : PE X (.Constant (.str i) j pos) (tE C W (mC (.str i))) := x_c pe_str fun _ => .str i
/-- a module's constant -/
theorem x_glob {x : Str} {v : V} {u : Value} {d : PyData} (hg : Gl X x) (hm : X.mg x = some u) (r : RelV v u) (hv : ∀ F, Dp C.K F v d) (hd : (x == ("__debug__" : Str)) = false := by decide) : PE X (.Name x pos) (tE C W (mC d)) := x_c (pe_glob hg hm r hd) hv

/-! ### two operands -/
def m2 (f : PyData → PyData → Res PyData) (a b : EM) : EM := fun ρ => (a ρ).bind fun x => (b ρ).bind fun y => f x y
/-- an operation on values keeps its function -/
def RB (C : Cst) (r : R2) (f : PyData → PyData → Res PyData) : Prop :=
  ∀ (W : WX) (F : Hp) (σ : L2.St) (H : Hp) (x : V) (dx : PyData) (y : V) (dy : PyData) (Q : VK), Same F H → Bq C F H x dx → Bq C F H y dy → RK C W (RE C) (f dx dy) F σ H Q → r x y H Q
theorem two {r : R2} {f : PyData → PyData → Res PyData} {ma mb : EM} (hr : RB C r f) : ∀ σ H Q, tE C W (m2 f ma mb) σ H Q → tOp r (tQ C W ma) (tQ C W mb) σ H Q := fun σ H Q ⟨ρ, F, ag, k⟩ =>
  ⟨ρ, F, ag, RK.bind k fun d v F1 H1 x1 b1 k1 => ⟨ρ, F1, ag.ext x1, RK.bind k1 fun d' v' F2 H2 x2 b2 k2 => hr W F2 σ H2 v d v' d' Q x2.fh (b1.ext x2) b2 k2⟩⟩
theorem x_op {op : Operator} {r : R2} {f : PyData → PyData → Res PyData} {a b : Expr} {ma mb : EM} (ho : OpR X (binaryOp op) r) (hr : RB C r f) (ha : PE X a (tQ C W ma)) (hb : PE X b (tQ C W mb)) : PE X (.BinOp a op b pos) (tE C W (m2 f ma mb)) :=
  pe_wk (pe_op ho ha hb) (two hr)
theorem x_cmp {op : CmpOp} {r : R2} {f : PyData → PyData → Res PyData} {a b : Expr} {ma mb : EM} (ho : OpR X (compareOp op) r) (hr : RB C r f) (hm : behindInMarks op b = false) (ha : PE X a (tQ C W ma)) (hb : PE X b (tQ C W mb)) : PE X (.Compare a [op] [b] pos) (tE C W (m2 f ma mb)) :=
  pe_wk (pe_cmpR ho ha hb hm) (two hr)
theorem x_ix {r : R2} {f : PyData → PyData → Res PyData} {a b : Expr} {ma mb : EM} (ho : IxR X r) (hr : RB C r f) (ha : PE X a (tQ C W ma)) (hb : PE X b (tQ C W mb)) (hs : PlainIx b := by exact fun _ _ => rfl) : PE X (.Subscript a b pos) (tE C W (m2 f ma mb)) :=
  pe_wk (pe_ix ho ha hb hs) (two hr)
end
end Stm
set_option Elab.async false
set_option linter.all false
set_option maxRecDepth 100000
set_option maxHeartbeats 4000000
namespace Stm
open PySem PySem.Spec PyProof.Rows L2

/-- the greatest size that is used here -/
abbrev LIM : Nat := 100000
theorem lim_le {n : Nat} (h : n ≤ LIM) : n ≤ sizeLine := Nat.le_trans h (by decide)
theorem opOr {X : Cx} {f : Value → Value → Sem Value} {r r' : R2} (h : OpR X f r) (h' : OpR X f r') : OpR X f (fun x y H Q => r x y H Q ∨ r' x y H Q) := fun pins s σ H x y v u Q I rx ry q =>
  q.elim (h pins s σ H x y v u Q I rx ry) (h' pins s σ H x y v u Q I rx ry)

/-! ### lists, whoever holds them -/
section
variable {X : Cx}
def rCatS (K : PySem.W.Frag) : R2 := fun x y H Q => ∃ l b xs zs, x = .ref l ∧ y = .ref b ∧ SqL K H l xs ∧ SqL K H b zs ∧ xs.length + zs.length ≤ sizeLine ∧ ∀ p, H p = none → Q (.ref p) (upd H p (.lst (xs ++ zs)))
theorem op_catS : OpR X (binaryOp .Add) (rCatS X.K) := by
  intro pins s σ H x y v u Q I rx ry h
  obtain ⟨l, b, xs, zs, rfl, rfl, hH, hB, hz, q⟩ := h
  cases rx
  cases ry
  obtain ⟨its, r, ⟨⟨c1, d1, t1, sl1⟩, n, e, hc, hd, ht⟩, z⟩ := I.list hH
  obtain ⟨its2, r2, ⟨⟨c2, d2, t2, sl2⟩, n2, e2, hc2, hd2, ht2⟩, z2⟩ := I.list hB
  simp only at hc hd ht hc2 hd2 ht2
  subst hc hd ht hc2 hd2 ht2
  have hl := r.length
  have hl2 := r2.length
  refine concat_meets ⟨_, e, rfl⟩ ⟨_, e2, rfl⟩ noFill_list_add seq_list_add F.slot_list_add F.entry_list_add (F.args_list_add_2 _ _) (PyProof.Rows.list_addW l b its.toArray its2.toArray n n2 none none sl1 sl2 (by rw [List.size_toArray, List.size_toArray]; omega)) ⟨e, e2, ?_⟩
  have ea : its.toArray ++ its2.toArray = (its ++ its2).toArray := by simp
  rw [ea]
  exact ⟨.ref _, _, I.lnew (t' := s.toks) (r.append r2) (by rw [List.length_append]; omega), rfl, q _ I.fresh⟩
theorem list_extendW (l : Addr) (items : Array Value) (n : Nat) (b : Addr) (items2 : Array Value) (n2 : Nat) (sl2 : Array (Option Value)) (hc0 : ¬(!items.isEmpty && Builtin.List.listTooLong (items.size + items2.size)) = true) (hc1 : items.size ≤ sizeLine) (hs2 : items.size + items2.size ≤ sizeLine + 1) :
    Meets (Builtin.«list.extend» ⟨[.ref l, .ref b], []⟩) (fun _ R s => s.heap.get? l = some { cls := .type "list", dict := none, data := .seq items n, slots := #[] } ∧ s.heap.get? b = some { cls := .type "list", dict := none, data := .seq items2 n2, slots := sl2 } ∧
      R (.ok (.ret Value.none)) { s with heap := s.heap.update l (Obj.mapSeq fun x => x ++ items2), toks := s.toks }) :=
  .of_wp fun prog w A R s h => by
    obtain ⟨hp, g, d, tk, os⟩ := s
    obtain ⟨hl, hb, h⟩ := h
    have f1 := AutoSeq1.idx_int; have f2 := AutoSeq1.sub_tuple_tuple; have f3 := AutoSeq1.sub_list_list; have f4 := AutoSeq1.sub_tuple_list; have f5 := AutoSeq1.sub_list_tuple
    have hz' : (items ++ items2).size ≤ sizeLine + 1 := by rw [Array.size_append]; exact hs2
    wp_walk using (wpAny_updateSeq hl rfl (hz := hc1) (_hz' := hz')), wpAny_loadPart' hl, wpAny_loadPart' hb
    exact ⟨_, rfl, h⟩
/-- l.extend(b), b any list -/
def rExtS (K : PySem.W.Frag) : V → List V → Hp → VK → Prop := fun x vs H Q => ∃ l b xs zs, x = .ref l ∧ vs = [.ref b] ∧ H l = some (.lst xs) ∧ SqL K H b zs ∧ xs.length + zs.length ≤ sizeLine ∧ Q .non (upd H l (.lst (xs ++ zs)))
theorem mt_extS : MtM X "list.extend" (rExtS X.K) := by
  intro pins s σ H x vs v us Q I rx rv h
  obtain ⟨l, b, xs, zs, rfl, rfl, hH, hB, hz, q⟩ := h
  cases rx
  obtain ⟨u, rfl, ru⟩ := rv.one
  cases ru
  obtain ⟨z, its, n, r, hl, e⟩ := I.lstM hH
  obtain ⟨its2, r2, ⟨⟨c2, d2, t2, sl2⟩, n2, e2, hc2, hd2, ht2⟩, z2⟩ := I.list hB
  simp only at hc2 hd2 ht2
  subst hc2 hd2 ht2
  have hl2 := r2.length
  have hsz : its.toArray.size + its2.toArray.size ≤ sizeLine := by rw [List.size_toArray, List.size_toArray]; omega
  have hlong : ¬ (!its.toArray.isEmpty && Builtin.List.listTooLong (its.toArray.size + its2.toArray.size)) = true := by
    rw [notLongL hsz, Bool.and_false]
    exact Bool.false_ne_true
  refine call_meets F.slot_list_extend ⟨_, e, rfl⟩ F.entry_list_extend (F.args_list_extend_2 _ _)
    (list_extendW l its.toArray n b its2.toArray n2 sl2 hlong (by rw [List.size_toArray]; omega) (by omega)) ⟨e, e2, ?_⟩
  refine ⟨.non, _, I.lset (its' := its ++ its2) hH e (by simp) (r.append r2) ?_, rfl, q⟩
  rw [List.length_append]
  omega
/-- x in a tuple of data -/
def rInT (K : PySem.W.Frag) : R2 := fun x y H Q => ∃ d ds, Dp K H x d ∧ Dp K H y (.tuple ds) ∧ SeqAt.shaped d = true ∧ SeqAt.shaped (.tuple ds) = true ∧ Q (.bl (ds.any fun z => PyData.eqv z d)) H
def rNotInT (K : PySem.W.Frag) : R2 := fun x y H Q => ∃ d ds, Dp K H x d ∧ Dp K H y (.tuple ds) ∧ SeqAt.shaped d = true ∧ SeqAt.shaped (.tuple ds) = true ∧ Q (.bl (!ds.any fun z => PyData.eqv z d)) H
theorem room_inT {A : Around} {d : PyData} {ds : List PyData} (sd : SeqAt.shaped d = true) (hu : A.units + 65 < cLine) : A.units + 1 + min (PyData.depthAll ds) d.depth < cLine := by
  have h1 := SeqAt.depth_of_shaped sd
  have h2 := Nat.min_le_right (PyData.depthAll ds) d.depth
  omega
theorem op_inT (hu : X.A.units + 65 < cLine) : OpR X (compareOp .In) (rInT X.K) := by
  intro pins s σ H x y v u Q I rx ry h
  obtain ⟨d, ds, hd, he, sd, se, q⟩ := h
  obtain ⟨as, r1⟩ := Dp.reads I d x v hd rx
  obtain ⟨bs, r2⟩ := Dp.reads I (.tuple ds) y u he ry
  exact SeqAt.in_tuple_reads r2 r1 (SeqAt.canLay_of_shaped se) (SeqAt.canLay_of_shaped sd) (room_inT sd hu) ⟨.bl _, H, I, rfl, q⟩
theorem op_notInT (hu : X.A.units + 65 < cLine) : OpR X (compareOp .NotIn) (rNotInT X.K) := by
  intro pins s σ H x y v u Q I rx ry h
  obtain ⟨d, ds, hd, he, sd, se, q⟩ := h
  obtain ⟨as, r1⟩ := Dp.reads I d x v hd rx
  obtain ⟨bs, r2⟩ := Dp.reads I (.tuple ds) y u he ry
  exact SeqAt.notIn_tuple_reads r2 r1 (SeqAt.canLay_of_shaped se) (SeqAt.canLay_of_shaped sd) (room_inT sd hu) ⟨.bl _, H, I, rfl, q⟩
end

/-! ### the functions on data -/
abbrev DF := PyData → PyData → Res PyData
abbrev shp (d : PyData) : Bool := SeqAt.shaped d
def dAdd : DF
  | .int i, .int j => .ok (.int (i + j))
  | .str a, .str b => if a.length + b.length ≤ LIM then .ok (.str (a ++ b)) else .stuck
  | .tuple a, .tuple b => if a.length + b.length ≤ LIM then .ok (.tuple (a ++ b)) else .stuck
  | .list a, .list b => if a.length + b.length ≤ LIM then .ok (.list (a ++ b)) else .stuck
  | _, _ => .stuck
def dSub : DF
  | .int i, .int j => .ok (.int (i - j))
  | _, _ => .stuck
instance (i j : Int) : Decidable (IntMulOk i j) := by unfold IntMulOk; infer_instance
def dMul : DF
  | .int i, .int j => if IntMulOk i j then .ok (.int (i * j)) else .stuck
  | .tuple a, .int j => if a ≠ [] ∧ a.length ≤ 1000 ∧ 1 ≤ j ∧ j ≤ 1000 then .ok (.tuple (List.replicate j.toNat a).flatten) else .stuck
  | _, _ => .stuck
def dMod : DF
  | .int i, .int j => if j ≠ 0 then .ok (.int (i.fmod j)) else .stuck
  | _, _ => .stuck
def dFdiv : DF
  | .int i, .int j => if j ≠ 0 ∧ j.natAbs < 1073741824 then .ok (.int (i.fdiv j)) else .stuck
  | _, _ => .stuck
def dInt (p : Int → Int → Bool) : DF
  | .int i, .int j => .ok (.bool (p i j))
  | _, _ => .stuck
abbrev dLt := dInt fun i j => decide (i < j)
abbrev dLe := dInt fun i j => decide (i ≤ j)
abbrev dGt := dInt fun i j => decide (j < i)
abbrev dGe := dInt fun i j => decide (j ≤ i)
def dEq : DF := fun d e => if shp d = true ∧ shp e = true then .ok (.bool (PyData.eqv d e)) else .stuck
def dNe : DF := fun d e => if shp d = true ∧ shp e = true then .ok (.bool (!PyData.eqv d e)) else .stuck
def dIn : DF := fun d c => match c with
  | .list ds => if shp d = true ∧ shp (.list ds) = true then .ok (.bool (ds.any fun z => PyData.eqv z d)) else .stuck
  | .tuple ds => if shp d = true ∧ shp (.tuple ds) = true then .ok (.bool (ds.any fun z => PyData.eqv z d)) else .stuck
  | _ => .stuck
def dNotIn : DF := fun d c => match c with
  | .list ds => if shp d = true ∧ shp (.list ds) = true then .ok (.bool (!ds.any fun z => PyData.eqv z d)) else .stuck
  | .tuple ds => if shp d = true ∧ shp (.tuple ds) = true then .ok (.bool (!ds.any fun z => PyData.eqv z d)) else .stuck
  | _ => .stuck
def isNone : PyData → Bool
  | .none => true
  | _ => false
/-- the right operand is written: None -/
def dIsN : DF := fun d e => match e with
  | .none => .ok (.bool (isNone d))
  | _ => .stuck
def dIsNotN : DF := fun d e => match e with
  | .none => .ok (.bool (!isNone d))
  | _ => .stuck
def dIx : DF
  | .list ds, .int i => match atI ds i with
    | some d => .ok d
    | none => .stuck
  | .tuple ds, .int i => match atI ds i with
    | some d => .ok d
    | none => .stuck
  | _, _ => .stuck

theorem okK {C : Cst} {W : WX} {d : PyData} {v : V} {F H : Hp} {σ : L2.St} {Q : VK} (k : RK C W (RE C) (.ok d) F σ H Q) (h : Same F H) (hd : Dp C.K F v d) : Q v H := k v F H (Xt.refl h) hd
section
variable {C : Cst} {X : Cx}
theorem rb_add (hK : X.K = C.K) : RB C (fun x y H Q => rI0 (fun i j => .int (i + j)) x y H Q ∨ (∃ i j, x = .str i ∧ y = .str j ∧ i.length + j.length ≤ sizeLine ∧ Q (.str (i ++ j)) H) ∨ rCatA X.K x y H Q ∨ rCatS X.K x y H Q) dAdd := by
  intro W F σ H x dx y dy Q hs bx by_ k
  cases dx with
  | int i =>
    cases dy with
    | int j => exact .inl ⟨i, j, bx.int, by_.int, okK k hs (.int _)⟩
    | _ => exact False.elim k
  | str i =>
    cases dy with
    | str j =>
      unfold dAdd at k
      by_cases hl : i.length + j.length ≤ LIM
      · simp only [if_pos hl] at k
        exact .inr (.inl ⟨i, j, bx.str, by_.str, lim_le hl, okK k hs (.str _)⟩)
      · simp only [if_neg hl] at k
        exact False.elim k
    | _ => exact False.elim k
  | tuple a =>
    cases dy with
    | tuple b =>
      unfold dAdd at k
      by_cases hl : a.length + b.length ≤ LIM
      · simp only [if_pos hl] at k
        rcases bx with bx | ⟨_, _, _, _, e, _⟩
        · rcases by_ with by_ | ⟨_, _, _, _, e, _⟩
          · cases bx with
            | @tup t1 v1 _ h1 a1 =>
              cases by_ with
              | @tup t2 v2 _ h2 a2 =>
                have l1 := dpsLen a1
                have l2 := dpsLen a2
                refine .inr (.inr (.inl ⟨_, _, _, _, rfl, rfl, hK ▸ seqT hs h1, hK ▸ seqT hs h2, by rw [l1, l2]; exact lim_le hl, fun e => ?_, fun e e2 => ?_, fun e e2 p hp => ?_⟩))
                · subst e
                  cases a with
                  | nil => exact okK k hs (.tup h2 a2)
                  | cons _ _ => cases l1
                · subst e2
                  cases b with
                  | nil => rw [List.append_nil] at k; exact okK k hs (.tup h1 a1)
                  | cons _ _ => cases l2
                · have x1 := Xt.new (o := .tup (v1 ++ v2)) hs hp
                  exact k _ _ _ x1 (.tup (.inl (.inl upd_same)) (dpsMono x1.f _ _ (dpsApp a1 a2)))
          · cases e
        · cases e
      · simp only [if_neg hl] at k
        exact False.elim k
    | _ => exact False.elim k
  | list a =>
    cases dy with
    | list b =>
      unfold dAdd at k
      by_cases hl : a.length + b.length ≤ LIM
      · simp only [if_pos hl] at k
        obtain ⟨p1, v1, rfl, h1, a1⟩ := bx.list hs
        obtain ⟨p2, v2, rfl, h2, a2⟩ := by_.list hs
        have l1 := dpsLen a1
        have l2 := dpsLen a2
        refine .inr (.inr (.inr ⟨_, _, _, _, rfl, rfl, hK ▸ h1, hK ▸ h2, by rw [l1, l2]; exact lim_le hl, fun p hp => ?_⟩))
        have x1 := Xt.new (o := .lst (v1 ++ v2)) hs hp
        exact k _ _ _ x1 (.lst (.inl (.inl upd_same)) (dpsMono x1.f _ _ (dpsApp a1 a2)))
      · simp only [if_neg hl] at k
        exact False.elim k
    | _ => exact False.elim k
  | _ => cases dy <;> exact False.elim k
theorem op_addAll : OpR X (binaryOp .Add) (fun x y H Q => rI0 (fun i j => .int (i + j)) x y H Q ∨ (∃ i j, x = .str i ∧ y = .str j ∧ i.length + j.length ≤ sizeLine ∧ Q (.str (i ++ j)) H) ∨ rCatA X.K x y H Q ∨ rCatS X.K x y H Q) :=
  opOr op_add (opOr op_add_str (opOr op_catA op_catS))
theorem rb_int {r : Int → Int → V} {f : DF} (g : Int → Int → PyData) (hf : ∀ i j, f (.int i) (.int j) = .ok (g i j)) (hn : ∀ d e, (∀ i j, ¬ (d = .int i ∧ e = .int j)) → f d e = .stuck) (hv : ∀ F i j, Dp C.K F (r i j) (g i j)) : RB C (rI0 r) f := by
  intro W F σ H x dx y dy Q hs bx by_ k
  by_cases h : ∃ i j, dx = .int i ∧ dy = .int j
  · obtain ⟨i, j, rfl, rfl⟩ := h
    rw [hf] at k
    exact ⟨i, j, bx.int, by_.int, okK k hs (hv _ _ _)⟩
  · rw [hn dx dy fun i j e => h ⟨i, j, e.1, e.2⟩] at k
    exact False.elim k
theorem rb_intC {P : Int → Int → Prop} {r : Int → Int → V} {f : DF} (g : Int → Int → PyData) (hf : ∀ i j, f (.int i) (.int j) = .stuck ∨ (P i j ∧ f (.int i) (.int j) = .ok (g i j))) (hn : ∀ d e, (∀ i j, ¬ (d = .int i ∧ e = .int j)) → f d e = .stuck) (hv : ∀ F i j, Dp C.K F (r i j) (g i j)) : RB C (rI P r) f := by
  intro W F σ H x dx y dy Q hs bx by_ k
  by_cases h : ∃ i j, dx = .int i ∧ dy = .int j
  · obtain ⟨i, j, rfl, rfl⟩ := h
    rcases hf i j with e | ⟨p, e⟩
    · rw [e] at k; exact False.elim k
    · rw [e] at k
      exact ⟨i, j, bx.int, by_.int, p, okK k hs (hv _ _ _)⟩
  · rw [hn dx dy fun i j e => h ⟨i, j, e.1, e.2⟩] at k
    exact False.elim k
theorem rb_sub : RB C (rI0 fun i j => .int (i - j)) dSub := rb_int (fun i j => .int (i - j)) (fun _ _ => rfl) (fun d e h => by
  cases d <;> first | rfl | (cases e <;> first | rfl | exact absurd ⟨rfl, rfl⟩ (h _ _))) fun _ _ _ => .int _
theorem op_mulA : OpR X (binaryOp .Mult) (rI IntMulOk fun i j => .int (i * j)) := opI fun _ _ _ _ _ _ _ hc q => mul_int q hc
theorem tuple_mul1 (l : Addr) (items : Array Value) (n : Nat) (dd : Option Addr) (sl : Array (Option Value)) (u : Tok) :
    Meets (Builtin.«tuple.__mul__» ⟨[.ref l, .int 1 u], []⟩) (fun _ R s => s.heap.get? l = some { cls := .type "tuple", dict := dd, data := .seq items n, slots := sl } ∧ R (.ok (.ret (Value.ref l))) { s with heap := s.heap, toks := s.toks }) :=
  .of_wp fun prog w A R s h => by
    obtain ⟨hp, g, d, tk, os⟩ := s
    obtain ⟨hl, h⟩ := h
    have f1 := AutoSeq1.idx_int
    have c0 : (decide ((1 : Int) < -(2 ^ 63)) || decide ((1 : Int) ≥ 2 ^ 63)) = false := by decide
    have c1 : (items.isEmpty || (1 : Int) == 1) = true := by rw [show ((1 : Int) == 1) = true from rfl, Bool.or_true]
    wp_walk using wpAny_loadPart' hl
    repeat (first
      | (refine wpAny_ite_false (decide_eq_false (by rw [c0]; exact Bool.false_ne_true)) ?_; wp_walk using wpAny_loadPart' hl)
      | (refine wpAny_ite_true (decide_eq_true c1) ?_; wp_walk using wpAny_loadPart' hl))
    exact ⟨_, rfl, h⟩
def rRepT1 (K : PySem.W.Frag) : R2 := fun x y H Q => ∃ l xs, x = .ref l ∧ y = .int 1 ∧ SqT K H l xs ∧ Q (.ref l) H
theorem op_repT1 : OpR X (binaryOp .Mult) (rRepT1 X.K) := by
  intro pins s σ H x y v u Q I rx ry h
  obtain ⟨l, xs, rfl, rfl, hT, q⟩ := h
  cases rx
  obtain ⟨t, rfl⟩ := ry
  obtain ⟨its, r, ⟨⟨cls, dd, data, sl⟩, ho, hc, n, hd⟩, hs⟩ := I.tuple hT
  simp only at hc hd
  subst hc hd
  refine wpAny_binaryOp_repeat_ref (T := "tuple") (U := "int") (by decide) ⟨_, ho, rfl⟩ (fun s' => typeIs_int s' 1 t) noFill_tuple_mul F.fills_int_mul F.slot_int_rmul repeat_tuple F.slot_int_index.lookup
    (call_meets F.slot_int_rmul (typeIs_int s 1 t) F.entry_int_rmul (F.args_int_rmul_2 _ _) (int_rmul_tuple 1 t l its.toArray n dd sl)
      ⟨ho, rfl, ⟨_, ho, rfl⟩, call_meets F.slot_tuple_mul ⟨_, ho, rfl⟩ F.entry_tuple_mul (F.args_tuple_mul_2 _ _) (tuple_mul1 l its.toArray n dd sl t) ⟨ho, ?_⟩⟩)
  exact ⟨.ref l, H, I.tok s.toks, rfl, q⟩
abbrev rMulA (K : PySem.W.Frag) : R2 := fun x y H Q => rI IntMulOk (fun i j => .int (i * j)) x y H Q ∨ rRepT1 K x y H Q ∨ rRepT K x y H Q
theorem op_mulAll : OpR X (binaryOp .Mult) (rMulA X.K) := opOr op_mulA (opOr op_repT1 op_repT)
theorem dpsFlat {K : PySem.W.Frag} {H : Hp} {vs : List V} {ds : List PyData} (h : DpAll K H vs ds) : ∀ n : Nat, DpAll K H (List.replicate n vs).flatten (List.replicate n ds).flatten
  | 0 => .nil
  | n + 1 => by
    rw [List.replicate_succ, List.flatten_cons, List.replicate_succ, List.flatten_cons]
    exact dpsApp h (dpsFlat h n)
theorem rb_mul (hK : X.K = C.K) : RB C (rMulA X.K) dMul := by
  intro W F σ H x dx y dy Q hs bx by_ k
  cases dx with
  | int i =>
    cases dy with
    | int j =>
      unfold dMul at k
      by_cases h : IntMulOk i j
      · simp only [if_pos h] at k
        exact .inl ⟨i, j, bx.int, by_.int, h, okK k hs (.int _)⟩
      · simp only [if_neg h] at k; exact False.elim k
    | _ => exact False.elim k
  | tuple a =>
    cases dy with
    | int j =>
      unfold dMul at k
      by_cases h : a ≠ [] ∧ a.length ≤ 1000 ∧ 1 ≤ j ∧ j ≤ 1000
      · simp only [if_pos h] at k
        obtain ⟨h1, h2, h3, h4⟩ := h
        rcases bx with bx | ⟨_, _, _, _, e, _⟩
        · cases bx with
          | @tup t1 v1 _ g1 a1 =>
            have l1 := dpsLen a1
            by_cases e : j = 1
            · subst e
              have e1 : (List.replicate (1 : Int).toNat a).flatten = a := by
                show (List.replicate 1 a).flatten = a
                simp
              rw [e1] at k
              exact .inr (.inl ⟨t1, v1, rfl, by_.int, hK ▸ seqT hs g1, okK k hs (.tup g1 a1)⟩)
            · refine .inr (.inr ⟨t1, j, v1, rfl, by_.int, hK ▸ seqT hs g1, fun z => h1 ?_, by omega, h4, by rw [l1]; exact h2, fun p hp => ?_⟩)
              · rw [z] at l1; exact List.eq_nil_of_length_eq_zero l1.symm
              · have x1 := Xt.new (o := .tup (List.replicate j.toNat v1).flatten) hs hp
                exact k _ _ _ x1 (.tup (.inl (.inl upd_same)) (dpsMono x1.f _ _ (dpsFlat a1 _)))
        · cases e
      · simp only [if_neg h] at k; exact False.elim k
    | _ => exact False.elim k
  | _ => cases dy <;> exact False.elim k
theorem rb_mod : RB C (rI (fun _ j => j ≠ 0) fun i j => .int (i.fmod j)) dMod := rb_intC (fun i j => .int (i.fmod j)) (fun i j => by
  show (if j ≠ 0 then Res.ok (PyData.int (i.fmod j)) else .stuck) = _ ∨ _ ∧ (if j ≠ 0 then Res.ok (PyData.int (i.fmod j)) else .stuck) = _
  by_cases h : j ≠ 0
  · rw [if_pos h]; exact .inr ⟨h, rfl⟩
  · rw [if_neg h]; exact .inl rfl) (fun d e h => by cases d <;> first | rfl | (cases e <;> first | rfl | exact absurd ⟨rfl, rfl⟩ (h _ _))) fun _ _ _ => .int _
theorem rb_fdiv : RB C (rI CDivN fun i j => .int (i.fdiv j)) dFdiv := rb_intC (fun i j => .int (i.fdiv j)) (fun i j => by
  show (if j ≠ 0 ∧ j.natAbs < 1073741824 then Res.ok (PyData.int (i.fdiv j)) else .stuck) = _ ∨ _ ∧ (if j ≠ 0 ∧ j.natAbs < 1073741824 then Res.ok (PyData.int (i.fdiv j)) else .stuck) = _
  by_cases h : j ≠ 0 ∧ j.natAbs < 1073741824
  · rw [if_pos h]; exact .inr ⟨h, rfl⟩
  · rw [if_neg h]; exact .inl rfl) (fun d e h => by cases d <;> first | rfl | (cases e <;> first | rfl | exact absurd ⟨rfl, rfl⟩ (h _ _))) fun _ _ _ => .int _
theorem rb_cmp {p : Int → Int → Bool} : RB C (rI0 fun i j => .bl (p i j)) (dInt p) := rb_int (fun i j => .bool (p i j)) (fun _ _ => rfl) (fun d e h => by
  cases d <;> first | rfl | (cases e <;> first | rfl | exact absurd ⟨rfl, rfl⟩ (h _ _))) fun _ _ _ => .bl _
theorem rb_eq (hK : X.K = C.K) : RB C (rEqD X.K) dEq := by
  intro W F σ H x dx y dy Q hs bx by_ k
  unfold dEq at k
  by_cases h : shp dx = true ∧ shp dy = true
  · rw [if_pos h] at k
    exact ⟨dx, dy, hK ▸ bx.dp hs, hK ▸ by_.dp hs, h.1, h.2, okK k hs (.bl _)⟩
  · rw [if_neg h] at k; exact False.elim k
theorem rb_ne (hK : X.K = C.K) : RB C (rNeD X.K) dNe := by
  intro W F σ H x dx y dy Q hs bx by_ k
  unfold dNe at k
  by_cases h : shp dx = true ∧ shp dy = true
  · rw [if_pos h] at k
    exact ⟨dx, dy, hK ▸ bx.dp hs, hK ▸ by_.dp hs, h.1, h.2, okK k hs (.bl _)⟩
  · rw [if_neg h] at k; exact False.elim k
theorem rb_in (hK : X.K = C.K) : RB C (fun x y H Q => rInD X.K x y H Q ∨ rInT X.K x y H Q) dIn := by
  intro W F σ H x dx y dy Q hs bx by_ k
  cases dy with
  | list ds =>
    unfold dIn at k
    by_cases h : shp dx = true ∧ shp (.list ds) = true
    · simp only [if_pos h] at k
      exact .inl ⟨dx, ds, hK ▸ bx.dp hs, hK ▸ by_.dp hs, h.1, h.2, okK k hs (.bl _)⟩
    · simp only [if_neg h] at k; exact False.elim k
  | tuple ds =>
    unfold dIn at k
    by_cases h : shp dx = true ∧ shp (.tuple ds) = true
    · simp only [if_pos h] at k
      exact .inr ⟨dx, ds, hK ▸ bx.dp hs, hK ▸ by_.dp hs, h.1, h.2, okK k hs (.bl _)⟩
    · simp only [if_neg h] at k; exact False.elim k
  | _ => exact False.elim k
theorem rb_notin (hK : X.K = C.K) : RB C (fun x y H Q => rNotInD X.K x y H Q ∨ rNotInT X.K x y H Q) dNotIn := by
  intro W F σ H x dx y dy Q hs bx by_ k
  cases dy with
  | list ds =>
    unfold dNotIn at k
    by_cases h : shp dx = true ∧ shp (.list ds) = true
    · simp only [if_pos h] at k
      exact .inl ⟨dx, ds, hK ▸ bx.dp hs, hK ▸ by_.dp hs, h.1, h.2, okK k hs (.bl _)⟩
    · simp only [if_neg h] at k; exact False.elim k
  | tuple ds =>
    unfold dNotIn at k
    by_cases h : shp dx = true ∧ shp (.tuple ds) = true
    · simp only [if_pos h] at k
      exact .inr ⟨dx, ds, hK ▸ bx.dp hs, hK ▸ by_.dp hs, h.1, h.2, okK k hs (.bl _)⟩
    · simp only [if_neg h] at k; exact False.elim k
  | _ => exact False.elim k
theorem isNone_iff {F H : Hp} {v : V} {d : PyData} (b : Bq C F H v d) : decide (v = .non) = isNone d := by
  cases d with
  | none => rw [b.non]; rfl
  | int i => rw [b.int]; rfl
  | bool i => rw [b.bool]; rfl
  | str i => rw [b.str]; rfl
  | list ds =>
    rcases b with b | ⟨p, vs, ds', rfl, _⟩
    · cases b; rfl
    · rfl
  | tuple ds =>
    rcases b with b | ⟨p, vs, ds', rfl, _⟩
    · cases b; rfl
    · rfl
  | dict _ =>
    rcases b with b | ⟨p, vs, ds', rfl, _⟩
    · cases b
    · rfl
theorem rb_isN : RB C (fun x y H Q => y = .non ∧ Q (.bl (decide (x = .non))) H) dIsN := by
  intro W F σ H x dx y dy Q hs bx by_ k
  cases dy with
  | none => exact ⟨by_.non, by rw [isNone_iff bx]; exact okK k hs (.bl _)⟩
  | _ => exact False.elim k
theorem rb_isNotN : RB C (fun x y H Q => y = .non ∧ Q (.bl (!decide (x = .non))) H) dIsNotN := by
  intro W F σ H x dx y dy Q hs bx by_ k
  cases dy with
  | none => exact ⟨by_.non, by rw [isNone_iff bx]; exact okK k hs (.bl _)⟩
  | _ => exact False.elim k
theorem atI_dps {K : PySem.W.Frag} {H : Hp} {ds : List PyData} {vs : List V} {i : Int} {d : PyData} (a : DpAll K H vs ds) (h : atI ds i = some d) : ∃ v, atI vs i = some v ∧ Dp K H v d := by
  unfold atI at h ⊢
  rw [dpsLen a]
  cases e : ixN ds.length i with
  | none => rw [e] at h; cases h
  | some j =>
    rw [e] at h
    exact dpsGet' a h
theorem rb_ix (hK : X.K = C.K) : RB C (rIx X.K) dIx := by
  intro W F σ H x dx y dy Q hs bx by_ k
  cases dx with
  | list ds =>
    cases dy with
    | int i =>
      unfold dIx at k
      cases e : atI ds i with
      | none => simp only [e] at k; exact False.elim k
      | some d =>
        simp only [e] at k
        obtain ⟨p, vs, rfl, h1, a1⟩ := bx.list hs
        obtain ⟨v, e1, e2⟩ := atI_dps a1 e
        exact .inl ⟨p, vs, i, v, rfl, by_.int, hK ▸ h1, e1, okK k hs e2⟩
    | _ => exact False.elim k
  | tuple ds =>
    cases dy with
    | int i =>
      unfold dIx at k
      cases e : atI ds i with
      | none => simp only [e] at k; exact False.elim k
      | some d =>
        simp only [e] at k
        obtain ⟨p, vs, rfl, h1, a1⟩ := bx.tup hs
        obtain ⟨v, e1, e2⟩ := atI_dps a1 e
        exact .inr (.inl ⟨p, vs, i, v, rfl, by_.int, hK ▸ h1, e1, okK k hs e2⟩)
    | _ => exact False.elim k
  | _ => cases dy <;> exact False.elim k
end
end Stm
set_option Elab.async false
set_option linter.all false
set_option maxRecDepth 100000
set_option maxHeartbeats 4000000
namespace Stm
open PySem PySem.Spec PyProof.Rows L2

/-! ### tests -/
def toB : PyData → Res Bool
  | .bool b => .ok b
  | _ => .stuck
def mB (m : EM) : TM := fun ρ => (m ρ).bind toB
def mAnd (a b : TM) : TM := fun ρ => (a ρ).bind fun c => if c = true then b ρ else .ok false
def mOr (a b : TM) : TM := fun ρ => (a ρ).bind fun c => if c = true then .ok true else b ρ
def mNot (a : TM) : TM := fun ρ => (a ρ).bind fun c => .ok (!c)
def mAndV (a b : EM) : EM := fun ρ => (a ρ).bind fun x => (toB x).bind fun c => if c = true then b ρ else .ok (.bool false)
def mOrV (a b : EM) : EM := fun ρ => (a ρ).bind fun x => (toB x).bind fun c => if c = true then .ok (.bool true) else b ρ
def mNotV (a : EM) : EM := fun ρ => (a ρ).bind fun x => (toB x).bind fun c => .ok (.bool (!c))
/-- a < b < c -/
def mCh (f g : DF) (a b c : EM) : EM := fun ρ => (a ρ).bind fun x => (b ρ).bind fun y => (f x y).bind fun z => (toB z).bind fun k => if k = true then (c ρ).bind fun w => g y w else .ok (.bool false)
section
variable {X : Cx} {C : Cst} {W : WX} {pos : Pos} {a b c e : Expr} {ma mb mc : EM} {ta tb : TM} {rest : List Expr}
theorem toB_bl {F H : Hp} {v : V} {d : PyData} {k : Bool} (h : Dp C.K F v d) (e : toB d = .ok k) : v = .bl k := by
  cases d with
  | bool b => cases h; cases e; rfl
  | _ => cases e
theorem wB : ∀ σ H Q, tT C W (mB ma) σ H Q → tB (tE C W ma) σ H Q := fun σ H Q ⟨ρ, F, ag, k⟩ => ⟨ρ, F, ag, RK.bind k fun d v F1 H1 x1 b1 k1 => by
  cases hd : toB d with
  | ok q => rw [hd] at k1; exact ⟨q, toB_bl (F := F1) (H := H1) b1 hd, k1 q F1 H1 (Xt.refl x1.fh) rfl⟩
  | exc c => cases d <;> cases hd
  | stuck => rw [hd] at k1; exact False.elim k1⟩
theorem x_t (h : PE X e (tE C W ma)) (he : ∀ whole, isTrue e X.env whole = (do let v ← whole; standAt e.pos; holding [v] (truthy v)) := by intro _; rfl) : PT X e (tT C W (mB ma)) := pt_wk (pt_val h he) wB
theorem x_tcmp {op : CmpOp} {r : R2} {f : DF} (ho : OpR X (compareOp op) r) (hr : RB C r f) (hm : behindInMarks op b = false) (ha : PE X a (tQ C W ma)) (hb : PE X b (tQ C W mb)) : PT X (.Compare a [op] [b] pos) (tT C W (mB (m2 f ma mb))) :=
  pt_wk (pt_cmpR ho ha hb hm) fun σ H Q h => two hr σ H _ (wB σ H Q h)
theorem x_not (h : PT X a (tT C W ta)) : PT X (.UnaryOp .Not a pos) (tT C W (mNot ta)) := pt_wk (pt_not h) fun σ H Q ⟨ρ, F, ag, k⟩ => ⟨ρ, F, ag, RK.bind k fun d v F1 H1 x1 (b1 : v = d) k1 => by
  subst b1
  exact k1 _ F1 H1 (Xt.refl x1.fh) rfl⟩
theorem x_and1 (h : PT X a (tT C W ta)) : PW X (.BoolOp .And [a] pos) (tT C W ta) := pw_and1 h
theorem x_or1 (h : PT X a (tT C W ta)) : PW X (.BoolOp .Or [a] pos) (tT C W ta) := pw_or1 h
theorem pw_wk {t t' : TT} (h : PW X e t) (w : ∀ σ H Q, t' σ H Q → t σ H Q) : PW X e t' := ⟨fun wh pins s σ H Q I q => h.run wh pins s σ H Q I (w σ H Q q)⟩
theorem x_and (h : PT X a (tT C W ta)) (g : PW X (.BoolOp .And (b :: rest) pos) (tT C W tb)) : PW X (.BoolOp .And (a :: b :: rest) pos) (tT C W (mAnd ta tb)) := pw_wk (pw_and h g) fun σ H Q ⟨ρ, F, ag, k⟩ => ⟨ρ, F, ag, RK.bind k fun d v F1 H1 x1 (b1 : v = d) k1 => by
  subst b1
  cases v with
  | true => exact ⟨ρ, F1, ag.ext x1, k1⟩
  | false => exact k1 _ F1 H1 (Xt.refl x1.fh) rfl⟩
theorem x_or (h : PT X a (tT C W ta)) (g : PW X (.BoolOp .Or (b :: rest) pos) (tT C W tb)) : PW X (.BoolOp .Or (a :: b :: rest) pos) (tT C W (mOr ta tb)) := pw_wk (pw_or h g) fun σ H Q ⟨ρ, F, ag, k⟩ => ⟨ρ, F, ag, RK.bind k fun d v F1 H1 x1 (b1 : v = d) k1 => by
  subst b1
  cases v with
  | true => exact k1 _ F1 H1 (Xt.refl x1.fh) rfl
  | false => exact ⟨ρ, F1, ag.ext x1, k1⟩⟩
theorem toBbind {F H : Hp} {σ : L2.St} {α β : Type} {R : Hp → Hp → β → α → Prop} {Q : β → Hp → Prop} {d : PyData} {v : V} {f : Bool → Res α} (hv : Dp C.K F v d) (k : RK C W R ((toB d).bind f) F σ H Q) : ∃ c, v = .bl c ∧ RK C W R (f c) F σ H Q := by
  cases d with
  | bool q => cases hv; exact ⟨q, rfl, k⟩
  | _ => exact False.elim k
theorem x_one {op} (h : PE X a (tE C W ma)) : PE X (.BoolOp op [a] pos) (tE C W ma) := pe_one h
theorem x_andV (h : PE X a (tE C W ma)) (g : PE X (.BoolOp .And (b :: rest) pos) (tE C W mb)) : PE X (.BoolOp .And (a :: b :: rest) pos) (tE C W (mAndV ma mb)) := pe_wk (pe_and h g) fun σ H Q ⟨ρ, F, ag, k⟩ => ⟨ρ, F, ag, RK.bind k fun d v F1 H1 x1 b1 k1 => by
  obtain ⟨c, e, k2⟩ := toBbind b1 k1
  refine ⟨c, e, ?_⟩
  cases c with
  | true => exact ⟨ρ, F1, ag.ext x1, k2⟩
  | false => exact k2 _ F1 H1 (Xt.refl x1.fh) (.bl _)⟩
theorem x_orV (h : PE X a (tE C W ma)) (g : PE X (.BoolOp .Or (b :: rest) pos) (tE C W mb)) : PE X (.BoolOp .Or (a :: b :: rest) pos) (tE C W (mOrV ma mb)) := pe_wk (pe_or h g) fun σ H Q ⟨ρ, F, ag, k⟩ => ⟨ρ, F, ag, RK.bind k fun d v F1 H1 x1 b1 k1 => by
  obtain ⟨c, e, k2⟩ := toBbind b1 k1
  refine ⟨c, e, ?_⟩
  cases c with
  | true => exact k2 _ F1 H1 (Xt.refl x1.fh) (.bl _)
  | false => exact ⟨ρ, F1, ag.ext x1, k2⟩⟩
theorem x_notV (h : PE X a (tE C W ma)) : PE X (.UnaryOp .Not a pos) (tE C W (mNotV ma)) := pe_wk (pe_not h) fun σ H Q ⟨ρ, F, ag, k⟩ => ⟨ρ, F, ag, RK.bind k fun d v F1 H1 x1 b1 k1 => by
  obtain ⟨c, e, k2⟩ := toBbind b1 k1
  exact ⟨c, e, k2 _ F1 H1 (Xt.refl x1.fh) (.bl _)⟩⟩
theorem three {r r' : R2} {f g : DF} (hr : RB C r f) (hr' : RB C r' g) : ∀ σ H Q, tE C W (mCh f g ma mb mc) σ H Q → tChain r r' (tQ C W ma) (tQ C W mb) (tQ C W mc) σ H Q := fun σ H Q ⟨ρ, F, ag, k⟩ =>
  ⟨ρ, F, ag, RK.bind k fun d v F1 H1 x1 b1 k1 => ⟨ρ, F1, ag.ext x1, RK.bind k1 fun d' v' F2 H2 x2 b2 k2 => hr W F2 σ H2 v d v' d' _ x2.fh (b1.ext x2) b2 (RK.bind k2 fun d3 v3 F3 H3 x3 b3 k3 => by
    obtain ⟨q, e, k4⟩ := toBbind b3 k3
    refine ⟨q, e, ?_⟩
    cases q with
    | true => exact ⟨ρ, F3, ((ag.ext x1).ext x2).ext x3, RK.bind k4 fun d4 v4 F4 H4 x4 b4 k5 => hr' W F4 σ H4 v' d' v4 d4 Q x4.fh ((b2.ext x3).ext x4) b4 k5⟩
    | false => exact k4 _ F3 H3 (Xt.refl x3.fh) (.bl _))⟩⟩
theorem x_chain {op op' : CmpOp} {r r' : R2} {f g : DF} (ho : OpR X (compareOp op) r) (ho' : OpR X (compareOp op') r') (hr : RB C r f) (hr' : RB C r' g) (ha : PE X a (tQ C W ma)) (hb : PE X b (tQ C W mb)) (hc : PE X c (tQ C W mc))
    (hm : lastMarks [op, op'] [b, c] = false := by with_unfolding_all rfl) : PE X (.Compare a [op, op'] [b, c] pos) (tE C W (mCh f g ma mb mc)) := pe_wk (pe_chain ho ho' ha hb hc hm) (three hr hr')
theorem x_tchain {op op' : CmpOp} {r r' : R2} {f g : DF} (ho : OpR X (compareOp op) r) (ho' : OpR X (compareOp op') r') (hr : RB C r f) (hr' : RB C r' g) (ha : PE X a (tQ C W ma)) (hb : PE X b (tQ C W mb)) (hc : PE X c (tQ C W mc))
    (hm : lastMarks [op, op'] [b, c] = false := by with_unfolding_all rfl) : PT X (.Compare a [op, op'] [b, c] pos) (tT C W (mB (mCh f g ma mb mc))) := pt_wk (pt_chain ho ho' ha hb hc hm) fun σ H Q h => three hr hr' σ H _ (wB σ H Q h)
end

/-! ### arguments, displays -/
def mNil : AM := fun _ => .ok []
def mCons (a : EM) (r : AM) : AM := fun ρ => (a ρ).bind fun x => (r ρ).bind fun xs => .ok (x :: xs)
def mTup (r : AM) : EM := fun ρ => (r ρ).bind fun xs => if xs.length ≤ LIM then .ok (.tuple xs) else .stuck
def mLst (r : AM) : EM := fun ρ => (r ρ).bind fun xs => if xs.length ≤ LIM then .ok (.list xs) else .stuck
def mCB (f : List PyData → Res PyData) (r : AM) : EM := fun ρ => (r ρ).bind f
section
variable {X : Cx} {C : Cst} {W : WX} {pos : Pos} {e : Expr} {es : List Expr} {m : EM} {ms : AM}
theorem xs_nil : PA X [] (tAs C W mNil) := pa_wk pa_nil fun σ H Q ⟨ρ, F, ag, k⟩ => k [] F H (Xt.refl ag.fh) .nil
theorem xs_cons (h : PE X e (tE C W m)) (g : PA X es (tAs C W ms)) (hs : starEach (e :: es) X.env = (false, eval e X.env) :: starEach es X.env := by rfl) : PA X (e :: es) (tAs C W (mCons m ms)) :=
  pa_wk (pa_cons h g hs) fun σ H Q ⟨ρ, F, ag, k⟩ => ⟨ρ, F, ag, RK.bind k fun d v F1 H1 x1 b1 k1 => ⟨ρ, F1, ag.ext x1, RK.bind k1 fun d2 v2 F2 H2 x2 b2 k2 => k2 _ F2 H2 (Xt.refl x2.fh) (.cons (dpMono x2.f _ _ b1) b2)⟩⟩
theorem qs_nil : PA X [] (tBs C W mNil) := pa_wk pa_nil fun σ H Q ⟨ρ, F, ag, k⟩ => k [] F H (Xt.refl ag.fh) .nil
theorem qs_cons (h : PE X e (tQ C W m)) (g : PA X es (tBs C W ms)) (hs : starEach (e :: es) X.env = (false, eval e X.env) :: starEach es X.env := by rfl) : PA X (e :: es) (tBs C W (mCons m ms)) :=
  pa_wk (pa_cons h g hs) fun σ H Q ⟨ρ, F, ag, k⟩ => ⟨ρ, F, ag, RK.bind k fun d v F1 H1 x1 b1 k1 => ⟨ρ, F1, ag.ext x1, RK.bind k1 fun d2 v2 F2 H2 x2 b2 k2 => k2 _ F2 H2 (Xt.refl x2.fh) (.cons (b1.ext x2) b2)⟩⟩
theorem x_tup {x1} (h : PA X es (tAs C W ms)) : PE X (.Tuple es x1 pos) (tE C W (mTup ms)) := pe_wk (pe_tup h) fun σ H Q ⟨ρ, F, ag, k⟩ => ⟨ρ, F, ag, RK.bind k fun ds vs F1 H1 x1 b1 k1 => by
  by_cases hl : ds.length ≤ LIM
  · simp only [if_pos hl] at k1
    have e := dpsLen b1
    refine ⟨by rw [e]; exact lim_le hl, fun p hp => ?_⟩
    have y := Xt.new (o := .tup vs) x1.fh hp
    exact k1 _ _ _ y (.tup (.inl (.inl upd_same)) (dpsMono y.f _ _ b1))
  · simp only [if_neg hl] at k1; exact False.elim k1⟩
theorem x_lst (h : PA X es (tAs C W ms)) : PE X (.List es pos) (tE C W (mLst ms)) := pe_wk (pe_lst h) fun σ H Q ⟨ρ, F, ag, k⟩ => ⟨ρ, F, ag, RK.bind k fun ds vs F1 H1 x1 b1 k1 => by
  by_cases hl : ds.length ≤ LIM
  · simp only [if_pos hl] at k1
    have e := dpsLen b1
    refine ⟨by rw [e]; exact lim_le hl, fun p hp => ?_⟩
    have y := Xt.new (o := .lst vs) x1.fh hp
    exact k1 _ _ _ y (.lst (.inl (.inl upd_same)) (dpsMono y.f _ _ b1))
  · simp only [if_neg hl] at k1; exact False.elim k1⟩

/-! ### built-in calls -/
def RCB (C : Cst) (r : List V → Hp → VK → Prop) (f : List PyData → Res PyData) : Prop :=
  ∀ (W : WX) (F : Hp) (σ : L2.St) (H : Hp) (vs : List V) (ds : List PyData) (Q : VK), Same F H → BqAll C F H vs ds → RK C W (RE C) (f ds) F σ H Q → r vs H Q
variable {x : Str} {p : Pos} {id T : String} {r : List V → Hp → VK → Prop} {f : List PyData → Res PyData}
theorem x_cb (hc : CallR X (.builtin id) r) (hr : RCB C r f) (hg : Gl X x) (hm : X.mg x = none) (hv : bootBuiltins x = some (.builtin id)) (ha : PA X (e :: es) (tBs C W ms)) (hn : x ≠ "__name__" := by decide) (hdb : (x == ("__debug__" : Str)) = false := by decide)
    (he : starEach (e :: es) X.env = (false, eval e X.env) :: starEach es X.env := by rfl) (hpl : (backTo pos (starEach es X.env)).any (·.1) = false := by rfl) : PE X (.Call (.Name x p) (e :: es) [] pos) (tE C W (mCB f ms)) :=
  pe_wk (pe_callB hc hg hm hv ha hn hdb he hpl) fun σ H Q ⟨ρ, F, ag, k⟩ => ⟨ρ, F, ag, RK.bind k fun ds vs F1 H1 x1 b1 k1 => hr W F1 σ H1 vs ds Q x1.fh b1 k1⟩
theorem x_cty (hc : CallR X (.type T) r) (hr : RCB C r f) (hg : Gl X x) (hm : X.mg x = none) (hv : bootBuiltins x = some (.type T)) (ha : PA X (e :: es) (tBs C W ms)) (hn : x ≠ "__name__" := by decide) (hdb : (x == ("__debug__" : Str)) = false := by decide)
    (he : starEach (e :: es) X.env = (false, eval e X.env) :: starEach es X.env := by rfl) (hpl : (backTo pos (starEach es X.env)).any (·.1) = false := by rfl) : PE X (.Call (.Name x p) (e :: es) [] pos) (tE C W (mCB f ms)) :=
  pe_wk (pe_callTy hc hg hm hv ha hn hdb he hpl) fun σ H Q ⟨ρ, F, ag, k⟩ => ⟨ρ, F, ag, RK.bind k fun ds vs F1 H1 x1 b1 k1 => hr W F1 σ H1 vs ds Q x1.fh b1 k1⟩
end
def dLen : List PyData → Res PyData
  | [.list ds] => .ok (.int ds.length)
  | [.tuple ds] => .ok (.int ds.length)
  | [.str z] => if z.length ≤ LIM then .ok (.int z.length) else .stuck
  | _ => .stuck
/-- a list of ints -/
def intsOf : List PyData → Option (List Int)
  | [] => some []
  | .int i :: r => (intsOf r).map (i :: ·)
  | _ :: _ => none
theorem intsOf_eq : ∀ {ds : List PyData} {ns : List Int}, intsOf ds = some ns → ds = ns.map PyData.int
  | [], ns, h => by cases h; rfl
  | .int i :: r, ns, h => by
    unfold intsOf at h
    cases e : intsOf r with
    | none => rw [e] at h; cases h
    | some q =>
      rw [e] at h
      cases h
      rw [intsOf_eq e]; rfl
  | .none :: _, _, h => by cases h
  | .bool _ :: _, _, h => by cases h
  | .str _ :: _, _, h => by cases h
  | .list _ :: _, _, h => by cases h
  | .tuple _ :: _, _, h => by cases h
  | .dict _ :: _, _, h => by cases h
theorem intsOf_map : ∀ ns : List Int, intsOf (ns.map PyData.int) = some ns
  | [] => rfl
  | n :: ns => by
    show (intsOf (ns.map PyData.int)).map (n :: ·) = _
    rw [intsOf_map ns]; rfl
def boolsOf : List PyData → Option (List Bool)
  | [] => some []
  | .bool i :: r => (boolsOf r).map (i :: ·)
  | _ :: _ => none
theorem boolsOf_eq : ∀ {ds : List PyData} {ns : List Bool}, boolsOf ds = some ns → ds = ns.map PyData.bool
  | [], ns, h => by cases h; rfl
  | .bool i :: r, ns, h => by
    unfold boolsOf at h
    cases e : boolsOf r with
    | none => rw [e] at h; cases h
    | some q =>
      rw [e] at h
      cases h
      rw [boolsOf_eq e]; rfl
  | .none :: _, _, h => by cases h
  | .int _ :: _, _, h => by cases h
  | .str _ :: _, _, h => by cases h
  | .list _ :: _, _, h => by cases h
  | .tuple _ :: _, _, h => by cases h
  | .dict _ :: _, _, h => by cases h
theorem boolsOf_map : ∀ ns : List Bool, boolsOf (ns.map PyData.bool) = some ns
  | [] => rfl
  | n :: ns => by
    show (boolsOf (ns.map PyData.bool)).map (n :: ·) = _
    rw [boolsOf_map ns]; rfl
def dSum : List PyData → Res PyData
  | [.list ds] => match intsOf ds with
    | some ns => .ok (.int ns.sum)
    | none => .stuck
  | _ => .stuck
def dAll : List PyData → Res PyData
  | [.list ds] => match boolsOf ds with
    | some ns => .ok (.bool (ns.all id))
    | none => .stuck
  | _ => .stuck
def maxL : List Int → Int
  | [] => 0
  | [x] => x
  | x :: r => max x (maxL r)
theorem maxL_mem : ∀ {ns : List Int}, ns ≠ [] → maxL ns ∈ ns
  | [], h => absurd rfl h
  | [x], _ => by simp [maxL]
  | x :: y :: r, _ => by
    have h := maxL_mem (ns := y :: r) (by simp)
    show max x (maxL (y :: r)) ∈ _
    by_cases g : x ≤ maxL (y :: r)
    · rw [Int.max_eq_right g]; exact List.mem_cons_of_mem _ h
    · rw [Int.max_eq_left (by omega)]; exact List.mem_cons_self
theorem maxL_le : ∀ {ns : List Int}, ∀ y ∈ ns, y ≤ maxL ns
  | [], y, h => by cases h
  | [x], y, h => by
    have : y = x := by simpa using h
    rw [this]; exact Int.le_refl _
  | x :: z :: r, y, h => by
    show y ≤ max x (maxL (z :: r))
    rcases List.mem_cons.mp h with e | e
    · rw [e]; exact Int.le_max_left _ _
    · exact Int.le_trans (maxL_le y e) (Int.le_max_right _ _)
def dMax : List PyData → Res PyData
  | [.list ds] => match intsOf ds with
    | some ns => if ns = [] then .stuck else .ok (.int (maxL ns))
    | none => .stuck
  | _ => .stuck
def dMax2 : List PyData → Res PyData
  | [.int i, .int j] => .ok (.int (if j > i then j else i))
  | _ => .stuck
def dMin2 : List PyData → Res PyData
  | [.int i, .int j] => .ok (.int (if j < i then j else i))
  | _ => .stuck
def dToInt : List PyData → Res PyData
  | [.int i] => .ok (.int i)
  | [.bool b] => .ok (.int (if b then 1 else 0))
  | _ => .stuck
def dToList : List PyData → Res PyData
  | [.list ds] => .ok (.list ds)
  | [.tuple ds] => .ok (.list ds)
  | _ => .stuck
def dToTup : List PyData → Res PyData
  | [.list ds] => .ok (.tuple ds)
  | [.tuple ds] => .ok (.tuple ds)
  | _ => .stuck
section
variable {X : Cx} {C : Cst}
theorem bq1 {F H : Hp} {vs : List V} {d : PyData} (b : BqAll C F H vs [d]) : ∃ v, vs = [v] ∧ Bq C F H v d := by
  cases b with
  | cons h t => cases t; exact ⟨_, rfl, h⟩
theorem bq2 {F H : Hp} {vs : List V} {d e : PyData} (b : BqAll C F H vs [d, e]) : ∃ v w, vs = [v, w] ∧ Bq C F H v d ∧ Bq C F H w e := by
  cases b with
  | cons h t => cases t with
    | cons h2 t => cases t; exact ⟨_, _, rfl, h, h2⟩
/-- one argument -/
theorem rc1 {r : List V → Hp → VK → Prop} {f : List PyData → Res PyData} (hn : ∀ ds, (∀ d, ds ≠ [d]) → f ds = .stuck)
    (h : ∀ (W : WX) (F : Hp) (σ : L2.St) (H : Hp) (v : V) (d : PyData) (Q : VK), Same F H → Bq C F H v d → RK C W (RE C) (f [d]) F σ H Q → r [v] H Q) : RCB C r f := by
  intro W F σ H vs ds Q hs b k
  by_cases e : ∃ d, ds = [d]
  · obtain ⟨d, rfl⟩ := e
    obtain ⟨v, rfl, b1⟩ := bq1 b
    exact h W F σ H v d Q hs b1 k
  · rw [hn ds fun d q => e ⟨d, q⟩] at k
    exact False.elim k
theorem rcb_len (hK : X.K = C.K) : RCB C (fun xs H Q => ∃ x n, xs = [x] ∧ LenV X.K x H n ∧ Q (.int n) H) dLen := rc1 (fun ds h => by
    unfold dLen
    split <;> first | rfl | exact absurd rfl (h _)) fun W F σ H v d Q hs b k => by
  cases d with
  | list ds =>
    obtain ⟨p, vs, rfl, h1, a1⟩ := b.list hs
    have e := dpsLen a1
    exact ⟨_, vs.length, rfl, .inl ⟨vs, hK ▸ h1, rfl⟩, by rw [e]; exact okK k hs (.int _)⟩
  | tuple ds =>
    obtain ⟨p, vs, rfl, h1, a1⟩ := b.tup hs
    have e := dpsLen a1
    exact ⟨_, vs.length, rfl, .inr ⟨vs, hK ▸ h1, rfl⟩, by rw [e]; exact okK k hs (.int _)⟩
  | str z =>
    unfold dLen at k
    by_cases hl : z.length ≤ LIM
    · simp only [if_pos hl] at k
      have e := b.str
      subst e
      exact ⟨_, z.length, rfl, ⟨lim_le hl, rfl⟩, okK k hs (.int _)⟩
    · simp only [if_neg hl] at k; exact False.elim k
  | _ => exact False.elim k
theorem rcb_sum (hK : X.K = C.K) : RCB C (rSum X.K) dSum := rc1 (fun ds h => by
    unfold dSum
    split <;> first | rfl | exact absurd rfl (h _)) fun W F σ H v d Q hs b k => by
  cases d with
  | list ds =>
    unfold dSum at k
    cases e : intsOf ds with
    | none => simp only [e] at k; exact False.elim k
    | some ns =>
      simp only [e] at k
      obtain ⟨p, vs, rfl, h1, a1⟩ := b.list hs
      rw [intsOf_eq e] at a1
      rw [dpsInts' a1] at h1
      exact ⟨p, ns, rfl, hK ▸ h1, okK k hs (.int _)⟩
  | _ => exact False.elim k
theorem rcb_all (hK : X.K = C.K) : RCB C (rAll X.K) dAll := rc1 (fun ds h => by
    unfold dAll
    split <;> first | rfl | exact absurd rfl (h _)) fun W F σ H v d Q hs b k => by
  cases d with
  | list ds =>
    unfold dAll at k
    cases e : boolsOf ds with
    | none => simp only [e] at k; exact False.elim k
    | some ns =>
      simp only [e] at k
      obtain ⟨p, vs, rfl, h1, a1⟩ := b.list hs
      rw [boolsOf_eq e] at a1
      rw [dpsBls' a1] at h1
      exact ⟨p, ns, rfl, hK ▸ h1, okK k hs (.bl _)⟩
  | _ => exact False.elim k
theorem rcb_max (hK : X.K = C.K) : RCB C (rMax X.K) dMax := rc1 (fun ds h => by
    unfold dMax
    split <;> first | rfl | exact absurd rfl (h _)) fun W F σ H v d Q hs b k => by
  cases d with
  | list ds =>
    unfold dMax at k
    cases e : intsOf ds with
    | none => simp only [e] at k; exact False.elim k
    | some ns =>
      simp only [e] at k
      by_cases hn : ns = []
      · simp only [if_pos hn] at k; exact False.elim k
      · simp only [if_neg hn] at k
        obtain ⟨p, vs, rfl, h1, a1⟩ := b.list hs
        rw [intsOf_eq e] at a1
        rw [dpsInts' a1] at h1
        refine ⟨p, ns, rfl, hK ▸ h1, List.length_pos_iff.mpr hn, fun m hm hle => ?_⟩
        have em : m = maxL ns := Int.le_antisymm (maxL_le m hm) (hle _ (maxL_mem hn))
        rw [em]
        exact okK k hs (.int _)
  | _ => exact False.elim k
theorem rcb_max2 : RCB C (fun xs H Q => ∃ i j, xs = [.int i, .int j] ∧ Q (.int (if j > i then j else i)) H) dMax2 := by
  intro W F σ H vs ds Q hs b k
  unfold dMax2 at k
  split at k
  · obtain ⟨v, w, rfl, b1, b2⟩ := bq2 b
    exact ⟨_, _, by rw [b1.int, b2.int], okK k hs (.int _)⟩
  · exact False.elim k
theorem rcb_min2 : RCB C (fun xs H Q => ∃ i j, xs = [.int i, .int j] ∧ Q (.int (if j < i then j else i)) H) dMin2 := by
  intro W F σ H vs ds Q hs b k
  unfold dMin2 at k
  split at k
  · obtain ⟨v, w, rfl, b1, b2⟩ := bq2 b
    exact ⟨_, _, by rw [b1.int, b2.int], okK k hs (.int _)⟩
  · exact False.elim k
theorem rcb_int : RCB C (fun xs H Q => (∃ i, xs = [.int i] ∧ Q (.int i) H) ∨ ∃ k, xs = [.bl k] ∧ Q (.int (if k then 1 else 0)) H) dToInt := by
  intro W F σ H vs ds Q hs b k
  unfold dToInt at k
  split at k
  · obtain ⟨v, rfl, b1⟩ := bq1 b
    exact .inl ⟨_, by rw [b1.int], okK k hs (.int _)⟩
  · obtain ⟨v, rfl, b1⟩ := bq1 b
    exact .inr ⟨_, by rw [b1.bool], okK k hs (.int _)⟩
  · exact False.elim k
theorem rcb_list (hK : X.K = C.K) : RCB C (fun xs H Q => ∃ p ys, xs = [.ref p] ∧ (SqL X.K H p ys ∨ SqT X.K H p ys) ∧ ∀ l, H l = none → Q (.ref l) (upd H l (.lst ys))) dToList := by
  intro W F σ H vs ds Q hs b k
  unfold dToList at k
  split at k
  · obtain ⟨v, rfl, b1⟩ := bq1 b
    obtain ⟨p, ys, rfl, h1, a1⟩ := b1.list hs
    refine ⟨p, ys, rfl, .inl (hK ▸ h1), fun l hl => ?_⟩
    have y := Xt.new (o := .lst ys) hs hl
    exact k _ _ _ y (.lst (.inl (.inl upd_same)) (dpsMono y.f _ _ a1))
  · obtain ⟨v, rfl, b1⟩ := bq1 b
    obtain ⟨p, ys, rfl, h1, a1⟩ := b1.tup hs
    refine ⟨p, ys, rfl, .inr (hK ▸ h1), fun l hl => ?_⟩
    have y := Xt.new (o := .lst ys) hs hl
    exact k _ _ _ y (.lst (.inl (.inl upd_same)) (dpsMono y.f _ _ a1))
  · exact False.elim k
theorem rcb_tuple (hK : X.K = C.K) : RCB C (fun xs H Q => ∃ p ys, xs = [.ref p] ∧ ((SqL X.K H p ys ∧ ∀ l, H l = none → Q (.ref l) (upd H l (.tup ys))) ∨ (SqT X.K H p ys ∧ Q (.ref p) H))) dToTup := by
  intro W F σ H vs ds Q hs b k
  unfold dToTup at k
  split at k
  · obtain ⟨v, rfl, b1⟩ := bq1 b
    obtain ⟨p, ys, rfl, h1, a1⟩ := b1.list hs
    refine ⟨p, ys, rfl, .inl ⟨hK ▸ h1, fun l hl => ?_⟩⟩
    have y := Xt.new (o := .tup ys) hs hl
    exact k _ _ _ y (.tup (.inl (.inl upd_same)) (dpsMono y.f _ _ a1))
  · obtain ⟨v, rfl, b1⟩ := bq1 b
    rcases b1 with b1 | ⟨_, _, _, _, e, _⟩
    · cases b1 with
      | tup h1 a1 => exact ⟨_, _, rfl, .inr ⟨hK ▸ seqT hs h1, okK k hs (.tup h1 a1)⟩⟩
    · cases e
  · exact False.elim k
end
/-- isinstance(x, T), T a built-in class -/
def tyOf : PyData → String
  | .none => "NoneType"
  | .bool _ => "bool"
  | .int _ => "int"
  | .str _ => "str"
  | .list _ => "list"
  | .tuple _ => "tuple"
  | .dict _ => "dict"
def isT (T : String) (d : PyData) : Bool := tyOf d == T || (tyOf d == "bool" && T == "int")
def mIsi (T : String) (m : EM) : EM := fun ρ => (m ρ).bind fun d => .ok (.bool (isT T d))
section
variable {X : Cx} {C : Cst} {W : WX} {pos p p2 : Pos} {a : Expr} {m : EM}
theorem tyx_of (hK : X.K = C.K) {F H : Hp} {v : V} {d : PyData} (b : Bq C F H v d) (hs : Same F H) (hd : ∀ kvs, d ≠ .dict kvs) : TyX X.K H v (.type (tyOf d)) := by
  cases d with
  | none => rw [b.non]; exact .base .non
  | bool i => rw [b.bool]; exact .base (.bl _)
  | int i => rw [b.int]; exact .base (.int _)
  | str i => rw [b.str]; exact .base (.str _)
  | list ds =>
    obtain ⟨q, vs, rfl, h1, _⟩ := b.list hs
    rcases h1 with (h | ⟨o, h⟩) | ⟨o, its, n, h, c, _⟩
    · exact .base (.lst h)
    · exact .base (.frz h)
    · exact .kList (hK ▸ h) c
  | tuple ds =>
    obtain ⟨q, vs, rfl, h1, _⟩ := b.tup hs
    rcases h1 with (h | ⟨o, h⟩) | ⟨o, its, n, h, c, _⟩
    · exact .base (.tup h)
    · exact .fTuple h
    · exact .kTuple (hK ▸ h) c
  | dict kvs => exact absurd rfl (hd kvs)
/-- the classes that are asked for here -/
def tyTab (T : String) : Prop := ∀ S ∈ ["NoneType", "bool", "int", "str", "list", "tuple"], kitB S T = some (S == T || (S == "bool" && T == "int"))
theorem x_isi (hK : X.K = C.K) (T : String) (hT : tyTab T) {x : Str} (hg : Gl X "isinstance") (hm : X.mg "isinstance" = none) (hg2 : Gl X x) (hm2 : X.mg x = none) (hv2 : bootBuiltins x = some (.type T)) (ha : PE X a (tQ C W m))
    (he : starEach (a :: [.Name x p2]) X.env = (false, eval a X.env) :: starEach [.Name x p2] X.env := by rfl) (hpl : (backTo pos (starEach [.Name x p2] X.env)).any (·.1) = false := by rfl)
    (hn : x ≠ "__name__" := by decide) (hd : (x == ("__debug__" : Str)) = false := by decide) :
    PE X (.Call (.Name "isinstance" p) [a, .Name x p2] [] pos) (tE C W (mIsi T m)) :=
  pe_wk (pe_callB call_isi hg hm (by decide +kernel) (pa_cons ha (pa_cons (pe_bltn (v := .ty T) hg2 hm2 hv2 rfl hn hd) pa_nil) he) (by decide) (by decide) he hpl) fun σ H Q ⟨ρ, F, ag, k⟩ => ⟨ρ, F, ag, RK.bind k fun d v F1 H1 x1 b1 k1 => by
    have hdd : ∀ kvs, d ≠ .dict kvs := fun kvs e => by
      subst e
      rcases b1 with b | ⟨_, _, _, _, e, _⟩
      · cases b
      · cases e
    refine ⟨v, .ty T, .type (tyOf d), .type T, isT T d, rfl, .ty T, tyx_of hK b1 x1.fh hdd, kit_ty (hT (tyOf d) ?_), k1 _ F1 H1 (Xt.refl x1.fh) (.bl _)⟩
    cases d <;> first | exact absurd rfl (hdd _) | (simp [tyOf])⟩
end
theorem ty_int : tyTab "int" := by unfold tyTab; decide +kernel
theorem ty_bool : tyTab "bool" := by unfold tyTab; decide +kernel
theorem ty_tuple : tyTab "tuple" := by unfold tyTab; decide +kernel
theorem ty_list : tyTab "list" := by unfold tyTab; decide +kernel
theorem ty_str : tyTab "str" := by unfold tyTab; decide +kernel
end Stm
set_option Elab.async false
set_option linter.all false
set_option maxRecDepth 100000
set_option maxHeartbeats 4000000
namespace Stm
open PySem PySem.Spec PyProof.Rows L2

/-! ### what is walked -/
/-- J yields the data ds one by one; F: where they stay; G: what must not change meanwhile -/
structure Wk (C : Cst) (J : It) (ds : List PyData) (F G : Hp) : Prop where
  go : ∀ i H, Same G H → i < ds.length → J.go i H
  stop : ∀ i H, Same G H → ds.length ≤ i → J.stop i H
  yld : ∀ (i : Nat) (H : Hp) (x : V) (H' : Hp) (d : PyData), Same G H → ds[i]? = some d → J.yld i H x H' → ∀ F1, Same F F1 → Same F1 H → ∃ F2, Xt F1 H F2 H' ∧ Dp C.K F2 x d
def tI (C : Cst) (W : WX) (m : Rho → Res (List PyData)) : TI := fun σ H R => ∃ ρ F, Ag C F ρ σ H ∧ RK C W (fun F' H' J ds => Wk C J ds F' F') (m ρ) F σ H R
def tIq (C : Cst) (W : WX) (m : Rho → Res (List PyData)) : TI := fun σ H R => ∃ ρ F, Ag C F ρ σ H ∧ RK C W (fun F' H' J ds => Wk C J ds F' H') (m ρ) F σ H R
theorem Wk.imp {C : Cst} {J : It} {ds : List PyData} {F G G' : Hp} (k : Wk C J ds F G) (h : Same G G') : Wk C J ds F G' :=
  ⟨fun i H e => k.go i H (h.trans e), fun i H e => k.stop i H (h.trans e), fun i H x H' d e => k.yld i H x H' d (h.trans e)⟩
theorem pi_wk {X : Cx} {tg e : Expr} {t t' : TI} (h : PI X tg e t) (w : ∀ σ H Q, t' σ H Q → t σ H Q) : PI X tg e t' := ⟨fun pins s σ H R I q => h.run pins s σ H R I (w σ H R q)⟩
theorem i_q {X : Cx} {C : Cst} {W : WX} {tg e : Expr} {m : Rho → Res (List PyData)} (h : PI X tg e (tI C W m)) : PI X tg e (tIq C W m) := pi_wk h fun σ H R ⟨ρ, F, ag, k⟩ => ⟨ρ, F, ag, by
  cases hm : m ρ with
  | ok d =>
    rw [hm] at k
    exact fun v F' H' y q => k v F' H' y (q.imp y.fh)
  | exc c => rw [hm] at k; exact k
  | stuck => rw [hm] at k; exact k⟩
theorem wk_list {C : Cst} {K : PySem.W.Frag} {F G : Hp} {a : Addr} {vs : List V} {ds : List PyData} (hK : K = C.K) (h : SqL C.K G a vs) (ha : DpAll C.K F vs ds) : Wk C (Itl K a) ds F G := by
  subst hK
  refine ⟨fun i H e hi => ?_, fun i H e hi => ⟨vs, e.seq h, by rw [dpsLen ha]; exact hi⟩, fun i H x H' d e hd hy F1 f1 f2 => ?_⟩
  · obtain ⟨v, h1, _⟩ := dpsGet' ha (List.getElem?_eq_getElem hi)
    exact ⟨vs, v, e.seq h, h1⟩
  · obtain ⟨rfl, hy⟩ := hy
    obtain ⟨v, h1, h2⟩ := dpsGet' ha hd
    have e1 := hy vs (e.seq h)
    rw [h1] at e1; cases e1
    exact ⟨F1, Xt.refl f2, dpMono f1 _ _ h2⟩
theorem wk_tup {C : Cst} {K : PySem.W.Frag} {F G : Hp} {a : Addr} {vs : List V} {ds : List PyData} (hK : K = C.K) (h : SqT C.K G a vs) (ha : DpAll C.K F vs ds) : Wk C (Itt K a) ds F G := by
  subst hK
  refine ⟨fun i H e hi => ?_, fun i H e hi => ⟨vs, seqT e h, by rw [dpsLen ha]; exact hi⟩, fun i H x H' d e hd hy F1 f1 f2 => ?_⟩
  · obtain ⟨v, h1, _⟩ := dpsGet' ha (List.getElem?_eq_getElem hi)
    exact ⟨vs, v, seqT e h, h1⟩
  · obtain ⟨rfl, hy⟩ := hy
    obtain ⟨v, h1, h2⟩ := dpsGet' ha hd
    have e1 := hy vs (seqT e h)
    rw [h1] at e1; cases e1
    exact ⟨F1, Xt.refl f2, dpMono f1 _ _ h2⟩
/-- the items of a list, of a tuple -/
def itemsL : PyData → Res (List PyData)
  | .list ds => .ok ds
  | _ => .stuck
def itemsT : PyData → Res (List PyData)
  | .tuple ds => .ok ds
  | _ => .stuck
def iL (m : EM) : Rho → Res (List PyData) := fun ρ => (m ρ).bind itemsL
def iT (m : EM) : Rho → Res (List PyData) := fun ρ => (m ρ).bind itemsT
def intD (lo : Int) (n : Nat) : List PyData := (List.range n).map fun (i : Nat) => PyData.int (lo + (i : Int))
def rng1 : List PyData → Res (List PyData)
  | [.int j] => if j ≤ (LIM : Int) ∧ -(LIM : Int) ≤ j then .ok (intD 0 j.toNat) else .stuck
  | _ => .stuck
def rng2 : List PyData → Res (List PyData)
  | [.int i, .int j] => if -(LIM : Int) ≤ i ∧ i ≤ (LIM : Int) ∧ -(LIM : Int) ≤ j ∧ j ≤ (LIM : Int) then .ok (intD i (j - i).toNat) else .stuck
  | _ => .stuck
def iR1 (m : AM) : Rho → Res (List PyData) := fun ρ => (m ρ).bind rng1
def iR2 (m : AM) : Rho → Res (List PyData) := fun ρ => (m ρ).bind rng2
def enumD (ds : List PyData) : List PyData := (List.range ds.length).zip ds |>.map fun p => PyData.tuple [.int (p.1 : Int), p.2]
def iEn (m : AM) : Rho → Res (List PyData) := fun ρ => (m ρ).bind fun | [.list ds] => .ok (enumD ds) | _ => .stuck
def iRev (m : EM) : Rho → Res (List PyData) := fun ρ => (m ρ).bind fun | .list ds => .ok ds.reverse | .tuple ds => .ok ds.reverse | _ => .stuck
theorem Xt.same {F H F' H' : Hp} (x : Xt F H F' H') : Same F H' := x.f.trans x.fh
section
variable {X : Cx} {C : Cst} {W : WX} {tg e : Expr} {m : EM} {ms : AM} {p pos tpos : Pos} {es : List Expr}
theorem i_list (hK : X.K = C.K) (h : PE X e (tE C W m)) : PI X tg e (tI C W (iL m)) := pi_wk (pi_list h) fun σ H R ⟨ρ, F, ag, k⟩ => ⟨ρ, F, ag, RK.bind k fun d v F1 H1 x1 b1 k1 => by
  cases d with
  | list ds =>
    cases b1 with
    | lst h1 a1 => exact ⟨_, rfl, ⟨_, hK ▸ x1.fh.seq h1⟩, k1 _ F1 H1 (Xt.refl x1.fh) (wk_list hK h1 a1)⟩
  | _ => exact False.elim k1⟩
theorem i_listQ (hK : X.K = C.K) (h : PE X e (tQ C W m)) : PI X tg e (tIq C W (iL m)) := pi_wk (pi_list h) fun σ H R ⟨ρ, F, ag, k⟩ => ⟨ρ, F, ag, RK.bind k fun d v F1 H1 x1 b1 k1 => by
  cases d with
  | list ds =>
    obtain ⟨q, vs, rfl, h1, a1⟩ := b1.list x1.fh
    exact ⟨_, rfl, ⟨_, hK ▸ h1⟩, k1 _ F1 H1 (Xt.refl x1.fh) (wk_list hK h1 a1)⟩
  | _ => exact False.elim k1⟩
theorem i_tup (hK : X.K = C.K) (h : PE X e (tE C W m)) : PI X tg e (tI C W (iT m)) := pi_wk (pi_tup h) fun σ H R ⟨ρ, F, ag, k⟩ => ⟨ρ, F, ag, RK.bind k fun d v F1 H1 x1 b1 k1 => by
  cases d with
  | tuple ds =>
    cases b1 with
    | tup h1 a1 => exact ⟨_, rfl, ⟨_, hK ▸ seqT x1.fh h1⟩, k1 _ F1 H1 (Xt.refl x1.fh) (wk_tup hK h1 a1)⟩
  | _ => exact False.elim k1⟩
theorem intD_get {lo : Int} {n i : Nat} {d : PyData} (h : (intD lo n)[i]? = some d) : d = .int (lo + (i : Int)) := by
  unfold intD at h
  rw [List.getElem?_map] at h
  cases e : (List.range n)[i]? with
  | none => rw [e] at h; cases h
  | some j =>
    rw [e] at h
    cases h
    have := (List.getElem?_eq_some_iff.mp e)
    obtain ⟨h1, h2⟩ := this
    rw [List.getElem_range] at h2
    rw [h2]
theorem intD_len {lo : Int} {n : Nat} : (intD lo n).length = n := by unfold intD; rw [List.length_map, List.length_range]
theorem wk_rng {F G : Hp} {lo : Int} {n : Nat} : Wk C (Itr lo n) (intD lo n) F G :=
  ⟨fun i H _ hi => by rw [intD_len] at hi; exact hi, fun i H _ hi => by rw [intD_len] at hi; exact hi, fun i H x H' d _ hd ⟨e1, e2⟩ F1 f1 f2 => by
    subst e1 e2
    rw [intD_get hd]
    exact ⟨F1, Xt.refl f2, .int _⟩⟩
theorem i_rng1 (hg : Gl X "range") (hm : X.mg "range" = none) (h : PA X [e] (tBs C W ms)) (hs : starEach [e] X.env = [(false, eval e X.env)] := by rfl) : PI X tg (.Call (.Name "range" p) [e] [] pos) (tI C W (iR1 ms)) :=
  pi_wk (pi_range1 hg hm h hs) fun σ H R ⟨ρ, F, ag, k⟩ => ⟨ρ, F, ag, RK.bind k fun ds vs F1 H1 x1 b1 k1 => by
    unfold rng1 at k1
    split at k1
    · rename_i j
      by_cases hj : j ≤ (LIM : Int) ∧ -(LIM : Int) ≤ j
      · rw [if_pos hj] at k1
        obtain ⟨v, rfl, b2⟩ := bq1 b1
        have el : (LIM : Int) = 100000 := rfl
        rw [el] at hj
        exact ⟨j, by rw [b2.int], by omega, by omega, k1 _ F1 H1 (Xt.refl x1.fh) wk_rng⟩
      · rw [if_neg hj] at k1; exact False.elim k1
    · exact False.elim k1⟩
theorem i_rng2 {e2 : Expr} (hg : Gl X "range") (hm : X.mg "range" = none) (h : PA X [e, e2] (tBs C W ms)) (hs : starEach [e, e2] X.env = [(false, eval e X.env), (false, eval e2 X.env)] := by rfl) (hs2 : starEach [e2] X.env = [(false, eval e2 X.env)] := by rfl) :
    PI X tg (.Call (.Name "range" p) [e, e2] [] pos) (tI C W (iR2 ms)) :=
  pi_wk (pi_range2 hg hm h hs hs2) fun σ H R ⟨ρ, F, ag, k⟩ => ⟨ρ, F, ag, RK.bind k fun ds vs F1 H1 x1 b1 k1 => by
    unfold rng2 at k1
    split at k1
    · rename_i i j
      by_cases hj : -(LIM : Int) ≤ i ∧ i ≤ (LIM : Int) ∧ -(LIM : Int) ≤ j ∧ j ≤ (LIM : Int)
      · rw [if_pos hj] at k1
        obtain ⟨v, w, rfl, b2, b3⟩ := bq2 b1
        have el : (LIM : Int) = 100000 := rfl
        rw [el] at hj
        exact ⟨i, j, by rw [b2.int, b3.int], by omega, k1 _ F1 H1 (Xt.refl x1.fh) wk_rng⟩
      · rw [if_neg hj] at k1; exact False.elim k1
    · exact False.elim k1⟩
theorem enumD_len {ds : List PyData} : (enumD ds).length = ds.length := by
  unfold enumD
  rw [List.length_map, List.length_zip, List.length_range]
  omega
theorem enumD_get {ds : List PyData} {i : Nat} {d : PyData} (h : (enumD ds)[i]? = some d) : ∃ e, ds[i]? = some e ∧ d = .tuple [.int (i : Int), e] := by
  unfold enumD at h
  rw [List.getElem?_map, List.zip_eq_zipWith, List.getElem?_zipWith] at h
  cases e1 : ds[i]? with
  | none =>
    rw [e1] at h
    cases e2 : (List.range ds.length)[i]? <;> rw [e2] at h <;> cases h
  | some d1 =>
    rw [e1, List.getElem?_range (List.getElem?_eq_some_iff.mp e1).1] at h
    cases h
    exact ⟨d1, rfl, rfl⟩
theorem i_enum {kk : Nat} (hK : X.K = C.K) (hg : Gl X "enumerate") (hm : X.mg "enumerate" = none) (h : PA X [e] (tBs C W ms)) (hs : starEach [e] X.env = [(false, eval e X.env)] := by rfl) :
    PI X (.Tuple es kk tpos) (.Call (.Name "enumerate" p) [e] [] pos) (tIq C W (iEn ms)) :=
  pi_wk (pi_enum hg hm h hs) fun σ H R ⟨ρ, F, ag, k⟩ => ⟨ρ, F, ag, RK.bind k fun ds vs F1 H1 x1 b1 k1 => by
    split at k1
    · rename_i ds
      obtain ⟨v, rfl, b2⟩ := bq1 b1
      obtain ⟨a, vs, rfl, h1, a1⟩ := b2.list x1.fh
      refine ⟨a, vs, rfl, hK ▸ h1, k1 _ F1 H1 (Xt.refl x1.fh) ⟨fun i H e hi => ?_, fun i H e hi => ⟨vs, hK ▸ e.seq h1, ?_⟩, fun i H x H' d e hd hy Fa f1 f2 => ?_⟩⟩
      · rw [enumD_len] at hi
        obtain ⟨v, g1, _⟩ := dpsGet' a1 (List.getElem?_eq_getElem hi)
        exact ⟨vs, v, hK ▸ e.seq h1, g1⟩
      · rw [enumD_len] at hi
        rw [dpsLen a1]; exact hi
      · obtain ⟨T, y, rfl, nT, rfl, fy⟩ := hy
        obtain ⟨d1, g1, rfl⟩ := enumD_get hd
        obtain ⟨v, g2, g3⟩ := dpsGet' a1 g1
        have ey := fy vs (hK ▸ e.seq h1)
        rw [g2] at ey
        obtain rfl : v = y := Option.some.inj ey
        have y := Xt.new (o := .tup [.int (i : Nat), v]) f2 nT
        exact ⟨_, y, .tup (.inl (.inl upd_same)) (.cons (.int _) (.cons (dpMono (f1.trans y.f) _ _ g3) .nil))⟩
    · exact False.elim k1⟩
theorem rev_get {α : Type} {ds : List α} {i : Nat} (h : i < ds.length) : ds.reverse[i]? = ds[ds.length - 1 - i]? := by
  rw [List.getElem?_reverse h]
theorem i_rev (hK : X.K = C.K) (hg : Gl X "reversed") (hm : X.mg "reversed" = none) (h : PE X e (tQ C W m)) (hs : starEach [e] X.env = (false, eval e X.env) :: starEach [] X.env := by rfl) : PI X tg (.Call (.Name "reversed" p) [e] [] pos) (tIq C W (iRev m)) :=
  pi_wk (RT.pi_revA hg hm h hs) fun σ H R ⟨ρ, F, ag, k⟩ => ⟨ρ, F, ag, RK.bind k fun d v F1 H1 x1 b1 k1 => by
    split at k1
    · rename_i ds
      obtain ⟨a, vs, rfl, h1, a1⟩ := b1.list x1.fh
      have el := dpsLen a1
      refine ⟨a, vs, rfl, .inl ⟨hK ▸ h1, k1 _ F1 H1 (Xt.refl x1.fh) ⟨fun i H e hi => ?_, fun i H e hi => ?_, fun i H x H' d e hd hy Fa f1 f2 => ?_⟩⟩⟩
      · rw [List.length_reverse] at hi
        obtain ⟨v, g1, _⟩ := dpsGet' a1 (List.getElem?_eq_getElem (i := ds.length - 1 - i) (by omega))
        exact ⟨by omega, vs, v, hK ▸ e.seq h1, by rw [el]; exact g1⟩
      · rw [List.length_reverse] at hi
        show vs.length ≤ i
        omega
      · obtain ⟨rfl, fy⟩ := hy
        have hi := (List.getElem?_eq_some_iff.mp hd).1
        rw [List.length_reverse] at hi
        rw [rev_get hi] at hd
        obtain ⟨v, g2, g3⟩ := dpsGet' a1 hd
        have ey := fy vs (hK ▸ e.seq h1)
        rw [el, g2] at ey; cases ey
        exact ⟨Fa, Xt.refl f2, dpMono f1 _ _ g3⟩
    · rename_i ds
      obtain ⟨a, vs, rfl, h1, a1⟩ := b1.tup x1.fh
      have el := dpsLen a1
      refine ⟨a, vs, rfl, .inr ⟨hK ▸ h1, k1 _ F1 H1 (Xt.refl x1.fh) ⟨fun i H e hi => ?_, fun i H e hi => ?_, fun i H x H' d e hd hy Fa f1 f2 => ?_⟩⟩⟩
      · rw [List.length_reverse] at hi
        obtain ⟨v, g1, _⟩ := dpsGet' a1 (List.getElem?_eq_getElem (i := ds.length - 1 - i) (by omega))
        exact ⟨by omega, vs, v, hK ▸ seqT e h1, by rw [el]; exact g1⟩
      · rw [List.length_reverse] at hi
        show vs.length ≤ i
        omega
      · obtain ⟨rfl, fy⟩ := hy
        have hi := (List.getElem?_eq_some_iff.mp hd).1
        rw [List.length_reverse] at hi
        rw [rev_get hi] at hd
        obtain ⟨v, g2, g3⟩ := dpsGet' a1 hd
        have ey := fy vs (hK ▸ seqT e h1)
        rw [el, g2] at ey; cases ey
        exact ⟨Fa, Xt.refl f2, dpMono f1 _ _ g3⟩
    · exact False.elim k1⟩
end

/-! ### targets -/
abbrev TgM := PyData → Rho → Option Rho
/-- a target's reading follows its function; vs: slots that are a block's own -/
def TgOk (C : Cst) (vs : List Nat) (g : TG) (t : TgM) : Prop := ∀ (F H : Hp) (ρ : Rho) (σ : L2.St) (x : V) (d : PyData) (ρ1 : Rho) (Q : L2.St → Hp → Prop), Ag C F ρ σ H → Dp C.K F x d → t d ρ = some ρ1 →
  (∀ σ1, Ag C F ρ1 σ1 H → wipe σ1 vs = wipe σ vs → Q σ1 H) → g x σ H Q
def gN (i : Nat) : TgM := fun d ρ => if i < ρ.length then some (ρ.set i (.val d)) else none
def gN2 (i j : Nat) : TgM := fun d ρ => match d with
  | .tuple [a, b] => if i < ρ.length ∧ j < ρ.length then some ((ρ.set i (.val a)).set j (.val b)) else none
  | _ => none
/-- a slot that held nothing of the def's own is set -/
theorem Ag.set {C : Cst} {F H : Hp} {ρ : Rho} {σ : L2.St} (a : Ag C F ρ σ H) {i : Nat} {v : V} {d : PyData} (hd : Dp C.K F v d) : Ag C F (ρ.set i (.val d)) (σ.set i (some v)) H where
  s0 := a.s0
  f0 := a.f0
  fh := a.fh
  nb := a.nb
  len := by rw [List.length_set, List.length_set]; exact a.len
  sl := fun j s e => by
    by_cases h : i = j
    · subst h
      have hl : i < ρ.length := by
        have := (List.getElem?_eq_some_iff.mp e).1
        rw [List.length_set] at this; exact this
      rw [List.getElem?_set_self hl] at e
      cases e
      exact ⟨some v, by rw [List.getElem?_set_self (by rw [← a.len]; exact hl)], v, rfl, hd⟩
    · rw [List.getElem?_set_ne h] at e
      obtain ⟨o, h1, h2⟩ := a.sl j s e
      exact ⟨o, by rw [List.getElem?_set_ne h]; exact h1, h2⟩
  sep := fun j k sj sk p hjk e1 e2 o1 o2 h1 h2 => by
    by_cases hj : i = j
    · subst hj
      have hl : i < ρ.length := by
        have := (List.getElem?_eq_some_iff.mp e1).1
        rw [List.length_set] at this; exact this
      rw [List.getElem?_set_self hl] at e1
      cases e1
      cases o1
    · by_cases hk : i = k
      · subst hk
        have hl : i < ρ.length := by
          have := (List.getElem?_eq_some_iff.mp e2).1
          rw [List.length_set] at this; exact this
        rw [List.getElem?_set_self hl] at e2
        cases e2
        cases o2
      · rw [List.getElem?_set_ne hj] at e1 h1
        rw [List.getElem?_set_ne hk] at e2 h2
        exact a.sep j k sj sk p hjk e1 e2 o1 o2 h1 h2
theorem wipe_get {σ : L2.St} {i : Nat} : ∀ {vs : List Nat}, (wipe σ vs)[i]? = if i ∈ vs ∧ i < σ.length then some none else σ[i]?
  | [] => by simp [wipe]
  | v :: vs => by
    unfold wipe
    by_cases h : v = i
    · subst h
      by_cases hl : v < σ.length
      · rw [List.getElem?_set_self (by rw [wipe_length]; exact hl), if_pos ⟨List.mem_cons_self, hl⟩]
      · rw [if_neg fun z => hl z.2, List.getElem?_eq_none (by rw [List.length_set, wipe_length]; omega), List.getElem?_eq_none (by omega)]
    · rw [List.getElem?_set_ne h, wipe_get]
      by_cases hm : i ∈ vs ∧ i < σ.length
      · rw [if_pos hm, if_pos ⟨List.mem_cons_of_mem _ hm.1, hm.2⟩]
      · rw [if_neg hm, if_neg fun z => hm ⟨(List.mem_cons.mp z.1).resolve_left (fun q => h q.symm), z.2⟩]
theorem wipe_set {σ : L2.St} {i : Nat} {v : Option V} {vs : List Nat} (h : i ∈ vs) : wipe (σ.set i v) vs = wipe σ vs := by
  refine List.ext_getElem? fun j => ?_
  rw [wipe_get, wipe_get, List.length_set]
  by_cases hj : j ∈ vs ∧ j < σ.length
  · rw [if_pos hj, if_pos hj]
  · rw [if_neg hj, if_neg hj]
    by_cases e : i = j
    · subst e
      have hl : ¬ i < σ.length := fun q => hj ⟨h, q⟩
      rw [List.getElem?_eq_none (by rw [List.length_set]; omega), List.getElem?_eq_none (by omega)]
    · rw [List.getElem?_set_ne e]
end Stm
set_option Elab.async false
set_option linter.all false
set_option maxRecDepth 100000
set_option maxHeartbeats 4000000
namespace Stm
open PySem PySem.Spec PyProof.Rows L2

abbrev W0 : WX := fun _ _ _ _ => False
def Res.bindN {α β : Type} (x : Res α) (f : α → Res β) : Res β :=
  match x with
  | .ok a => f a
  | _ => .stuck
def wipeR (ρ : Rho) : List Nat → Rho
  | [] => ρ
  | v :: vs => (wipeR ρ vs).set v .un
theorem Ag.setN {C : Cst} {F H : Hp} {ρ : Rho} {σ : L2.St} (a : Ag C F ρ σ H) {i : Nat} : Ag C F (ρ.set i .un) (σ.set i none) H where
  s0 := a.s0
  f0 := a.f0
  fh := a.fh
  nb := a.nb
  len := by rw [List.length_set, List.length_set]; exact a.len
  sl := fun j s e => by
    by_cases h : i = j
    · subst h
      have hl : i < ρ.length := by
        have := (List.getElem?_eq_some_iff.mp e).1
        rw [List.length_set] at this; exact this
      rw [List.getElem?_set_self hl] at e
      cases e
      exact ⟨none, by rw [List.getElem?_set_self (by rw [← a.len]; exact hl)], trivial⟩
    · rw [List.getElem?_set_ne h] at e
      obtain ⟨o, h1, h2⟩ := a.sl j s e
      exact ⟨o, by rw [List.getElem?_set_ne h]; exact h1, h2⟩
  sep := fun j k sj sk p hjk e1 e2 o1 o2 h1 h2 => by
    by_cases hj : i = j
    · subst hj
      have hl : i < ρ.length := by
        have := (List.getElem?_eq_some_iff.mp e1).1
        rw [List.length_set] at this; exact this
      rw [List.getElem?_set_self hl] at e1
      cases e1
      cases o1
    · by_cases hk : i = k
      · subst hk
        have hl : i < ρ.length := by
          have := (List.getElem?_eq_some_iff.mp e2).1
          rw [List.length_set] at this; exact this
        rw [List.getElem?_set_self hl] at e2
        cases e2
        cases o2
      · rw [List.getElem?_set_ne hj] at e1 h1
        rw [List.getElem?_set_ne hk] at e2 h2
        exact a.sep j k sj sk p hjk e1 e2 o1 o2 h1 h2
theorem Ag.wipe {C : Cst} {F H : Hp} {ρ : Rho} {σ : L2.St} (a : Ag C F ρ σ H) : ∀ vs : List Nat, Ag C F (wipeR ρ vs) (L2.wipe σ vs) H
  | [] => a
  | v :: vs => by
    unfold wipeR L2.wipe
    exact (a.wipe vs).setN
theorem wipe_wipe {σ : L2.St} {vs : List Nat} : L2.wipe (L2.wipe σ vs) vs = L2.wipe σ vs := by
  refine List.ext_getElem? fun j => ?_
  rw [wipe_get, wipe_length]
  by_cases hj : j ∈ vs ∧ j < σ.length
  · rw [if_pos hj, wipe_get, if_pos hj]
  · rw [if_neg hj]

theorem tg_name {C : Cst} {vs : List Nat} {i : Nat} (hi : i ∈ vs) : TgOk C vs (gName i) (gN i) := fun F H ρ σ x d ρ1 Q ag hd ht q => by
  unfold gN at ht
  by_cases h : i < ρ.length
  · rw [if_pos h] at ht
    cases ht
    exact q _ (ag.set hd) (wipe_set hi)
  · rw [if_neg h] at ht; cases ht
theorem tg_two {C : Cst} {K : PySem.W.Frag} {vs : List Nat} {i j : Nat} (hK : K = C.K) (hi : i ∈ vs) (hj : j ∈ vs) : TgOk C vs (gTup K 2 (gCons (gName i) (gCons (gName j) gNil))) (gN2 i j) := fun F H ρ σ x d ρ1 Q ag hd ht q => by
  unfold gN2 at ht
  split at ht
  · rename_i a b
    by_cases h : i < ρ.length ∧ j < ρ.length
    · rw [if_pos h] at ht
      cases ht
      cases hd with
      | @tup p ws _ h1 a1 =>
        cases a1 with
        | @cons v1 _ _ _ q1 a2 =>
          cases a2 with
          | @cons v2 _ _ _ q2 a3 =>
            cases a3
            refine ⟨p, _, rfl, hK ▸ seqT ag.fh h1, rfl, v1, _, rfl, v2, _, rfl, rfl, ?_⟩
            exact q _ ((ag.set q1).set q2) (by rw [wipe_set hj, wipe_set hi])
    · rw [if_neg h] at ht; cases ht
  · cases ht
theorem Xt.mut {F H F' H' : Hp} {p : Addr} {o : HO} (x : Xt F H F' H') (h : H p = none) (h' : F' p = none) : Xt F H F' (upd H' p o) :=
  ⟨x.f, fun b u e => by rw [upd_ne (ne_of_none e h)]; exact x.h b u e, x.n, fun b u e => by rw [upd_ne (ne_of_none e h')]; exact x.fh b u e⟩

/-! ### list comprehensions -/
def lcGo (t : TgM) (mt : TM) (me : EM) (ρ : Rho) : List PyData → Res (List PyData)
  | [] => .ok []
  | d :: ds => match t d ρ with
    | none => .stuck
    | some ρ1 => (mt ρ1).bindN fun b => if b = true then (me ρ1).bindN fun y => (lcGo t mt me ρ ds).bind fun r => .ok (y :: r) else lcGo t mt me ρ ds
def mLc (vs : List Nat) (mi : Rho → Res (List PyData)) (t : TgM) (mt : TM) (me : EM) : EM := fun ρ =>
  (mi ρ).bind fun ds => if ds.length ≤ LIM then (lcGo t mt me (wipeR ρ vs) ds).bind fun r => .ok (.list r) else .stuck
def mYes : TM := fun _ => .ok true
section
variable {X : Cx} {C : Cst} {W : WX} {pos : Pos} {elt tg iter : Expr} {ifs : List Expr} {scope : Scope} {own : List (Str × Nat)} {mi : Rho → Res (List PyData)} {g : TG} {t : TgM} {mt : TM} {me : EM}
theorem xts_nil {Y : Cx} : PTs Y [] (tT C W mYes) := ⟨fun pins s σ H Q I ⟨ρ, F, ag, k⟩ => (pts_nil (X := Y)).run pins s σ H Q I (k true F H (Xt.refl ag.fh) rfl)⟩
theorem xts_one {Y : Cx} {c : Expr} (h : PT Y c (tT C W mt)) : PTs Y [c] (tT C W mt) := pts_one h
theorem lc_read {vs : List Nat} (tok : TgOk C vs g t) : ∀ σ H Q, tE C W (mLc vs mi t mt me) σ H Q → tLc (tIq C W mi) g (tT C W0 mt) (tE C W0 me) vs σ H Q := fun σ H Q ⟨ρ, F, ag, k⟩ => ⟨ρ, F, ag, RK.bind k fun ds J F1 H1 x1 wk k1 D hD => by
  have hl : ds.length ≤ LIM := by
    by_cases hl : ds.length ≤ LIM
    · exact hl
    · rw [if_neg hl] at k1; exact False.elim k1
  rw [if_pos hl] at k1
  have ag1 := (ag.ext x1).wipe vs
  have fD : F1 D = none := x1.fh.free hD
  refine ⟨fun i m H' => m = ds.length - i ∧ i ≤ ds.length ∧ ∃ F' acc av, Xt F1 H1 F' H' ∧ H' D = some (.lst av) ∧ DpAll C.K F' av acc ∧ F' D = none ∧ acc.length ≤ i ∧
      RK C W (RE C) ((lcGo t mt me (wipeR ρ vs) (ds.drop i)).bind fun r => .ok (.list (acc ++ r))) F1 σ H1 Q, ⟨_, rfl, Nat.zero_le _, F1, [], [], Xt.grow x1.fh hD, upd_same, .nil, fD, Nat.le_refl _, k1⟩, ?_⟩
  rintro i m H' ⟨rfl, hi, F', acc, av, y, eD, da, nD, la, k2⟩
  by_cases hlt : i < ds.length
  · refine .inr ⟨wk.go i H' y.h hlt, fun H2 => i + 1 ≤ ds.length ∧ ∃ F' acc av, Xt F1 H1 F' H2 ∧ H2 D = some (.lst av) ∧ DpAll C.K F' av acc ∧ F' D = none ∧ acc.length ≤ i + 1 ∧
      RK C W (RE C) ((lcGo t mt me (wipeR ρ vs) (ds.drop (i + 1))).bind fun r => .ok (.list (acc ++ r))) F1 σ H1 Q, fun H2 q => ⟨_, by omega, rfl, q⟩, fun x H2 hy => ?_⟩
    have ed : ds[i]? = some ds[i] := List.getElem?_eq_getElem hlt
    obtain ⟨F2, x2, d2⟩ := wk.yld i H' x H2 _ y.h ed hy F' y.f y.fh
    have hD' : ∀ {Fa Ha : Hp}, Xt F' H' Fa Ha → Ha D = some (.lst av) ∧ Fa D = none := fun z => ⟨z.h _ _ eD, z.n D (by rw [eD]; exact fun q => nomatch q) nD⟩
    rw [List.drop_eq_getElem_cons hlt] at k2
    cases ht : t ds[i] (wipeR ρ vs) with
    | none => rw [lcGo, ht] at k2; exact False.elim k2
    | some ρ1 =>
      rw [lcGo, ht] at k2
      refine tok F2 H2 _ _ x _ ρ1 _ ((ag1.ext y).ext x2) d2 ht fun σ1 ag2 we => ⟨by rw [we, wipe_wipe], ρ1, F2, ag2, ?_⟩
      cases hb : mt ρ1 with
      | exc c => simp only [hb, Res.bindN] at k2; exact False.elim k2
      | stuck => simp only [hb, Res.bindN] at k2; exact False.elim k2
      | ok b =>
        simp only [hb, Res.bindN] at k2
        rintro b' F3 H3 x3 (rfl : b' = b)
        have x23 := x2.trans x3
        cases b' with
        | false =>
          rw [if_neg Bool.false_ne_true] at k2 ⊢
          have z := hD' x23
          exact ⟨hlt, F3, acc, av, y.trans x23, z.1, dpsMono x23.f _ _ da, z.2, by omega, k2⟩
        | true =>
          rw [if_pos rfl] at k2 ⊢
          refine ⟨ρ1, F3, ag2.ext x3, ?_⟩
          cases hm : me ρ1 with
          | exc c => simp only [hm] at k2; exact False.elim k2
          | stuck => simp only [hm] at k2; exact False.elim k2
          | ok e =>
            simp only [hm] at k2
            intro v F4 H4 x4 de
            have x24 := x23.trans x4
            have z := hD' x24
            refine ⟨av, z.1, by rw [dpsLen da]; exact Nat.lt_of_le_of_lt la (Nat.lt_of_lt_of_le hlt (lim_le hl)), hlt, F4, acc ++ [e], av ++ [v], (y.trans x24).mut hD z.2, upd_same, dpsApp (dpsMono x24.f _ _ da) (.cons de .nil), z.2, ?_, ?_⟩
            · rw [List.length_append, List.length_singleton]; omega
            · have er : ∀ r : Res (List PyData), ((r.bind fun r => Res.ok (e :: r)).bind fun r => Res.ok (PyData.list (acc ++ r))) = r.bind fun r => Res.ok (PyData.list (acc ++ [e] ++ r)) := fun r => by
                cases r with
                | ok a => show Res.ok (PyData.list (acc ++ e :: a)) = Res.ok (PyData.list (acc ++ [e] ++ a)); rw [List.append_assoc]; rfl
                | exc c => rfl
                | stuck => rfl
              rw [er] at k2
              exact k2
  · have e : i = ds.length := by omega
    subst e
    refine .inl ⟨wk.stop _ H' y.h (Nat.le_refl _), ?_⟩
    rw [List.drop_length] at k2
    have k3 : RK C W (RE C) (.ok (.list (acc ++ []))) F1 σ H1 Q := k2
    rw [List.append_nil] at k3
    refine k3 (.ref D) (upd F' D (.lst av)) H' ⟨?_, y.h, fun a h1 h2 => ?_, fun b o q => ?_⟩ (.lst (.inl (.inl upd_same)) (dpsMono (same_new nD) _ _ da))
    · exact y.f.trans (same_new nD)
    · rw [upd_ne (fun z => h1 (by rw [z]; exact hD))]; exact y.n a h1 h2
    · by_cases hb : b = D
      · subst hb; rw [upd_same] at q; cases q; exact eD
      · rw [upd_ne hb] at q; exact y.fh _ _ q⟩
theorem x_lc (hc : X.calm = true) (hN : X.N.Nodup) (hi : PI X tg iter (tIq C W mi)) (ok : BlkOk X.N X.env.scope scope own) (tok : TgOk C (own.map (·.2)) g t)
    (hg : ∀ (s : Shared) (H : Hp) (D : Addr) (cl : List (Str × Addr)) (fp : List Addr), PG (X.blk s H scope (compEnvC scope cl D X.env) fp) tg g) (ht : ∀ (s : Shared) (H : Hp) (D : Addr) (cl : List (Str × Addr)) (fp : List Addr), PTs (X.blk s H scope (compEnvC scope cl D X.env) fp) ifs (tT C W0 mt))
    (he : ∀ (s : Shared) (H : Hp) (D : Addr) (cl : List (Str × Addr)) (fp : List Addr), PE (X.blk s H scope (compEnvC scope cl D X.env) fp) elt (tE C W0 me)) (hs : ∀ x, foldedSetIterable iter X.env x = pure x := by intro _; rfl) :
    PE X (.ListComp elt [⟨tg, iter, ifs, 0⟩] scope pos) (tE C W (mLc (own.map (·.2)) mi t mt me)) := pe_wk (pe_lc hc hN hi ok hg ht he hs) (lc_read tok)
end
end Stm
set_option Elab.async false
set_option linter.all false
set_option maxRecDepth 100000
set_option maxHeartbeats 4000000
namespace Stm
open PySem PySem.Spec PyProof.Rows L2

/-! ### slices -/
def cutD {α : Type} (ds : List α) (lo hi : Option Int) : List α := (ds.drop (HT.sIx ds.length 0 lo)).take (HT.sIx ds.length ds.length hi - HT.sIx ds.length 0 lo)
abbrev OM := Rho → Res (Option Int)
def mPart (m : EM) : OM := fun ρ => (m ρ).bind fun | .int i => .ok (some i) | _ => .stuck
def mNoPart : OM := fun _ => .ok none
def dCut : PyData → Option Int → Option Int → Res PyData
  | .list ds, lo, hi => .ok (.list (cutD ds lo hi))
  | .tuple ds, lo, hi => .ok (.tuple (cutD ds lo hi))
  | _, _, _ => .stuck
def mCut (m : EM) (lo hi : OM) : EM := fun ρ => (m ρ).bind fun d => (lo ρ).bind fun l => (hi ρ).bind fun h => dCut d l h
theorem cutD_dps {K : PySem.W.Frag} {H : Hp} {ds : List PyData} {vs : List V} {lo hi : Option Int} (a : DpAll K H vs ds) : DpAll K H (cutV vs lo hi) (cutD ds lo hi) := by
  unfold cutV cutD
  rw [dpsLen a]
  exact dpsTake _ (dpsDrop _ a)
theorem cutD_whole {α : Type} {ds : List α} {lo hi : Option Int} (h : HT.sIx ds.length 0 lo = 0 ∧ HT.sIx ds.length ds.length hi = ds.length) : cutD ds lo hi = ds := by
  unfold cutD
  rw [h.1, h.2, List.drop_zero, Nat.sub_zero, List.take_length]
section
variable {X : Cx} {C : Cst} {W : WX} {pos p2 : Pos} {e : Expr} {lo hi : Option Expr} {m : EM} {ml mh : OM}
def tO (C : Cst) (W : WX) (m : OM) : TO := fun σ H Q => ∃ ρ F, Ag C F ρ σ H ∧ RK C W (fun _ _ a b => a = b) (m ρ) F σ H Q
theorem po_wk {X : Cx} {e : Option Expr} {t t' : TO} (h : PO X e t) (w : ∀ σ H Q, t' σ H Q → t σ H Q) : PO X e t' := ⟨fun pins s σ H Q I q => h.run pins s σ H Q I (w σ H Q q)⟩
theorem xo_none : PO X none (tO C W mNoPart) := po_wk po_none fun σ H Q ⟨ρ, F, ag, k⟩ => k none F H (Xt.refl ag.fh) rfl
theorem xo_some (h : PE X e (tQ C W m)) : PO X (some e) (tO C W (mPart m)) := po_wk (po_some h) fun σ H Q ⟨ρ, F, ag, k⟩ => ⟨ρ, F, ag, RK.bind k fun d v F1 H1 x1 b1 k1 => by
  cases d with
  | int i => exact ⟨i, b1.int, k1 _ F1 H1 (Xt.refl x1.fh) rfl⟩
  | _ => exact False.elim k1⟩
theorem x_cut (hK : X.K = C.K) (h : PE X e (tQ C W m)) (hl : PO X lo (tO C W ml)) (hh : PO X hi (tO C W mh)) : PE X (.Subscript e (.Slice lo hi none p2) pos) (tE C W (mCut m ml mh)) :=
  pe_wk (pe_slice (sl_list.or sl_tupA) h hl hh) fun σ H Q ⟨ρ, F, ag, k⟩ => ⟨ρ, F, ag, RK.bind k fun d v F1 H1 x1 b1 k1 => ⟨ρ, F1, ag.ext x1, RK.bind k1 fun l l' F2 H2 x2 (b2 : l' = l) k2 => ⟨ρ, F2, (ag.ext x1).ext x2, RK.bind k2 fun u u' F3 H3 x3 (b3 : u' = u) k3 => by
    subst b2 b3
    have b4 := (b1.ext x2).ext x3
    cases d with
    | list ds =>
      obtain ⟨a, vs, rfl, h1, a1⟩ := b4.list x3.fh
      refine .inl ⟨a, vs, rfl, hK ▸ h1, fun p hp => ?_⟩
      have y := Xt.new (o := .lst (cutV vs l' u')) x3.fh hp
      exact k3 _ _ _ y (.lst (.inl (.inl upd_same)) (dpsMono y.f _ _ (cutD_dps a1)))
    | tuple ds =>
      rcases b4 with b4 | ⟨_, _, _, _, e, _⟩
      · cases b4 with
        | @tup a vs _ h1 a1 =>
          refine .inr ⟨a, vs, rfl, hK ▸ seqT x3.fh h1, fun hw => ?_, fun hw p hp => ?_⟩
          · rw [dpsLen a1] at hw
            have k4 : RK C W (RE C) (.ok (.tuple (cutD ds l' u'))) F3 σ H3 Q := k3
            rw [cutD_whole hw] at k4
            exact okK k4 x3.fh (.tup h1 a1)
          · have y := Xt.new (o := .tup (cutV vs l' u')) x3.fh hp
            exact k3 _ _ _ y (.tup (.inl (.inl upd_same)) (dpsMono y.f _ _ (cutD_dps a1)))
      · cases e
    | _ => exact False.elim k3⟩⟩⟩
end

/-! ### a def's promise -/
abbrev DM := List PyData → Res PyData
/-- called with data it tells what M tells -/
def spM (K : PySem.W.Frag) (cl : Ex → Value) (n : Nat) (M : DM) : Sp := fun vs H Q E => vs.length = n ∧ ∃ ds F, Same F H ∧ DpAll K F vs ds ∧
  match M ds with
  | .ok d => ∀ v F' H', Xt F H F' H' → Dp K F' v d → Q v H'
  | .exc c => ∀ F' H', Xt F H F' H' → E (cl c) none H'
  | .stuck => False
def mCall (M : DM) (r : AM) : EM := fun ρ => (r ρ).bind M
section
variable {X : Cx} {C : Cst} {W : WX} {pos p : Pos} {e : Expr} {es : List Expr} {ms : AM} {k : Nat} {f : Addr} {fd : FuncData} {ps : List Str} {x : Str} {M : DM}
theorem mCons_len {ρ : Rho} : ∀ {n : Nat} {ms : AM}, True → True := fun _ => trivial
theorem x_call (hK : X.K = C.K) (n : Nat) (G : FnOk X.prog X.w X.K X.mg X.base (L2.CX X.prog X.w) k f fd ps (spM X.K C.cl n M)) (hr : Room k X.A) (hg : Gl X x) (hm : X.mg x = some (.ref f)) (hk : PySem.W.keepIn X.K (.ref f) = true) (hb : Binds X.K fd ps []) (tk : Takes X W)
    (ha : PA X (e :: es) (tAs C W ms)) (hn : ∀ ρ ds, ms ρ = .ok ds → ds.length = n) (hdb : (x == ("__debug__" : Str)) = false := by decide) (he : starEach (e :: es) X.env = (false, eval e X.env) :: starEach es X.env := by rfl) (hpl : (backTo pos (starEach es X.env)).any (·.1) = false := by rfl) :
    PE X (.Call (.Name x p) (e :: es) [] pos) (tE C W (mCall M ms)) := pe_wk (pe_callS G hr hg hm hk hb (fun σ => passAt tk σ) ha hdb he hpl) fun σ H Q ⟨ρ, F, ag, q⟩ => ⟨ρ, F, ag, by
  unfold mCall at q
  cases em : ms ρ with
  | exc c => rw [em] at q; exact q
  | stuck => rw [em] at q; exact q
  | ok ds =>
    have q' : RK C W (RE C) (M ds) F σ H Q := by rw [em] at q; exact q
    intro vs F1 H1 x1 b1
    refine ⟨by rw [dpsLen b1]; exact hn _ _ em, ds, F1, x1.fh, hK ▸ b1, ?_⟩
    have q2 := RK.mono q' x1
    cases h : M ds with
    | ok d => rw [h] at q2; exact fun v F' H' y hd => q2 v F' H' y (by rw [hK] at hd; exact hd)
    | exc c => rw [h] at q2; exact fun F' H' y => q2 F' H' y
    | stuck => rw [h] at q2; exact q2⟩
end
/-- how many arguments a list of terms gives -/
inductive ALen : AM → Nat → Prop
  | nil : ALen mNil 0
  | cons {a : EM} {r : AM} {n : Nat} : ALen r n → ALen (mCons a r) (n + 1)
theorem ALen.ok {ms : AM} {n : Nat} (h : ALen ms n) : ∀ ρ ds, ms ρ = .ok ds → ds.length = n := by
  induction h with
  | nil => intro ρ ds e; cases e; rfl
  | @cons a r n _ ih =>
    intro ρ ds e
    unfold mCons at e
    cases e1 : a ρ with
    | ok d =>
      cases e2 : r ρ with
      | ok es =>
        rw [e1, e2] at e
        cases e
        rw [List.length_cons, ih ρ es e2]
      | exc c => rw [e1, e2] at e; cases e
      | stuck => rw [e1, e2] at e; cases e
    | exc c => rw [e1] at e; cases e
    | stuck => rw [e1] at e; cases e

/-! ### statements -/
structure Rt (C : Cst) (F H : Hp) : Prop where
  s0 : Same C.H0 H
  f0 : Same C.F0 F
  fh : Same F H
  nb : ∀ a, C.H0 a ≠ none → C.F0 a = none → F a = none
theorem Ag.rt {C : Cst} {F H : Hp} {ρ : Rho} {σ : L2.St} (a : Ag C F ρ σ H) : Rt C F H := ⟨a.s0, a.f0, a.fh, a.nb⟩
def SK (C : Cst) (W : WX) (r : SRes) (F : Hp) (D : Ends) : Prop :=
  match r with
  | .nx ρ' => ∀ σ' F' H', Same F F' → Ag C F' ρ' σ' H' → D.nx σ' H'
  | .rt d => ∀ v F' H', Rt C F' H' → Dp C.K F' v d → D.rt v H'
  | .exc c ρ' => ∀ σ' F' H', Same F F' → Ag C F' ρ' σ' H' → W (C.cl c) none σ' H'
  | .stuck => False
def tS (C : Cst) (W : WX) (m : SM) : TS := fun D σ H => ∃ ρ F, Ag C F ρ σ H ∧ SK C W (m ρ) F D
theorem SK.mono {C : Cst} {W : WX} {r : SRes} {F F1 : Hp} {D : Ends} (k : SK C W r F D) (h : Same F F1) : SK C W r F1 D := by
  cases r with
  | nx ρ' => exact fun σ' F' H' q => k σ' F' H' (h.trans q)
  | rt d => exact k
  | exc c ρ' => exact fun σ' F' H' q => k σ' F' H' (h.trans q)
  | stuck => exact k
def sBind {α : Type} (x : Res α) (ρ : Rho) (f : α → SRes) : SRes :=
  match x with
  | .ok a => f a
  | .exc c => .exc c ρ
  | .stuck => .stuck
theorem SK.bind {C : Cst} {W : WX} {γ δ : Type} {R1 : Hp → Hp → δ → γ → Prop} {x : Res γ} {ρ : Rho} {f : γ → SRes} {F H : Hp} {σ : L2.St} {D : Ends} {Q1 : δ → Hp → Prop} (ag : Ag C F ρ σ H)
    (h : SK C W (sBind x ρ f) F D) (k : ∀ d v F1 H1, Xt F H F1 H1 → R1 F1 H1 v d → SK C W (f d) F1 D → Q1 v H1) : RK C W R1 x F σ H Q1 := by
  cases x with
  | ok d => exact fun v F' H' y q => k d v F' H' y q (SK.mono (r := f d) h y.f)
  | exc c => exact fun F' H' y => h σ F' H' y.f (ag.ext y)
  | stuck => exact h
def sNil : SM := fun ρ => .nx ρ
def sSeq (a b : SM) : SM := fun ρ => match a ρ with
  | .nx ρ' => b ρ'
  | r => r
def sExpr (m : EM) : SM := fun ρ => sBind (m ρ) ρ fun _ => .nx ρ
def sSet (i : Nat) (m : EM) : SM := fun ρ => sBind (m ρ) ρ fun d => .nx (ρ.set i (.val d))
def sRet (m : EM) : SM := fun ρ => sBind (m ρ) ρ fun d => .rt d
def sIf (c : TM) (a b : SM) : SM := fun ρ => sBind (c ρ) ρ fun k => if k = true then a ρ else b ρ
def sRaise (c : Ex) : SM := fun ρ => .exc c ρ
/-- x = [..], a list of the def's own -/
def sOwnL (i : Nat) (ms : AM) : SM := fun ρ => sBind (ms ρ) ρ fun ds => if ds.length ≤ LIM then .nx (ρ.set i (.own ds)) else .stuck
/-- x = list(e), a list of the def's own -/
def sOwnC (i : Nat) (m : EM) : SM := fun ρ => sBind (m ρ) ρ fun | .list ds => .nx (ρ.set i (.own ds)) | .tuple ds => .nx (ρ.set i (.own ds)) | _ => .stuck
/-- x = y, y a list of the def's own that is given up -/
def sMove (j i : Nat) : SM := fun ρ => match ρ[i]? with
  | some (.own ds) => .nx ((ρ.set i (.val (.list ds))).set j (.val (.list ds)))
  | _ => .stuck
/-- return x, x a list of the def's own -/
def sRetO (i : Nat) : SM := fun ρ => match ρ[i]? with
  | some (.own ds) => .rt (.list ds)
  | some (.val d) => .rt d
  | _ => .stuck
def sApp (i : Nat) (m : EM) : SM := fun ρ => match ρ[i]? with
  | some (.own ds) => sBind (m ρ) ρ fun d => if ds.length < LIM then .nx (ρ.set i (.own (ds ++ [d]))) else .stuck
  | _ => .stuck
def sExt (i : Nat) (m : EM) : SM := fun ρ => match ρ[i]? with
  | some (.own ds) => sBind (m ρ) ρ fun | .list es => if ds.length + es.length ≤ LIM then .nx (ρ.set i (.own (ds ++ es))) else .stuck | _ => .stuck
  | _ => .stuck
def forGo (t : TgM) (mb : SM) : List PyData → Rho → SRes
  | [], ρ => .nx ρ
  | d :: ds, ρ => match t d ρ with
    | none => .stuck
    | some ρ1 => match mb ρ1 with
      | .nx ρ2 => forGo t mb ds ρ2
      | r => r
def sFor (mi : Rho → Res (List PyData)) (t : TgM) (mb : SM) : SM := fun ρ => sBind (mi ρ) ρ fun ds => forGo t mb ds ρ
def whGo (c : TM) (mb : SM) : Nat → Rho → SRes
  | 0, _ => .stuck
  | n + 1, ρ => sBind (c ρ) ρ fun k => if k = true then match mb ρ with
      | .nx ρ2 => whGo c mb n ρ2
      | r => r
    else .nx ρ
def sWh (n : Nat) (c : TM) (mb : SM) : SM := fun ρ => whGo c mb n ρ
/-- a slot gets a new object of the def's own -/
theorem Ag.own {C : Cst} {F H : Hp} {ρ : Rho} {σ : L2.St} (a : Ag C F ρ σ H) {i : Nat} {p : Addr} {s : Sl} {o : HO} (hp : H p = none) (hs : SlotOk C F (upd H p o) s (some (.ref p))) : Ag C F (ρ.set i s) (σ.set i (some (.ref p))) (upd H p o) := by
  have x : Xt F H F (upd H p o) := Xt.grow a.fh hp
  have b := a.ext x
  have old : ∀ (j : Nat) (sj : Sl), ρ[j]? = some sj → isOwn sj = true → σ[j]? = some (some (.ref p)) → False := fun j sj e h1 h2 => by
    obtain ⟨q, e1, e2⟩ := a.sl j sj e
    rw [h2] at e1; cases e1
    cases sj with
    | un => cases h1
    | val d => cases h1
    | own ds => obtain ⟨p', vs, e3, e4, _⟩ := e2; cases e3; rw [hp] at e4; cases e4
    | dI ks => obtain ⟨p', e3, e4, _⟩ := e2; cases e3; rw [hp] at e4; cases e4
    | dT ks => obtain ⟨p', e3, ⟨_, _, _, _, _, _, e4⟩, _⟩ := e2; cases e3; rw [hp] at e4; cases e4
  exact
    { s0 := b.s0, f0 := b.f0, fh := b.fh, nb := b.nb
      len := by rw [List.length_set, List.length_set]; exact a.len
      sl := fun j sj e => by
        by_cases h : i = j
        · subst h
          have hl : i < ρ.length := by
            have := (List.getElem?_eq_some_iff.mp e).1
            rw [List.length_set] at this; exact this
          rw [List.getElem?_set_self hl] at e
          cases e
          exact ⟨some (.ref p), by rw [List.getElem?_set_self (by rw [← a.len]; exact hl)], hs⟩
        · rw [List.getElem?_set_ne h] at e
          obtain ⟨q, h1, h2⟩ := b.sl j sj e
          exact ⟨q, by rw [List.getElem?_set_ne h]; exact h1, h2⟩
      sep := fun j k sj sk q hjk e1 e2 o1 o2 h1 h2 => by
        have get : ∀ (j : Nat) (sj : Sl), (ρ.set i s)[j]? = some sj → i = j → (σ.set i (some (V.ref p)))[j]? = some (some (.ref q)) → q = p := fun j sj e z h => by
          subst z
          have hl : i < ρ.length := by
            have := (List.getElem?_eq_some_iff.mp e).1
            rw [List.length_set] at this; exact this
          rw [List.getElem?_set_self (by rw [← a.len]; exact hl)] at h
          cases h; rfl
        by_cases hj : i = j
        · have e := get j sj e1 hj h1
          subst e
          have hk : i ≠ k := fun z => hjk (hj.symm.trans z)
          rw [List.getElem?_set_ne hk] at e2 h2
          exact old k sk e2 o2 h2
        · by_cases hk : i = k
          · have e := get k sk e2 hk h2
            subst e
            rw [List.getElem?_set_ne hj] at e1 h1
            exact old j sj e1 o1 h1
          · rw [List.getElem?_set_ne hj] at e1 h1
            rw [List.getElem?_set_ne hk] at e2 h2
            exact a.sep j k sj sk q hjk e1 e2 o1 o2 h1 h2 }
theorem own_addr {C : Cst} {F H : Hp} : ∀ {s : Sl} {o : Option V}, isOwn s = true → SlotOk C F H s o → ∃ p, o = some (.ref p) ∧ H p ≠ none ∧ F p = none ∧ C.H0 p = none
  | .un, _, h, _ => by cases h
  | .val _, _, h, _ => by cases h
  | .own ds, _, _, ⟨p, vs, e, h1, h2, h3, _⟩ => ⟨p, e, (by rw [h1]; exact fun z => (nomatch z)), h2, h3⟩
  | .dI ks, _, _, ⟨p, e, h1, h2, h3⟩ => ⟨p, e, (by rw [h1]; exact fun z => (nomatch z)), h2, h3⟩
  | .dT ks, _, _, ⟨p, e, ⟨_, _, _, _, _, _, h1⟩, h2, h3⟩ => ⟨p, e, (by rw [h1]; exact fun z => (nomatch z)), h2, h3⟩
theorem SlotOk.but {C : Cst} {F H : Hp} {p : Addr} {o : HO} : ∀ {s : Sl} {v : Option V}, SlotOk C F H s v → (isOwn s = true → v ≠ some (.ref p)) → SlotOk C F (upd H p o) s v
  | .un, _, _, _ => trivial
  | .val d, _, h, _ => h
  | .own ds, _, ⟨q, vs, e, h1, h2, h3, h4⟩, n => ⟨q, vs, e, by rw [upd_ne (fun z => n rfl (by rw [e, z]))]; exact h1, h2, h3, h4⟩
  | .dI ks, _, ⟨q, e, h1, h2, h3⟩, n => ⟨q, e, by rw [upd_ne (fun z => n rfl (by rw [e, z]))]; exact h1, h2, h3⟩
  | .dT ks, _, ⟨q, e, ⟨xs, a1, a2, a3, a4, a5, h1⟩, h2, h3⟩, n => ⟨q, e, ⟨xs, a1, a2, a3, a4, a5, by rw [upd_ne (fun z => n rfl (by rw [e, z]))]; exact h1⟩, h2, h3⟩
/-- an object of the def's own is changed -/
theorem Ag.change {C : Cst} {F H : Hp} {ρ : Rho} {σ : L2.St} (a : Ag C F ρ σ H) {i : Nat} {p : Addr} {s s' : Sl} {o : HO} (hi : ρ[i]? = some s) (ho : isOwn s = true) (hσ : σ[i]? = some (some (.ref p))) (hs : SlotOk C F (upd H p o) s' (some (.ref p))) (ho' : isOwn s' = true) : Ag C F (ρ.set i s') σ (upd H p o) := by
  obtain ⟨v, e1, e2⟩ := a.sl i s hi
  rw [hσ] at e1; cases e1
  obtain ⟨p', e3, hp, fp, h0⟩ := own_addr ho e2
  cases e3
  refine ⟨fun b u e => ?_, a.f0, fun b u e => ?_, a.nb, by rw [List.length_set]; exact a.len, fun j sj e => ?_, fun j k sj sk q hjk q1 q2 o1 o2 h1 h2 => ?_⟩
  · rw [upd_ne (ne_of_none e h0)]; exact a.s0 _ _ e
  · rw [upd_ne (ne_of_none e fp)]; exact a.fh _ _ e
  · by_cases h : i = j
    · subst h
      rw [List.getElem?_set_self (List.getElem?_eq_some_iff.mp hi).1] at e
      cases e
      exact ⟨_, hσ, hs⟩
    · rw [List.getElem?_set_ne h] at e
      obtain ⟨q, h1, h2⟩ := a.sl j sj e
      refine ⟨q, h1, h2.but fun z1 z2 => ?_⟩
      subst z2
      exact a.sep i j s sj p h hi e ho z1 hσ h1
  · have back : ∀ (j : Nat) (sj : Sl), (ρ.set i s')[j]? = some sj → isOwn sj = true → ∃ sj', ρ[j]? = some sj' ∧ isOwn sj' = true := fun j sj e h => by
      by_cases z : i = j
      · subst z; exact ⟨s, hi, ho⟩
      · rw [List.getElem?_set_ne z] at e; exact ⟨sj, e, h⟩
    obtain ⟨a1, b1, c1⟩ := back j sj q1 o1
    obtain ⟨a2, b2, c2⟩ := back k sk q2 o2
    exact a.sep j k a1 a2 q hjk b1 b2 c1 c2 h1 h2
end Stm
set_option Elab.async false
set_option linter.all false
set_option maxRecDepth 100000
set_option maxHeartbeats 4000000
namespace Stm
open PySem PySem.Spec PyProof.Rows L2
section
variable {X : Cx} {C : Cst} {W : WX} {pos : Pos} {e : Expr} {st : Stmt} {rest a b : List Stmt} {m : EM} {ms : AM} {mt : TM} {ma mb : SM} {x : Str} {i : Nat}

theorem s_nil : PSs X [] (tS C W sNil) := pss_wk pss_nil fun D σ H ⟨ρ, F, ag, k⟩ => k σ F H (Same.refl _) ag
theorem sk_seq {r : SRes} {F : Hp} {D : Ends} {mb : SM} (k : SK C W (match r with | .nx ρ' => mb ρ' | r => r) F D) : SK C W r F { D with nx := tS C W mb D } := by
  cases r with
  | nx ρ' => exact fun σ' F' H' q ag => ⟨ρ', F', ag, SK.mono (r := mb ρ') k q⟩
  | rt d => exact k
  | exc c ρ' => exact k
  | stuck => exact k
theorem s_seq (h : PS X st (tS C W ma)) (g : PSs X rest (tS C W mb)) : PSs X (st :: rest) (tS C W (sSeq ma mb)) := pss_wk (pss_cons h g) fun D σ H ⟨ρ, F, ag, k⟩ => ⟨ρ, F, ag, sk_seq k⟩
theorem s_one (h : PS X st (tS C W ma)) : PSs X [st] (tS C W ma) := pss_one h
theorem s_expr (h : PE X e (tE C W m)) (hs : swapsWith e none pos.line X.env = pure false := by rfl) : PS X (.Expr e pos) (tS C W (sExpr m)) := ps_wk (ps_expr h hs) fun D σ H ⟨ρ, F, ag, k⟩ => ⟨ρ, F, ag, SK.bind ag k fun d v F1 H1 x1 b1 k1 => k1 σ F1 H1 (Same.refl _) (ag.ext x1)⟩
theorem set_read {te : TE} (w : ∀ σ H Q, tE C W m σ H Q → te σ H Q) : ∀ D σ H, tS C W (sSet i m) D σ H → tAsg te (gName i) D σ H := fun D σ H ⟨ρ, F, ag, k⟩ => w σ H _ ⟨ρ, F, ag, SK.bind ag k fun d v F1 H1 x1 b1 k1 => k1 _ F1 H1 (Same.refl _) ((ag.ext x1).set b1)⟩
theorem s_set {pos' : Pos} (hN : X.N.Nodup) (hi : X.N[i]? = some x) (hx : Loc X.env.scope x) (h : PE X e (tE C W m)) (hs : swapsWith e (some (.Name x pos')) pos.line X.env = pure false := by rfl) (hf : X.fn x = true ∨ X.env.scope.names.lookup x = some .local := by first | exact .inl rfl | exact .inr rfl | assumption) :
    PS X (.Assign [.Name x pos'] e pos) (tS C W (sSet i m)) := ps_wk (ps_set hN hi hx h hs hf) (set_read fun _ _ _ q => q)
/-- y = [.. for ..] -/
theorem s_setLc {py spos : Pos} {elt tg iter : Expr} {ifs : List Expr} {scope : Scope} {own : List (Str × Nat)} {mi : Rho → Res (List PyData)} {g : TG} {t : TgM} {me : EM} {y : Str} (hc : X.calm = true) (hN : X.N.Nodup) (hy : X.N[i]? = some y) (hyl : X.env.scope.names.lookup y = some .local)
    (hsw : swapsWith (.ListComp elt [⟨tg, iter, ifs, 0⟩] scope pos) (some (.Name y py)) spos.line X.env = pure true) (hi : PI X tg iter (tIq C W mi)) (ok : BlkOk X.N X.env.scope scope own) (tok : TgOk C (own.map (·.2)) g t)
    (hg : ∀ (s : Shared) (H : Hp) (D : Addr) (cl : List (Str × Addr)) (fp : List Addr), PG (X.blk s H scope (compEnvC scope cl D X.env) fp) tg g) (ht : ∀ (s : Shared) (H : Hp) (D : Addr) (cl : List (Str × Addr)) (fp : List Addr), PTs (X.blk s H scope (compEnvC scope cl D X.env) fp) ifs (tT C W0 mt))
    (he : ∀ (s : Shared) (H : Hp) (D : Addr) (cl : List (Str × Addr)) (fp : List Addr), PE (X.blk s H scope (compEnvC scope cl D X.env) fp) elt (tE C W0 me)) (hs : ∀ x, foldedSetIterable iter X.env x = pure x := by intro _; rfl) :
    PS X (.Assign [.Name y py] (.ListComp elt [⟨tg, iter, ifs, 0⟩] scope pos) spos) (tS C W (sSet i (mLc (own.map (·.2)) mi t mt me))) := ps_wk (ps_setLc hc hN hy hyl hsw hi ok hg ht he hs) (set_read (lc_read tok))
theorem s_ret (h : PE X e (tE C W m)) : PS X (.Return (some e) pos) (tS C W (sRet m)) := ps_wk (ps_ret h) fun D σ H ⟨ρ, F, ag, k⟩ => ⟨ρ, F, ag, SK.bind ag k fun d v F1 H1 x1 b1 k1 => k1 v F1 H1 (ag.ext x1).rt b1⟩
theorem s_if {c : Expr} (h : PT X c (tT C W mt)) (ha : PSs X a (tS C W ma)) (hb : PSs X b (tS C W mb)) : PS X (.If c a b pos) (tS C W (sIf mt ma mb)) := ps_wk (ps_if h ha hb) fun D σ H ⟨ρ, F, ag, k⟩ => ⟨ρ, F, ag, SK.bind ag k fun d v F1 H1 x1 (b1 : v = d) k1 => by
  subst b1
  cases v with
  | true => exact ⟨ρ, F1, ag.ext x1, k1⟩
  | false => exact ⟨ρ, F1, ag.ext x1, k1⟩⟩
def sSet2 (i j : Nat) (m : EM) : SM := fun ρ => sBind (m ρ) ρ fun | .tuple [a, b] => .nx ((ρ.set i (.val a)).set j (.val b)) | _ => .stuck
theorem s_set2 {j : Nat} {y : Str} {px py pt : Pos} {kt : Nat} (hK : X.K = C.K) (hc : X.calm = true) (h : PE X e (tE C W m)) (g1 : PG X (.Name x px) (gName i)) (g2 : PG X (.Name y py) (gName j))
    (hs : swapsWithSole [.Tuple [.Name x px, .Name y py] kt pt] e pos.line X.env = pure false := by rfl) (hw : swappedStores [.Tuple [.Name x px, .Name y py] kt pt] e X.env = pure none := by rfl) :
    PS X (.Assign [.Tuple [.Name x px, .Name y py] kt pt] e pos) (tS C W (sSet2 i j m)) := ps_wk (ps_asg h (pg_tup hc (pgs_cons g1 (pgs_cons g2 pgs_nil))) hs hw) fun D σ H ⟨ρ, F, ag, k⟩ => ⟨ρ, F, ag, SK.bind ag k fun d v F1 H1 x1 b1 k1 => by
  split at k1
  · rename_i d1 d2
    cases b1 with
    | @tup p ws _ h1 a1 =>
      cases a1 with
      | @cons v1 _ _ _ q1 a2 =>
        cases a2 with
        | @cons v2 _ _ _ q2 a3 =>
          cases a3
          exact ⟨p, _, rfl, hK ▸ seqT x1.fh h1, rfl, v1, _, rfl, v2, _, rfl, rfl, k1 _ F1 H1 (Same.refl _) (((ag.ext x1).set q1).set q2)⟩
  · exact False.elim k1⟩

/-! ### lists of the def's own -/
theorem s_ownL {es : List Expr} {p2 pos' : Pos} (hN : X.N.Nodup) (hi : X.N[i]? = some x) (hx : Loc X.env.scope x) (h : PA X es (tAs C W ms)) (hs : swapsWith (.List es p2) (some (.Name x pos')) pos.line X.env = pure false := by rfl)
    (hf : X.fn x = true ∨ X.env.scope.names.lookup x = some .local := by first | exact .inl rfl | exact .inr rfl | assumption) : PS X (.Assign [.Name x pos'] (.List es p2) pos) (tS C W (sOwnL i ms)) :=
  ps_wk (ps_set hN hi hx (pe_lst h) hs hf) fun D σ H ⟨ρ, F, ag, k⟩ => ⟨ρ, F, ag, SK.bind ag k fun ds vs F1 H1 x1 b1 k1 => by
    by_cases hl : ds.length ≤ LIM
    · simp only [if_pos hl] at k1
      refine ⟨by rw [dpsLen b1]; exact lim_le hl, fun p hp => ?_⟩
      have a1 := ag.ext x1
      exact k1 _ F1 _ (Same.refl _) (a1.own hp ⟨p, vs, rfl, upd_same, x1.fh.free hp, a1.s0.free hp, b1⟩)
    · simp only [if_neg hl] at k1; exact False.elim k1⟩
theorem s_ownC {p p2 pos' : Pos} {c : Str} (hK : X.K = C.K) (hN : X.N.Nodup) (hi : X.N[i]? = some x) (hx : Loc X.env.scope x) (hg : Gl X "list") (hm : X.mg "list" = none) (h : PE X e (tQ C W m)) (hs : swapsWith (.Call (.Name "list" p) [e] [] p2) (some (.Name x pos')) pos.line X.env = pure false := by rfl)
    (hf : X.fn x = true ∨ X.env.scope.names.lookup x = some .local := by first | exact .inl rfl | exact .inr rfl | assumption)
    (he : starEach (e :: []) X.env = (false, eval e X.env) :: starEach [] X.env := by rfl) : PS X (.Assign [.Name x pos'] (.Call (.Name "list" p) [e] [] p2) pos) (tS C W (sOwnC i m)) :=
  ps_wk (ps_set hN hi hx (pe_callTy call_list_of hg hm (by decide +kernel) (pa_cons h pa_nil he) (by decide) (by decide) he (by rfl)) hs hf) fun D σ H ⟨ρ, F, ag, k⟩ => ⟨ρ, F, ag, SK.bind ag k fun d v F1 H1 x1 b1 k1 => by
    split at k1
    · rename_i ds
      obtain ⟨q, vs, rfl, h1, a1⟩ := b1.list x1.fh
      refine ⟨q, vs, rfl, .inl (hK ▸ h1), fun p hp => ?_⟩
      have ag1 := ag.ext x1
      exact k1 _ F1 _ (Same.refl _) (ag1.own hp ⟨p, vs, rfl, upd_same, x1.fh.free hp, ag1.s0.free hp, a1⟩)
    · rename_i ds
      obtain ⟨q, vs, rfl, h1, a1⟩ := b1.tup x1.fh
      refine ⟨q, vs, rfl, .inr (hK ▸ h1), fun p hp => ?_⟩
      have ag1 := ag.ext x1
      exact k1 _ F1 _ (Same.refl _) (ag1.own hp ⟨p, vs, rfl, upd_same, x1.fh.free hp, ag1.s0.free hp, a1⟩)
    · exact False.elim k1⟩
/-- a list of the def's own is given up: it stays as it is -/
theorem Ag.freeze {F H : Hp} {ρ : Rho} {σ : L2.St} (a : Ag C F ρ σ H) {i : Nat} {p : Addr} {vs : List V} {ds : List PyData} (hi : ρ[i]? = some (.own ds)) (hσ : σ[i]? = some (some (.ref p))) (hp : H p = some (.lst vs)) (fp : F p = none) (h0 : C.H0 p = none) (hd : DpAll C.K F vs ds) :
    Same F (upd F p (.lst vs)) ∧ Ag C (upd F p (.lst vs)) (ρ.set i (.val (.list ds))) σ H := by
  have sF : Same F (upd F p (.lst vs)) := same_new fp
  have dd : Dp C.K (upd F p (.lst vs)) (.ref p) (.list ds) := .lst (.inl (.inl upd_same)) (dpsMono sF _ _ hd)
  refine ⟨sF, a.s0, a.f0.trans sF, fun b u e => ?_, fun b h1 h2 => ?_, by rw [List.length_set]; exact a.len, fun j sj e => ?_, fun j k sj sk q hjk q1 q2 o1 o2 h1 h2 => ?_⟩
  · by_cases hb : b = p
    · subst hb; rw [upd_same] at e; cases e; exact hp
    · rw [upd_ne hb] at e; exact a.fh _ _ e
  · rw [upd_ne (fun z => h1 (by rw [z]; exact h0))]; exact a.nb b h1 h2
  · by_cases h : i = j
    · subst h
      rw [List.getElem?_set_self (List.getElem?_eq_some_iff.mp hi).1] at e
      cases e
      exact ⟨_, hσ, _, rfl, dd⟩
    · rw [List.getElem?_set_ne h] at e
      obtain ⟨o, e1, e2⟩ := a.sl j sj e
      refine ⟨o, e1, ?_⟩
      have np : isOwn sj = true → o ≠ some (.ref p) := fun z1 z2 => by
        subst z2
        exact a.sep i j _ sj p h hi e rfl z1 hσ e1
      cases sj with
      | un => trivial
      | val d => obtain ⟨v, e3, e4⟩ := e2; exact ⟨v, e3, dpMono sF _ _ e4⟩
      | own es =>
        obtain ⟨q, ws, e3, h1, h2, h3, h4⟩ := e2
        exact ⟨q, ws, e3, h1, by rw [upd_ne (fun z => np rfl (by rw [e3, z]))]; exact h2, h3, dpsMono sF _ _ h4⟩
      | dI ks =>
        obtain ⟨q, e3, h1, h2, h3⟩ := e2
        exact ⟨q, e3, h1, by rw [upd_ne (fun z => np rfl (by rw [e3, z]))]; exact h2, h3⟩
      | dT ks =>
        obtain ⟨q, e3, h1, h2, h3⟩ := e2
        exact ⟨q, e3, h1.ext sF (Same.refl _), by rw [upd_ne (fun z => np rfl (by rw [e3, z]))]; exact h2, h3⟩
  · have back : ∀ (j : Nat) (sj : Sl), (ρ.set i (.val (.list ds)))[j]? = some sj → isOwn sj = true → ρ[j]? = some sj := fun j sj e h => by
      by_cases z : i = j
      · subst z
        rw [List.getElem?_set_self (List.getElem?_eq_some_iff.mp hi).1] at e
        cases e; cases h
      · rw [List.getElem?_set_ne z] at e; exact e
    exact a.sep j k sj sk q hjk (back j sj q1 o1) (back k sk q2 o2) o1 o2 h1 h2
theorem s_move {j : Nat} {y : Str} {pos' p : Pos} (hN : X.N.Nodup) (hj : X.N[j]? = some y) (hy : Loc X.env.scope y) (hi : X.N[i]? = some x) (hv : Vis X.env.scope x) (hd : (x == ("__debug__" : Str)) = false := by decide) (hcd : (x == ("__classdict__" : Str)) = false := by decide)
    (hs : swapsWith (.Name x p) (some (.Name y pos')) pos.line X.env = pure false := by rfl) (hf : X.fn y = true ∨ X.env.scope.names.lookup y = some .local := by first | exact .inl rfl | exact .inr rfl | assumption) :
    PS X (.Assign [.Name y pos'] (.Name x p) pos) (tS C W (sMove j i)) := ps_wk (ps_set hN hj hy (pe_var hi hv hd hcd) hs hf) fun D σ H ⟨ρ, F, ag, k⟩ => by
  unfold sMove at k
  split at k
  · rename_i ds e
    obtain ⟨o, h1, p, vs, rfl, h2, h3, h4, h5⟩ := ag.sl i _ e
    obtain ⟨sF, ag2⟩ := ag.freeze e h1 h2 h3 h4 h5
    exact ⟨_, h1, k _ _ H sF (ag2.set (.lst (.inl (.inl upd_same)) (dpsMono sF _ _ h5)))⟩
  · exact False.elim k
theorem s_retO {p : Pos} (hi : X.N[i]? = some x) (hv : Vis X.env.scope x) (hd : (x == ("__debug__" : Str)) = false := by decide) (hcd : (x == ("__classdict__" : Str)) = false := by decide) : PS X (.Return (some (.Name x p)) pos) (tS C W (sRetO i)) :=
  ps_wk (ps_ret (pe_var hi hv hd hcd)) fun D σ H ⟨ρ, F, ag, k⟩ => by
    unfold sRetO at k
    split at k
    · rename_i ds e
      obtain ⟨o, h1, p, vs, rfl, h2, h3, h4, h5⟩ := ag.sl i _ e
      obtain ⟨sF, ag2⟩ := ag.freeze e h1 h2 h3 h4 h5
      exact ⟨_, h1, k _ _ H ag2.rt (.lst (.inl (.inl upd_same)) (dpsMono sF _ _ h5))⟩
    · rename_i d e
      obtain ⟨o, h1, v, rfl, h2⟩ := ag.sl i _ e
      exact ⟨_, h1, k _ _ H ag.rt h2⟩
    · exact False.elim k
theorem s_app {p p2 p3 : Pos} (hi : X.N[i]? = some x) (hv : Vis X.env.scope x) (h : PE X e (tE C W m)) (hd : (x == ("__debug__" : Str)) = false := by decide) (hcd : (x == ("__classdict__" : Str)) = false := by decide)
    (hbase : attributeBase (.Name x p) "append" X.env (eval (.Name x p) X.env) = eval (.Name x p) X.env := by rfl)
    (hfew : ((backTo p3 (starEach (e :: []) X.env)).all (fun x => !x.1) && (backToKw p3 (keywordEach [] X.env)).all (fun x => x.1.isSome) && decide ((e :: ([] : List Expr)).length + ([] : List Keyword).length + (if ([] : List Keyword).isEmpty then 0 else 1) < 30)) = true := by rfl)
    (hline : (p2.endLine == p3.line) = true := by rfl) (he : starEach (e :: []) X.env = (false, eval e X.env) :: starEach [] X.env := by rfl) (hpl : (backTo p3 (starEach [] X.env)).any (·.1) = false := by rfl)
    (hs : swapsWith (.Call (.Attribute (.Name x p) "append" p2) [e] [] p3) none pos.line X.env = pure false := by rfl) :
    PS X (.Expr (.Call (.Attribute (.Name x p) "append" p2) [e] [] p3) pos) (tS C W (sApp i m)) :=
  ps_wk (ps_expr (pe_bm PySem.F.plainAttrs_list PySem.F.slot_list_append PySem.F.type_list_append mt_append (pe_var hi hv hd hcd) (pa_cons h pa_nil he) hbase hfew hline he hpl) hs) fun D σ H ⟨ρ, F, ag, k⟩ => by
    unfold sApp at k
    split at k
    · rename_i ds e1
      obtain ⟨o, h1, q, vs, rfl, h2, h3, h4, h5⟩ := ag.sl i _ e1
      refine ⟨_, h1, Or.inl ⟨rfl, _, .inl (.inl h2)⟩, ρ, F, ag, SK.bind ag k fun d v F1 H1 x1 b1 k1 => ?_⟩
      by_cases hl : ds.length < LIM
      · rw [if_pos hl] at k1
        have ag1 := ag.ext x1
        have g2 := x1.h _ _ h2
        have g3 := x1.n q (by rw [h2]; exact fun z => (nomatch z)) h3
        have g5 := dpsApp (dpsMono x1.f _ _ h5) (.cons b1 .nil)
        refine ⟨q, vs, v, rfl, rfl, g2, by rw [dpsLen h5]; exact Nat.lt_of_lt_of_le hl (by decide), k1 _ F1 _ (Same.refl _) (ag1.change e1 rfl h1 ⟨q, _, rfl, upd_same, g3, h4, g5⟩ rfl)⟩
      · rw [if_neg hl] at k1; exact False.elim k1
    · exact False.elim k
theorem s_ext {p p2 p3 : Pos} (hK : X.K = C.K) (hi : X.N[i]? = some x) (hv : Vis X.env.scope x) (h : PE X e (tQ C W m)) (hd : (x == ("__debug__" : Str)) = false := by decide) (hcd : (x == ("__classdict__" : Str)) = false := by decide)
    (hbase : attributeBase (.Name x p) "extend" X.env (eval (.Name x p) X.env) = eval (.Name x p) X.env := by rfl)
    (hfew : ((backTo p3 (starEach (e :: []) X.env)).all (fun x => !x.1) && (backToKw p3 (keywordEach [] X.env)).all (fun x => x.1.isSome) && decide ((e :: ([] : List Expr)).length + ([] : List Keyword).length + (if ([] : List Keyword).isEmpty then 0 else 1) < 30)) = true := by rfl)
    (hline : (p2.endLine == p3.line) = true := by rfl) (he : starEach (e :: []) X.env = (false, eval e X.env) :: starEach [] X.env := by rfl) (hpl : (backTo p3 (starEach [] X.env)).any (·.1) = false := by rfl)
    (hs : swapsWith (.Call (.Attribute (.Name x p) "extend" p2) [e] [] p3) none pos.line X.env = pure false := by rfl) :
    PS X (.Expr (.Call (.Attribute (.Name x p) "extend" p2) [e] [] p3) pos) (tS C W (sExt i m)) :=
  ps_wk (ps_expr (pe_bm PySem.F.plainAttrs_list PySem.F.slot_list_extend PySem.F.type_list_extend mt_extS (pe_var hi hv hd hcd) (pa_cons h pa_nil he) hbase hfew hline he hpl) hs) fun D σ H ⟨ρ, F, ag, k⟩ => by
    unfold sExt at k
    split at k
    · rename_i ds e1
      obtain ⟨o, h1, q, vs, rfl, h2, h3, h4, h5⟩ := ag.sl i _ e1
      refine ⟨_, h1, Or.inl ⟨rfl, _, .inl (.inl h2)⟩, ρ, F, ag, SK.bind ag k fun d v F1 H1 x1 b1 k1 => ?_⟩
      split at k1
      · rename_i es
        by_cases hl : ds.length + es.length ≤ LIM
        · rw [if_pos hl] at k1
          obtain ⟨q2, ws, rfl, g1, a1⟩ := b1.list x1.fh
          have ag1 := ag.ext x1
          have g2 := x1.h _ _ h2
          have g3 := x1.n q (by rw [h2]; exact fun z => (nomatch z)) h3
          have g5 := dpsApp (dpsMono x1.f _ _ h5) a1
          refine ⟨q, q2, vs, ws, rfl, rfl, g2, hK ▸ g1, by rw [dpsLen h5, dpsLen a1]; exact lim_le hl, k1 _ F1 _ (Same.refl _) (ag1.change e1 rfl h1 ⟨q, _, rfl, upd_same, g3, h4, g5⟩ rfl)⟩
        · rw [if_neg hl] at k1; exact False.elim k1
      · exact False.elim k1
    · exact False.elim k

/-! ### loops -/
theorem s_for {tg iter : Expr} {body : List Stmt} {mi : Rho → Res (List PyData)} {vs : List Nat} {g : TG} {t : TgM} (hp : PassesOwn (model X.prog X.w) X.A X.env X.xe) (hc : X.calm = true) (hi : PI X tg iter (tI C W mi)) (tok : TgOk C vs g t) (hg : PG X tg g) (hb : PSs X body (tS C W mb))
    (hs : ∀ x, foldedSetIterable iter X.env x = pure x := by intro _; rfl) : PS X (.For tg iter body [] pos) (tS C W (sFor mi t mb)) := ps_wk (ps_for hp hc hi hg hb hs) fun D σ H ⟨ρ, F, ag, k⟩ => ⟨ρ, F, ag, SK.bind ag k fun ds J F1 H1 x1 wk k1 => by
  refine ⟨fun i m σ' H' => m = ds.length - i ∧ i ≤ ds.length ∧ ∃ ρ' F', Same F1 F' ∧ Ag C F' ρ' σ' H' ∧ SK C W (forGo t mb (ds.drop i) ρ') F' D, ⟨_, rfl, Nat.zero_le _, ρ, F1, Same.refl _, ag.ext x1, k1⟩, ?_⟩
  rintro i m σ' H' ⟨rfl, hi, ρ', F', sF, ag', k2⟩
  by_cases hlt : i < ds.length
  · refine .inr ⟨wk.go i H' (sF.trans ag'.fh) hlt, fun σ2 H2 => i + 1 ≤ ds.length ∧ ∃ ρ' F', Same F1 F' ∧ Ag C F' ρ' σ2 H2 ∧ SK C W (forGo t mb (ds.drop (i + 1)) ρ') F' D, fun σ2 H2 q => ⟨_, by omega, rfl, q⟩, fun x H2 hy => ?_⟩
    have ed : ds[i]? = some ds[i] := List.getElem?_eq_getElem hlt
    obtain ⟨F2, x2, d2⟩ := wk.yld i H' x H2 _ (sF.trans ag'.fh) ed hy F' sF ag'.fh
    rw [List.drop_eq_getElem_cons hlt] at k2
    cases ht : t ds[i] ρ' with
    | none => rw [forGo, ht] at k2; exact False.elim k2
    | some ρ1 =>
      rw [forGo, ht] at k2
      refine tok F2 H2 _ _ x _ ρ1 _ (ag'.ext x2) d2 ht fun σ1 ag2 _ => ⟨ρ1, F2, ag2, ?_⟩
      cases hm : mb ρ1 with
      | nx ρ2 =>
        simp only [hm] at k2
        exact fun σ3 F3 H3 s3 ag3 => ⟨hlt, ρ2, F3, (sF.trans x2.f).trans s3, ag3, SK.mono k2 (x2.f.trans s3)⟩
      | rt d => simp only [hm] at k2; exact k2
      | exc c ρ3 => simp only [hm] at k2; exact fun σ3 F3 H3 s3 ag3 => k2 σ3 F3 H3 (x2.f.trans s3) ag3
      | stuck => simp only [hm] at k2; exact k2
  · have e : i = ds.length := by omega
    subst e
    rw [List.drop_length] at k2
    exact .inl ⟨wk.stop _ H' (sF.trans ag'.fh) (Nat.le_refl _), k2 σ' F' H' (Same.refl _) ag'⟩⟩
theorem s_while {c : Expr} {body : List Stmt} (n : Nat) (hp : PassesOwn (model X.prog X.w) X.A X.env X.xe) (hc : PT X c (tT C W mt)) (hb : PSs X body (tS C W mb)) : PS X (.While c body [] pos) (tS C W (sWh n mt mb)) := ps_wk (ps_while hp hc hb) fun D σ H ⟨ρ, F, ag, k⟩ => by
  refine ⟨fun m σ' H' => ∃ ρ' F', Ag C F' ρ' σ' H' ∧ SK C W (whGo mt mb m ρ') F' D, ⟨n, ρ, F, ag, k⟩, ?_⟩
  rintro m σ' H' ⟨ρ', F', ag', k2⟩
  cases m with
  | zero => exact False.elim k2
  | succ m =>
    refine ⟨ρ', F', ag', SK.bind ag' k2 fun d v F1 H1 x1 (b1 : v = d) k3 => ?_⟩
    subst b1
    cases v with
    | false => exact k3 _ F1 H1 (Same.refl _) (ag'.ext x1)
    | true =>
      rw [if_pos rfl] at k3 ⊢
      refine ⟨fun σ2 H2 => ∃ ρ2 F2, Ag C F2 ρ2 σ2 H2 ∧ SK C W (whGo mt mb m ρ2) F2 D, fun σ2 H2 q => ⟨m, Nat.lt_succ_self _, q⟩, ρ', F1, ag'.ext x1, ?_⟩
      cases hm : mb ρ' with
      | nx ρ2 =>
        rw [hm] at k3
        exact fun σ3 F3 H3 s3 ag3 => ⟨ρ2, F3, ag3, SK.mono (r := whGo mt mb m ρ2) k3 s3⟩
      | rt d => rw [hm] at k3; exact k3
      | exc c ρ3 => rw [hm] at k3; exact k3
      | stuck => rw [hm] at k3; exact k3

/-! ### raise -/
theorem s_raise {c : Ex} {Ca : Addr} {j : Nat} {p p2 p3 : Pos} {msg : Str} {bmB : List Value} {B newId initId : String} (hc : X.calm = true) (tk : Takes X W) (hcl : C.cl c = .ref Ca) (FB : ExcBaseFacts B newId initId bmB) (q : PySem.W.excIn X.K Ca bmB newId = true) (gC : X.mg x = some (.ref Ca)) (kC : PySem.W.keepIn X.K (.ref Ca) = true)
    (r : Raises X (.ref Ca)) (hg : Gl X x) (hdb : (x == ("__debug__" : Str)) = false := by decide) : PS X (.Raise (some (.Call (.Name x p) [.Constant (.str msg) j p2] [] p3)) none pos) (tS C W (sRaise c)) :=
  ps_wk (ps_raise hc tk (pmk_own FB q gC kC r hg hdb)) fun D σ H ⟨ρ, F, ag, k⟩ => by
    have := k σ F H (Same.refl _) ag
    rw [hcl] at this
    exact this
end

/-! ### a def -/
def outR : SRes → Res PyData
  | .nx _ => .ok .none
  | .rt d => .ok d
  | .exc c _ => .exc c
  | .stuck => .stuck
/-- the def's function: its parameters, then n names that are not set -/
def mFun (n : Nat) (m : SM) : DM := fun ds => outR (m (ds.map Sl.val ++ List.replicate n Sl.un))
theorem start_get {N : List Str} {vs : List V} {i : Nat} (h : i < (start N vs).length) : (start N vs)[i]? = some (if h : i < vs.length then some vs[i] else none) := by
  unfold L2.start at h ⊢
  rw [List.length_append, List.length_map, List.length_replicate] at h
  by_cases hi : i < vs.length
  · rw [List.getElem?_append_left (by rw [List.length_map]; exact hi), List.getElem?_map, List.getElem?_eq_getElem hi, dif_pos hi]; rfl
  · rw [List.getElem?_append_right (by rw [List.length_map]; omega), List.length_map, dif_neg hi, List.getElem?_replicate_of_lt (by omega)]
theorem ag_start {P : Program} {w : World} {K : PySem.W.Frag} {cl : Ex → Value} {F H : Hp} {N : List Str} {vs : List V} {ds : List PyData} {n : Nat} (h : Same F H) (hd : DpAll K F vs ds) (hn : N.length = ds.length + n) : Ag ⟨P, w, K, F, H, cl⟩ F (ds.map Sl.val ++ List.replicate n Sl.un) (start N vs) H where
  s0 := Same.refl _
  f0 := Same.refl _
  fh := h
  nb := fun _ _ x => x
  len := by
    unfold L2.start
    rw [List.length_append, List.length_append, List.length_map, List.length_map, List.length_replicate, List.length_replicate, dpsLen hd]
    omega
  sl := fun i s e => by
    have hl := dpsLen hd
    have hi : i < ds.length + n := by
      have := (List.getElem?_eq_some_iff.mp e).1
      rw [List.length_append, List.length_map, List.length_replicate] at this
      exact this
    have hs : i < (start N vs).length := by
      unfold L2.start
      rw [List.length_append, List.length_map, List.length_replicate, hl]
      omega
    refine ⟨_, start_get hs, ?_⟩
    by_cases h1 : i < ds.length
    · rw [List.getElem?_append_left (by rw [List.length_map]; exact h1), List.getElem?_map, List.getElem?_eq_getElem h1] at e
      cases e
      rw [dif_pos (by omega)]
      obtain ⟨v, e1, e2⟩ := dpsGet' hd (List.getElem?_eq_getElem h1)
      refine ⟨v, ?_, e2⟩
      rw [List.getElem?_eq_getElem (by omega)] at e1
      exact e1
    · rw [List.getElem?_append_right (by rw [List.length_map]; omega), List.length_map, List.getElem?_replicate_of_lt (by omega)] at e
      cases e
      trivial
  sep := fun i j si sj p _ e _ o _ _ _ => by
    have h2 := List.mem_of_getElem? e
    rcases List.mem_append.mp h2 with q | q
    · obtain ⟨d, _, rfl⟩ := List.mem_map.mp q
      cases o
    · rw [List.eq_of_mem_replicate q] at o
      cases o
theorem fun_ok {P : Program} {w : World} {K : PySem.W.Frag} {mg : Str → Option Value} {base : Heap} {cl : Ex → Value} {x qual : Str} {st : Stmt} {f : Addr} {fd : FuncData} {N ps : List Str} {k n : Nat} {m : SM} (F : Fun K x qual st f fd) (S : FnScope N ps (defScope st)) (hn : N.length = ps.length + n)
    (body : ∀ (cdv : Value) (A : Around) (outer : List Env) (s : Shared) (H F0 : Hp) (E : XK), Room k (A.deeper (envOfC qual (defScope st) s.heap.objs.size f cdv)) →
      PSs (cxOf (L2.CX P w) P w K mg base N qual (defScope st) f cdv A outer s H E) (defBody st) (tS ⟨P, w, K, F0, H, cl⟩ (fun cls d _ H => E cls d H) m)) : FnOk P w K mg base (L2.CX P w) (k + 1) f fd ps (spM K cl ps.length (mFun n m)) := by
  refine F.okX S (fun vs H Q E h => h.1) fun cdv A outer s H vs Q E hr h => ?_
  obtain ⟨hl, ds, F0, hs, hd, q⟩ := h
  have el := dpsLen hd
  refine ⟨_, body cdv A outer s H F0 E hr, _, F0, ag_start (n := n) hs hd (by omega), ?_⟩
  unfold mFun at q
  show SK _ _ (m (ds.map Sl.val ++ List.replicate n Sl.un)) F0 _
  cases hm : m (ds.map Sl.val ++ List.replicate n Sl.un) with
  | nx ρ' =>
    rw [hm] at q
    exact fun σ' F' H' sF ag => q _ F' H' ⟨ag.f0, ag.s0, ag.nb, ag.fh⟩ .non
  | rt d =>
    rw [hm] at q
    exact fun v F' H' r hv => q v F' H' ⟨r.f0, r.s0, r.nb, r.fh⟩ hv
  | exc c ρ' =>
    rw [hm] at q
    exact fun σ' F' H' _ ag => q F' H' ⟨ag.f0, ag.s0, ag.nb, ag.fh⟩
  | stuck =>
    rw [hm] at q
    exact q
end Stm
set_option Elab.async false
set_option linter.all false
set_option maxRecDepth 100000
set_option maxHeartbeats 4000000
namespace Stm
open PySem PySem.Spec PyProof.Rows L2

theorem hu0 {k : Nat} {A : Around} (hr : Room k A) : A.units < cLine := by have := hr.un; omega
theorem hu64 {k : Nat} {A : Around} (hr : Room k A) : A.units + 64 < cLine := by have := hr.un; omega
theorem hu65 {k : Nat} {A : Around} (hr : Room k A) : A.units + 65 < cLine := by have := hr.un; omega
theorem hu80 {k : Nat} {A : Around} (hr : Room k A) : A.units + 80 < cLine := by have := hr.un; omega

/-! ### a list or a tuple is walked -/
def itemsA : PyData → Res (List PyData)
  | .list ds => .ok ds
  | .tuple ds => .ok ds
  | _ => .stuck
def iA (m : EM) : Rho → Res (List PyData) := fun ρ => (m ρ).bind itemsA
theorem pi_or {X : Cx} {tg e : Expr} {t t' : TI} (h : PI X tg e t) (h' : PI X tg e t') : PI X tg e (fun σ H R => t σ H R ∨ t' σ H R) := ⟨fun pins s σ H R I q => q.elim (h.run pins s σ H R I) (h'.run pins s σ H R I)⟩
section
variable {X : Cx} {C : Cst} {W : WX} {tg e a b : Expr} {m n : EM} {p pos p1 p2 : Pos}
theorem i_any (hK : X.K = C.K) (h : PE X e (tE C W m)) : PI X tg e (tI C W (iA m)) := pi_wk (pi_or (i_list hK h) (i_tup hK h)) fun σ H R ⟨ρ, F, ag, k⟩ => by
  unfold iA at k
  cases hm : m ρ with
  | exc c => rw [hm] at k; exact .inl ⟨ρ, F, ag, by unfold iL; rw [hm]; exact k⟩
  | stuck => rw [hm] at k; exact False.elim k
  | ok d =>
    rw [hm] at k
    cases d with
    | list ds => exact .inl ⟨ρ, F, ag, by unfold iL; rw [hm]; exact k⟩
    | tuple ds => exact .inr ⟨ρ, F, ag, by unfold iT; rw [hm]; exact k⟩
    | _ => exact False.elim k
theorem x_neg {i : Int} {j : Nat} : PE X (.UnaryOp .USub (.Constant (.int i) j p1) pos) (tE C W (mC (.int (-i)))) := pe_wk (pe_un un_neg pe_int) fun σ H Q ⟨ρ, F, ag, k⟩ => ⟨i, rfl, k _ F H (Xt.refl ag.fh) (.int _)⟩
theorem x_pow {i j r : Int} {k1 k2 : Nat} (h : CPow i j ∧ i ^ j.toNat = r) : PE X (.BinOp (.Constant (.int i) k1 p1) .Pow (.Constant (.int j) k2 p2) pos) (tE C W (mC (.int r))) := pe_wk (pe_op op_pow pe_int pe_int) fun σ H Q ⟨ρ, F, ag, k⟩ =>
  ⟨i, j, rfl, rfl, h.1, by show Q (V.int (i ^ j.toNat)) H; rw [h.2]; exact k _ F H (Xt.refl ag.fh) (.int _)⟩
/-- [a] * n -/
def mRepL (a n : EM) : EM := fun ρ => (a ρ).bind fun d => (n ρ).bind fun | .int k => if 0 ≤ k ∧ k ≤ (LIM : Int) then .ok (.list (List.replicate k.toNat d)) else .stuck | _ => .stuck
theorem flat_one {α : Type} (v : α) : ∀ n : Nat, (List.replicate n [v]).flatten = List.replicate n v
  | 0 => rfl
  | n + 1 => by rw [List.replicate_succ, List.flatten_cons, flat_one v n]; rfl
theorem dpsRep {K : PySem.W.Frag} {H : Hp} {v : V} {d : PyData} (h : Dp K H v d) : ∀ n : Nat, DpAll K H (List.replicate n v) (List.replicate n d)
  | 0 => .nil
  | n + 1 => .cons h (dpsRep h n)
theorem x_repL {p3 : Pos} (ha : PE X a (tE C W m)) (hb : PE X b (tQ C W n)) (hs : starEach (a :: []) X.env = (false, eval a X.env) :: starEach [] X.env := by rfl) : PE X (.BinOp (.List [a] p3) .Mult b pos) (tE C W (mRepL m n)) :=
  pe_wk (pe_op op_rep (pe_lst (pa_cons ha pa_nil hs)) hb) fun σ H Q ⟨ρ, F, ag, k⟩ => ⟨ρ, F, ag, RK.bind k fun d v F1 H1 x1 b1 k1 => ⟨(by decide : 1 ≤ sizeLine), fun q hq => by
    have y := Xt.grow (o := .lst [v]) x1.fh hq
    refine ⟨ρ, F1, (ag.ext x1).ext y, RK.bind (RK.mono k1 y) fun d2 v2 F2 H2 x2 b2 k2 => ?_⟩
    split at k2
    · rename_i j
      by_cases hj : 0 ≤ j ∧ j ≤ (LIM : Int)
      · rw [if_pos hj] at k2
        have el : (LIM : Int) = 100000 := rfl
        rw [el] at hj
        refine ⟨q, j, [v], rfl, b2.int, x2.h _ _ upd_same, by omega, by omega, ?_, fun p hp => ?_⟩
        · have : sizeLine = 16777216 := sizeLine_eq
          show 1 * j.toNat ≤ sizeLine
          omega
        · rw [flat_one]
          have z := Xt.new (o := .lst (List.replicate j.toNat v)) x2.fh hp
          exact k2 _ _ _ z (.lst (.inl (.inl upd_same)) (dpsRep (dpMono (x2.f.trans z.f) _ _ b1) _))
      · rw [if_neg hj] at k2; exact False.elim k2
    · exact False.elim k2⟩⟩
end
/-! ### < of tuples of ints -/
def dLtT : DF
  | .tuple a, .tuple b => match intsOf a, intsOf b with
    | some ns, some ms => .ok (.bool (HT.lexLt ns ms))
    | _, _ => .stuck
  | _, _ => .stuck
theorem rb_ltT {X : Cx} {C : Cst} (hK : X.K = C.K) : RB C (rLtT X.K) dLtT := by
  intro W F σ H x dx y dy Q hs bx by_ k
  cases dx with
  | tuple a =>
    cases dy with
    | tuple b =>
      unfold dLtT at k
      cases e1 : intsOf a with
      | none => simp only [e1] at k; exact False.elim k
      | some ns =>
        cases e2 : intsOf b with
        | none => simp only [e1, e2] at k; exact False.elim k
        | some ms =>
          simp only [e1, e2] at k
          obtain ⟨p1, v1, rfl, h1, a1⟩ := bx.tup hs
          obtain ⟨p2, v2, rfl, h2, a2⟩ := by_.tup hs
          rw [intsOf_eq e1] at a1
          rw [intsOf_eq e2] at a2
          rw [dpsInts' a1] at h1
          rw [dpsInts' a2] at h2
          exact ⟨p1, p2, ns, ms, rfl, rfl, hK ▸ h1, hK ▸ h2, okK k hs (.bl _)⟩
    | _ => exact False.elim k
  | _ => cases dy <;> exact False.elim k

/-! ### callees, refusals -/
structure Cal (P : Program) (w : World) (K : PySem.W.Frag) (mg : Str → Option Value) (base : Heap) (cl : Ex → Value) (x : Str) (k : Nat) (ps : List Str) (M : DM) : Prop where
  ex : ∃ f fd, mg x = some (.ref f) ∧ PySem.W.keepIn K (.ref f) = true ∧ Binds K fd ps [] ∧ FnOk P w K mg base (L2.CX P w) k f fd ps (spM K cl ps.length M)
theorem x_cal {X : Cx} {C : Cst} {W : WX} {pos p : Pos} {e : Expr} {es : List Expr} {ms : AM} {j k : Nat} {ps : List Str} {x : Str} {M : DM} (hK : X.K = C.K) (c : Cal X.prog X.w X.K X.mg X.base C.cl x k ps M) (hr : Room j X.A) (hj : k ≤ j) (hg : Gl X x) (tk : Takes X W)
    (ha : PA X (e :: es) (tAs C W ms)) (hn : ∀ ρ ds, ms ρ = .ok ds → ds.length = ps.length) (hdb : (x == ("__debug__" : Str)) = false := by decide) (he : starEach (e :: es) X.env = (false, eval e X.env) :: starEach es X.env := by rfl) (hpl : (backTo pos (starEach es X.env)).any (·.1) = false := by rfl) :
    PE X (.Call (.Name x p) (e :: es) [] pos) (tE C W (mCall M ms)) := by
  obtain ⟨f, fd, hm, hk, hb, G⟩ := c.ex
  exact x_call hK ps.length G (hr.mono hj) hg hm hk hb tk ha hn hdb he hpl
structure ExF (K : PySem.W.Frag) (mg : Str → Option Value) (cl : Ex → Value) (x : Str) (c : Ex) : Prop where
  ex : ∃ Ca, cl c = .ref Ca ∧ mg x = some (.ref Ca) ∧ PySem.W.excIn K Ca [.type "ValueError", .type "Exception", .type "BaseException", .type "object"] "ValueError.__new__" = true ∧ PySem.W.keepIn K (.ref Ca) = true ∧
    PySem.W.subIn K (.ref Ca) (.type "BaseException") = some true ∧ PySem.W.typeIn K (.ref Ca) = some (.type "type")
theorem s_raiseX {X : Cx} {C : Cst} {W : WX} {c : Ex} {x : Str} {j : Nat} {p p2 p3 pos : Pos} {msg : Str} (h : ExF X.K X.mg C.cl x c) (hc : X.calm = true) (tk : Takes X W) (hg : Gl X x) (hdb : (x == ("__debug__" : Str)) = false := by decide) :
    PS X (.Raise (some (.Call (.Name x p) [.Constant (.str msg) j p2] [] p3)) none pos) (tS C W (sRaise c)) := by
  obtain ⟨Ca, h1, h2, h3, h4, h5, h6⟩ := h.ex
  exact s_raise hc tk h1 PySem.F.excBase_ValueError h3 h2 h4 (raises_own h5 h6) hg hdb
/-- what stands at the entry of a law -/
theorem cal_mk {P : Program} {w : World} {K : PySem.W.Frag} {mg : Str → Option Value} {base : Heap} {cl : Ex → Value} {x qual : Str} {st : Stmt} {f : Addr} {fd : FuncData} {k : Nat} {ps : List Str} {M : DM} (F : Fun K x qual st f fd) (hm : mg x = some (.ref f)) (hb : Binds K fd ps [])
    (G : FnOk P w K mg base (L2.CX P w) k f fd ps (spM K cl ps.length M)) : Cal P w K mg base cl x k ps M := ⟨f, fd, hm, F.kp, hb, G⟩
/-! ### abs, is True -/
def dAbs : List PyData → Res PyData
  | [.int i] => .ok (.int (if i < 0 then -i else i))
  | _ => .stuck
theorem rcb_abs {C : Cst} : RCB C (fun xs H Q => ∃ i, xs = [.int i] ∧ Q (.int (if i < 0 then -i else i)) H) dAbs := by
  intro W F σ H vs ds Q hs b k
  unfold dAbs at k
  split at k
  · obtain ⟨v, rfl, b1⟩ := bq1 b
    exact ⟨_, by rw [b1.int], okK k hs (.int _)⟩
  · exact False.elim k
/-- the right operand is written: True, False -/
def dIsB : DF
  | .bool a, .bool b => .ok (.bool (decide (a = b)))
  | _, _ => .stuck
def dIsNotB : DF
  | .bool a, .bool b => .ok (.bool (!decide (a = b)))
  | _, _ => .stuck
theorem rb_isB {C : Cst} : RB C rIsB dIsB := by
  intro W F σ H x dx y dy Q hs bx by_ k
  unfold dIsB at k
  split at k
  · exact ⟨_, _, bx.bool, by_.bool, okK k hs (.bl _)⟩
  · exact False.elim k
theorem rb_isNotB {C : Cst} : RB C rNotB dIsNotB := by
  intro W F σ H x dx y dy Q hs bx by_ k
  unfold dIsNotB at k
  split at k
  · exact ⟨_, _, bx.bool, by_.bool, okK k hs (.bl _)⟩
  · exact False.elim k
end Stm
set_option Elab.async false
set_option linter.all false
set_option maxRecDepth 100000
set_option maxHeartbeats 4000000
namespace Stm
open PySem PySem.Spec PyProof.Rows L2

/-! ### dicts with ints for keys -/
theorem dIV_any {k : Int} : ∀ ks : List Int, ((dIV ks).any fun kv => decide (kv.1 = (Sum.inl k : Key))) = decide (k ∈ ks)
  | [] => rfl
  | a :: r => by
    show (decide ((Sum.inl a : Key) = Sum.inl k) || (dIV r).any _) = _
    rw [dIV_any r, key_ll]
    by_cases h : a = k
    · subst h; simp
    · have h2 : (a == k) = false := beq_eq_false_iff_ne.mpr h
      rw [h2, Bool.false_or]
      have h3 : (k ∈ a :: r) = (k ∈ r) := propext ⟨fun z => (List.mem_cons.mp z).resolve_left fun q => h q.symm, List.mem_cons_of_mem _⟩
      simp only [h3]
theorem dIV_put {ks : List Int} {k : Int} : putK (dIV ks) (Sum.inl k) (V.bl true) = dIV (if k ∈ ks then ks else ks ++ [k]) := by
  unfold putK
  rw [dIV_any]
  by_cases h : k ∈ ks
  · rw [if_pos (decide_eq_true h), if_pos h]
    unfold dIV
    rw [List.map_map]
    refine List.map_congr_left fun a _ => ?_
    show (if (Sum.inl a : Key) = Sum.inl k then ((Sum.inl a : Key), V.bl true) else (Sum.inl a, V.bl true)) = _
    split <;> rfl
  · rw [if_neg (fun z => h (of_decide_eq_true z)), if_neg h]
    unfold dIV
    rw [List.map_append]; rfl
def sNewDI (i : Nat) : SM := fun ρ => .nx (ρ.set i (.dI []))
def sPutI (i : Nat) (m : EM) : SM := fun ρ => match ρ[i]? with
  | some (.dI ks) => sBind (m ρ) ρ fun | .int k => if ks.length < LIM then .nx (ρ.set i (.dI (if k ∈ ks then ks else ks ++ [k]))) else .stuck | _ => .stuck
  | _ => .stuck
def mInI (i : Nat) (m : EM) : EM := fun ρ => (m ρ).bind fun d => match ρ[i]?, d with
  | some (.dI ks), .int k => .ok (.bool (decide (k ∈ ks)))
  | _, _ => .stuck
def mInNI (i : Nat) (m : EM) : EM := fun ρ => (m ρ).bind fun d => match ρ[i]?, d with
  | some (.dI ks), .int k => .ok (.bool (!decide (k ∈ ks)))
  | _, _ => .stuck
/-- list(d) -/
def mDLI (i : Nat) : EM := fun ρ => match ρ[i]? with
  | some (.dI ks) => .ok (.list (ks.map .int))
  | _ => .stuck
section
variable {X : Cx} {C : Cst} {W : WX} {pos p p1 p2 p3 : Pos} {e : Expr} {m : EM} {i : Nat} {x : Str}
theorem s_newDI (hN : X.N.Nodup) (hi : X.N[i]? = some x) (hx : Loc X.env.scope x) (hs : swapsWith (.Dict [] [] p2) (some (.Name x p)) pos.line X.env = pure false := by rfl) (hf : X.fn x = true ∨ X.env.scope.names.lookup x = some .local := by first | exact .inl rfl | exact .inr rfl | assumption) :
    PS X (.Assign [.Name x p] (.Dict [] [] p2) pos) (tS C W (sNewDI i)) := ps_wk (ps_set hN hi hx pe_dnewK hs hf) fun D σ H ⟨ρ, F, ag, k⟩ q hq => k _ F _ (Same.refl _) (ag.own hq ⟨q, rfl, upd_same, ag.fh.free hq, ag.s0.free hq⟩)
theorem s_putI {k2 : Nat} {j : Nat} (hK : X.K = C.K) (hr : Room j X.A) (hi : X.N[i]? = some x) (hv : Vis X.env.scope x) (h : PE X e (tQ C W m)) (hd : (x == ("__debug__" : Str)) = false := by decide) (hcd : (x == ("__classdict__" : Str)) = false := by decide)
    (hs : swapsWith (.Constant (.bool true) k2 p3) (some (.Subscript (.Name x p) e p2)) pos.line X.env = pure false := by rfl) :
    PS X (.Assign [.Subscript (.Name x p) e p2] (.Constant (.bool true) k2 p3) pos) (tS C W (sPutI i m)) := ps_wk (ps_dput (hu_of hr) (pe_var hi hv hd hcd) h pe_bl hs) fun D σ H ⟨ρ, F, ag, k⟩ => by
  unfold sPutI at k
  split at k
  · rename_i ks e1
    obtain ⟨o, h1, q, rfl, h2, h3, h4⟩ := ag.sl i _ e1
    refine ⟨_, h1, ρ, F, ag, SK.bind ag k fun d v F1 H1 x1 b1 k1 => ?_⟩
    split at k1
    · rename_i n
      by_cases hl : ks.length < LIM
      · rw [if_pos hl] at k1
        have g2 := x1.h _ _ h2
        have g3 := x1.n q (by rw [h2]; exact fun z => (nomatch z)) h3
        have ev := b1.int
        subst ev
        refine ⟨q, _, rfl, DPut.k (k := Sum.inl n) g2 (by unfold dIV; rw [List.length_map]; exact Nat.lt_of_lt_of_le hl (by decide)), ?_⟩
        rw [dIV_put]
        exact k1 _ F1 _ (Same.refl _) ((ag.ext x1).change e1 rfl h1 ⟨q, rfl, upd_same, g3, h4⟩ rfl)
      · rw [if_neg hl] at k1; exact False.elim k1
    · exact False.elim k1
  · exact False.elim k
theorem inI_read (neg : Bool) (f : EM) (hf : f = if neg then mInNI i m else mInI i m) : ∀ σ H Q, tE C W f σ H Q → (if neg then tDNotIn (tQ C W m) (tVar i) else tDIn (tQ C W m) (tVar i)) σ H Q := fun σ H Q ⟨ρ, F, ag, k⟩ => by
  have hr : (∃ ks, ρ[i]? = some (.dI ks)) ∨ ∀ ks, ρ[i]? ≠ some (.dI ks) := by
    cases e1 : ρ[i]? with
    | none => exact .inr fun ds z => by cases z
    | some s => cases s with
      | dI ds => exact .inl ⟨ds, rfl⟩
      | _ => exact .inr fun ds z => by cases z
  subst hf
  cases neg with
  | false =>
    rw [if_neg Bool.false_ne_true] at k ⊢
    refine ⟨ρ, F, ag, RK.bind k fun d v F1 H1 x1 b1 k1 => ?_⟩
    rcases hr with ⟨ks, e1⟩ | hr
    · rw [e1] at k1
      obtain ⟨o, h1, q, rfl, h2, h3, h4⟩ := (ag.ext x1).sl i _ e1
      cases d with
      | int n =>
        refine ⟨_, h1, q, _, rfl, by rw [b1.int]; exact DGet.k (k := Sum.inl n) h2, ?_⟩
        rw [← valV_any, dIV_any]
        exact okK k1 x1.fh (.bl _)
      | _ => exact False.elim k1
    · exfalso
      revert k1
      split
      · rename_i e1; exact absurd e1 (hr _)
      · exact fun z => z
  | true =>
    rw [if_pos rfl] at k ⊢
    refine ⟨ρ, F, ag, RK.bind k fun d v F1 H1 x1 b1 k1 => ?_⟩
    rcases hr with ⟨ks, e1⟩ | hr
    · rw [e1] at k1
      obtain ⟨o, h1, q, rfl, h2, h3, h4⟩ := (ag.ext x1).sl i _ e1
      cases d with
      | int n =>
        refine ⟨_, h1, q, _, rfl, by rw [b1.int]; exact DGet.k (k := Sum.inl n) h2, ?_⟩
        rw [← valV_any, dIV_any]
        exact okK k1 x1.fh (.bl _)
      | _ => exact False.elim k1
    · exfalso
      revert k1
      split
      · rename_i e1; exact absurd e1 (hr _)
      · exact fun z => z
theorem x_inI {j : Nat} (i : Nat) (hK : X.K = C.K) (hr : Room j X.A) {x : Str} (h : PE X e (tQ C W m)) (hi : X.N[i]? = some x := by rfl) (hv : Vis X.env.scope x := by first | exact Or.inl rfl | exact Or.inr (Or.inl rfl) | exact Or.inr (Or.inr rfl))
    (hd : (x == ("__debug__" : Str)) = false := by decide) (hcd : (x == ("__classdict__" : Str)) = false := by decide) (hm : behindInMarks .In (.Name x p) = false := by rfl) : PE X (.Compare e [.In] [.Name x p] pos) (tE C W (mInI i m)) :=
  pe_wk (pe_cmp (pc_din (hu_of hr) h (pe_var hi hv hd hcd)) hm) (inI_read (i := i) (m := m) false _ rfl)
theorem x_tinI {j : Nat} (i : Nat) (hK : X.K = C.K) (hr : Room j X.A) {x : Str} (h : PE X e (tQ C W m)) (hi : X.N[i]? = some x := by rfl) (hv : Vis X.env.scope x := by first | exact Or.inl rfl | exact Or.inr (Or.inl rfl) | exact Or.inr (Or.inr rfl))
    (hd : (x == ("__debug__" : Str)) = false := by decide) (hcd : (x == ("__classdict__" : Str)) = false := by decide) (hm : behindInMarks .In (.Name x p) = false := by rfl) : PT X (.Compare e [.In] [.Name x p] pos) (tT C W (mB (mInI i m))) :=
  pt_wk (pt_cmp (pc_din (hu_of hr) h (pe_var hi hv hd hcd)) hm) fun σ H Q q => inI_read (i := i) (m := m) false _ rfl σ H _ (wB σ H Q q)
theorem x_inNI {j : Nat} (i : Nat) (hK : X.K = C.K) (hr : Room j X.A) {x : Str} (h : PE X e (tQ C W m)) (hi : X.N[i]? = some x := by rfl) (hv : Vis X.env.scope x := by first | exact Or.inl rfl | exact Or.inr (Or.inl rfl) | exact Or.inr (Or.inr rfl))
    (hd : (x == ("__debug__" : Str)) = false := by decide) (hcd : (x == ("__classdict__" : Str)) = false := by decide) (hm : behindInMarks .NotIn (.Name x p) = false := by rfl) : PE X (.Compare e [.NotIn] [.Name x p] pos) (tE C W (mInNI i m)) :=
  pe_wk (pe_cmp (pc_dnotin (hu_of hr) h (pe_var hi hv hd hcd)) hm) (inI_read (i := i) (m := m) true _ rfl)
theorem x_tinNI {j : Nat} (i : Nat) (hK : X.K = C.K) (hr : Room j X.A) {x : Str} (h : PE X e (tQ C W m)) (hi : X.N[i]? = some x := by rfl) (hv : Vis X.env.scope x := by first | exact Or.inl rfl | exact Or.inr (Or.inl rfl) | exact Or.inr (Or.inr rfl))
    (hd : (x == ("__debug__" : Str)) = false := by decide) (hcd : (x == ("__classdict__" : Str)) = false := by decide) (hm : behindInMarks .NotIn (.Name x p) = false := by rfl) : PT X (.Compare e [.NotIn] [.Name x p] pos) (tT C W (mB (mInNI i m))) :=
  pt_wk (pt_cmp (pc_dnotin (hu_of hr) h (pe_var hi hv hd hcd)) hm) fun σ H Q q => inI_read (i := i) (m := m) true _ rfl σ H _ (wB σ H Q q)
theorem dIV_keys (ks : List Int) : (dIV ks).map (fun kv => kV kv.1) = ks.map V.int := by
  unfold dIV
  rw [List.map_map]; rfl
theorem x_dlI (i : Nat) (hc : X.calm = true) (hg : Gl X "list") (hm : X.mg "list" = none) {x : Str} (hi : X.N[i]? = some x := by rfl) (hv : Vis X.env.scope x := by first | exact Or.inl rfl | exact Or.inr (Or.inl rfl) | exact Or.inr (Or.inr rfl))
    (hd : (x == ("__debug__" : Str)) = false := by decide) (hcd : (x == ("__classdict__" : Str)) = false := by decide) : PE X (.Call (.Name "list" p1) [.Name x p] [] pos) (tE C W (mDLI i)) :=
  pe_wk (pe_callTy (call_list_dK hc) hg hm (by decide +kernel) (pa_cons (pe_var hi hv hd hcd) pa_nil)) fun σ H Q ⟨ρ, F, ag, k⟩ => by
    unfold mDLI at k
    split at k
    · rename_i ks e1
      obtain ⟨o, h1, q, rfl, h2, h3, h4⟩ := ag.sl i _ e1
      refine ⟨_, h1, q, _, rfl, h2, fun a ha => ?_⟩
      rw [dIV_keys]
      have y := Xt.new (o := .lst (ks.map V.int)) ag.fh ha
      exact k _ _ _ y (.lst (.inl (.inl upd_same)) (dpsInts ks))
    · exact False.elim k
end

/-! ### dicts with tuples for keys -/
mutual
def keyOf : PyData → Option NestedKey
  | .int i => some (.num i)
  | .tuple ds => (keysOf ds).map .tup
  | _ => none
def keysOf : List PyData → Option (List NestedKey)
  | [] => some []
  | d :: ds => (keyOf d).bind fun k => (keysOf ds).map (k :: ·)
end
mutual
theorem keyOf_data : ∀ (d : PyData) (k : NestedKey), keyOf d = some k → k.data = d
  | .int i, k, h => by simp only [keyOf, Option.some.injEq] at h; subst h; simp only [NestedKey.data]
  | .tuple ds, k, h => by
    simp only [keyOf] at h
    cases e : keysOf ds with
    | none => rw [e] at h; cases h
    | some ks =>
      rw [e] at h; cases h
      simp only [NestedKey.data, keysOf_data ds ks e]
  | .none, _, h => by simp [keyOf] at h
  | .bool _, _, h => by simp [keyOf] at h
  | .str _, _, h => by simp [keyOf] at h
  | .list _, _, h => by simp [keyOf] at h
  | .dict _, _, h => by simp [keyOf] at h
theorem keysOf_data : ∀ (ds : List PyData) (ks : List NestedKey), keysOf ds = some ks → NestedKey.datas ks = ds
  | [], ks, h => by simp only [keysOf, Option.some.injEq] at h; subst h; simp only [NestedKey.datas]
  | d :: ds, ks, h => by
    simp only [keysOf] at h
    cases e1 : keyOf d with
    | none => rw [e1] at h; cases h
    | some k =>
      cases e2 : keysOf ds with
      | none => rw [e1, e2] at h; cases h
      | some r =>
        rw [e1, e2] at h; cases h
        simp only [NestedKey.datas, keyOf_data d k e1, keysOf_data ds r e2]
end
section
variable {X : Cx} {pins : List (Addr × Obj)} {σ : L2.St} {H : Hp} {s : Shared}
mutual
theorem nested_of (I : Inv X pins σ H s) : ∀ (k : NestedKey) (v : V) (u : Value), Dp X.K H v k.data → RelV v u → (∀ x, k ≠ .text x) → NestedIs s.heap k u
  | .none, _, _, h, r, _ => by
    simp only [NestedKey.data] at h
    cases h; cases r; exact .none
  | .num i, _, _, h, r, _ => by
    simp only [NestedKey.data] at h
    cases h
    obtain ⟨t, rfl⟩ := r
    exact .int i t
  | .text x, _, _, _, _, n => absurd rfl (n x)
  | .tup ks, _, _, h, r, _ => by
    simp only [NestedKey.data] at h
    cases h with
    | tup hs ha =>
      cases r
      obtain ⟨its, rv, ⟨o, ho, hc, n, hd⟩, _⟩ := I.tuple hs
      exact .tup ho hc hd (nesteds_of I ks _ its ha rv)
theorem nesteds_of (I : Inv X pins σ H s) : ∀ (ks : List NestedKey) (vs : List V) (us : List Value), DpAll X.K H vs (NestedKey.datas ks) → Vals vs us → NestedAll s.heap ks us
  | [], _, _, h, r => by
    simp only [NestedKey.datas] at h
    cases h; cases r; exact .nil
  | k :: ks, _, _, h, r => by
    simp only [NestedKey.datas] at h
    cases h with
    | cons h1 h2 =>
      cases r with
      | cons r1 r2 =>
        refine .cons ?_ (nesteds_of I ks _ _ h2 r2)
        cases k with
        | text x =>
          simp only [NestedKey.data] at h1
          cases h1
          obtain ⟨t, rfl⟩ := r1
          exact .text x t
        | none => exact nested_of I .none _ _ h1 r1 (fun _ z => by cases z)
        | num i => exact nested_of I (.num i) _ _ h1 r1 (fun _ z => by cases z)
        | tup l => exact nested_of I (.tup l) _ _ h1 r1 (fun _ z => by cases z)
end
end
def dtO (P : Program) (w : World) (p : Addr) (xs : List KEnt) : HO := .ext fun h => ∃ o es ep, h.get? p = some o ∧ o.ExactDict ∧ o.data = .dict es ep ∧ es.toList = xs.map fun k => entryOfKey (nestedKind P w) (k.1, k.2, Value.bool true)
abbrev tri (xs : List KEnt) : List (NestedKey × Addr × Value) := xs.map fun k => (k.1, k.2, Value.bool true)
/-- what is known of the keys -/
def KeysOk (K : PySem.W.Frag) (H : Hp) (xs : List KEnt) : Prop := (xs.map (·.1)).Nodup ∧ xs.length ≤ sizeLine ∧ ∀ x ∈ xs, Dp K H (.ref x.2) x.1.data ∧ x.1.depth ≤ 8
theorem dt_dict {X : Cx} {pins : List (Addr × Obj)} {σ : L2.St} {H : Hp} {s : Shared} {p : Addr} {xs : List KEnt} (I : Inv X pins σ H s) (h : H p = some (dtO X.prog X.w p xs)) (k : KeysOk X.K H xs) : s.heap.DictOfH (nestedKind X.prog X.w) p (tri xs) := by
  obtain ⟨⟨o, es, ep, ho, hx, hd, he⟩, _, _⟩ := (show ObjOk X.prog X.w H s.heap p (dtO X.prog X.w p xs) from I.hok p _ h)
  refine ⟨o, es, ep, ho, hx, hd, by rw [he, List.map_map]; rfl, fun y hy => ?_, ?_⟩
  · obtain ⟨x, hx', rfl⟩ := List.mem_map.mp hy
    obtain ⟨h1, h2⟩ := k.2.2 x hx'
    refine ⟨nested_of I _ _ _ h1 rfl ?_, h2⟩
    intro t e
    rw [e] at h1
    simp only [NestedKey.data] at h1
    cases h1
  · rw [List.map_map]; exact k.1
theorem tri_at {xs : List KEnt} {k : NestedKey} : (atKey (tri xs) k).isSome = decide (k ∈ xs.map (·.1)) := by
  have h := any_pairsH (tri xs) k
  rw [← h]
  induction xs with
  | nil => rfl
  | cons a r ih =>
    show (decide (a.1 = k) || (pairsH (tri r)).any fun kv => decide (kv.1 = k)) = decide (k ∈ a.1 :: r.map (·.1))
    rw [ih (any_pairsH (tri r) k)]
    by_cases e : a.1 = k
    · subst e; simp
    · have e2 : ¬ k = a.1 := fun z => e z.symm
      simp [e, e2]
def putE (xs : List KEnt) (k : NestedKey) (b : Addr) : List KEnt := if k ∈ xs.map (·.1) then xs else xs ++ [(k, b)]
theorem tri_put {xs : List KEnt} {k : NestedKey} {b : Addr} : storedH (tri xs) k b (Value.bool true) = tri (putE xs k b) := by
  unfold storedH putE
  rw [tri_at]
  by_cases h : k ∈ xs.map (·.1)
  · rw [if_pos (decide_eq_true h), if_pos h, List.map_map]
    refine List.map_congr_left fun a _ => ?_
    show (if a.1 = k then (a.1, a.2, Value.bool true) else (a.1, a.2, Value.bool true)) = _
    split <;> rfl
  · rw [if_neg (fun z => h (of_decide_eq_true z)), if_neg h]
    show _ = List.map _ (xs ++ [(k, b)])
    rw [List.map_append]; rfl
/-- d[b] = True -/
def rSetT (P : Program) (w : World) (K : PySem.W.Frag) : TSet := fun o i v H Q => ∃ p xs k b, o = .ref p ∧ i = .ref b ∧ v = .bl true ∧ H p = some (dtO P w p xs) ∧ (p == sysModules) = false ∧ KeysOk K H xs ∧ xs.length < sizeLine ∧ Dp K H (.ref b) k.data ∧ k.depth ≤ 8 ∧ (∀ z, k ≠ .text z) ∧ Q (upd H p (dtO P w p (putE xs k b)))
theorem set_T {X : Cx} (hu : X.A.units + 80 < cLine) : PSet X (rSetT X.prog X.w X.K) := by
  intro pins s σ H o i v ov iv u Q I ro ri rv h
  obtain ⟨p, xs, k, b, rfl, rfl, rfl, hH, hsm, hk, hl, hd, hdep, hnt, q⟩ := h
  cases ro; cases ri; cases rv
  have hm := dt_dict I hH hk
  refine wpAny_setItem_heap (knd := nestedKind X.prog X.w) (k := k) (hsz := by rw [List.length_map]; exact hk.2.1) (by show X.A.units + 1 + 8 < cLine; omega) ⟨nested_of I _ _ _ hd rfl hnt, hdep⟩ hm fun h' hm' hs => ?_
  rw [tri_put] at hm'
  obtain ⟨o', es', ep', ho', hx', hd', he', _, _⟩ := hm'
  refine ⟨_, I.write (x := p) (e := p) (by rw [hH]; exact trivial) (.inl rfl) (fun b' u' hb hu' => (hs.2 b' hb).trans hu') ⟨o', ho'⟩ ?_, q⟩
  refine ⟨⟨o', es', ep', ho', hx', hd', by rw [he', List.map_map]; rfl⟩, ⟨o', ho'⟩, fun h1 h2 ⟨o1, es1, ep1, g1, g2, g3, g4⟩ st => ⟨o1, es1, ep1, st _ g1, g2, g3, g4⟩⟩
/-- list(d) -/
def rListT (P : Program) (w : World) (K : PySem.W.Frag) : List V → Hp → VK → Prop := fun vs H Q => ∃ p xs, vs = [.ref p] ∧ H p = some (dtO P w p xs) ∧ (p == sysModules) = false ∧ KeysOk K H xs ∧ ∀ q, H q = none → Q (.ref q) (upd H q (.lst (xs.map fun x => .ref x.2)))
theorem call_listT {X : Cx} (hc : X.calm = true) : CallR X (.type "list") (rListT X.prog X.w X.K) := by
  intro pins s σ H vs us Q I r h
  obtain ⟨d, xs, rfl, hd, hsm, hk, q⟩ := h
  obtain ⟨u, rfl, rx⟩ := r.one
  cases rx
  obtain ⟨⟨o, es, ep, ho, hx, hdt, he⟩, _, _⟩ := (show ObjOk X.prog X.w H s.heap d (dtO X.prog X.w d xs) from I.hok d _ hd)
  have l1 : es.size = xs.length := by
    have := congrArg List.length he
    rw [List.length_map, Array.length_toList] at this
    exact this
  refine PySem.W.kdl_call (kdl_raw hsm hx hdt) (I.ok.hd hc) ho (by rw [l1]; exact hk.2.1) fun h' tk acc' c' kp e it => ?_
  have ea : acc'.toList = (xs.map fun x => x.2).map Value.ref := by
    have hl : acc'.toList.length = xs.length := by rw [Array.length_toList, it.1]; exact l1
    apply List.ext_getElem?
    intro j
    rw [List.map_map, List.getElem?_map]
    cases hj : acc'.toList[j]? with
    | none =>
      have h1 := List.getElem?_eq_none_iff.mp hj
      rw [List.getElem?_eq_none (by omega)]; rfl
    | some v =>
      obtain ⟨en, hen, hv⟩ := it.2 j v (by rw [← Array.getElem?_toList]; exact hj)
      rw [← Array.getElem?_toList, he, List.getElem?_map] at hen
      cases hb : xs[j]? with
      | none => rw [hb] at hen; cases hen
      | some b =>
        rw [hb] at hen
        cases hen
        rw [hv]; rfl
  have rv : Vals ((xs.map fun x => x.2).map V.ref) acc'.toList := by rw [ea]; exact vals_refs _
  rw [List.map_map] at rv
  have hz : (xs.map fun x => V.ref x.2).length ≤ sizeLine := by rw [List.length_map]; exact hk.2.1
  refine ⟨.ref s.heap.objs.size, _, I.laid (t' := tk) (o := .lst (xs.map fun x => V.ref x.2)) kp (Nat.le_refl _) ?_, rfl, q _ (I.hok.fresh (Nat.le_refl _))⟩
  exact ⟨hz, acc'.toList, c', rv, by rw [Array.toArray_toList]; exact e⟩
/-- {} -/
def tNewT (P : Program) (w : World) : TE := fun _ H Q => ∀ p, H p = none → (p == sysModules) = false → Q (.ref p) (upd H p (dtO P w p []))
theorem pe_newT {X : Cx} {pos : Pos} : PE X (.Dict [] [] pos) (tNewT X.prog X.w) := ⟨fun pins s σ H Q I h => by
  refine wpAny_Dict_empty ?_
  have hn : H s.heap.objs.size = none := I.hok.fresh (Nat.le_refl _)
  have hm : (s.heap.push { cls := .type "dict", data := .dict #[] }).DictOfH (nestedKind X.prog X.w) s.heap.objs.size [] := Heap.DictOfH.new _
  obtain ⟨o', es', ep', ho', hx', hd', he', _, _⟩ := hm
  have hsm : (s.heap.objs.size == sysModules) = false := (dk_empty (P := X.prog) (w := X.w) (H := H) s.heap I.big).2.1
  refine ⟨.ref s.heap.objs.size, _, I.laid (a := s.heap.objs.size) (o := dtO X.prog X.w s.heap.objs.size []) (t' := s.toks) (fun _ _ q => Heap.get?_push_of_some _ q) (Nat.le_refl _) ?_, rfl, h _ hn hsm⟩
  exact ⟨⟨o', es', ep', ho', hx', hd', he'⟩, ⟨o', ho'⟩, fun h1 h2 ⟨o1, es1, ep1, g1, g2, g3, g4⟩ st => ⟨o1, es1, ep1, st _ g1, g2, g3, g4⟩⟩⟩
end Stm
set_option Elab.async false
set_option linter.all false
set_option maxRecDepth 100000
set_option maxHeartbeats 4000000
namespace Stm
open PySem PySem.Spec PyProof.Rows PySem.Calls L2
section
variable {prog : Program} {w : World} {A : Around} {E : Value → Shared → Prop} {s : Shared}
/-- the items of a tuple as a new list (sorted's first step) -/
theorem collT {t : Addr} {us : List Value} {Q : List Value → Shared → Prop} (ht : IsTup s.heap t us.toArray) (hz : us.length ≤ sizeLine)
    (h : Q us { s with heap := (s.heap.push (seqObj "list" #[] 0)).update s.heap.objs.size (Obj.mapSeq (· ++ us.toArray)) }) : wpAny (model prog w) A (collect (.ref t)) Q E s := by
  obtain ⟨ob, gob, cob, k, dob⟩ := id ht
  unfold collect
  refine wpAny_bind (wpAny_runValue (codeAny_builtin entry_proto_collect' (show wpAny _ _ (do again (.builtin "list.__iadd__" ⟨[← newList [], .ref t], []⟩)) _ _ s from ?_)))
  refine wpAny_bind (wpAny_newList (wpAny_pure ⟨Code.quiet_builtin _ (by decide +kernel), codeAny_builtin entry_list_iadd' (show wpAny _ _ (Builtin.List.listExtendWith (.ref s.heap.objs.size) (.ref t) (.ref s.heap.objs.size)) _ _ { s with heap := s.heap.push (seqObj "list" #[] 0) } from ?_)⟩))
  unfold Builtin.List.listExtendWith
  have gob2 : (s.heap.push (seqObj "list" #[] 0)).get? t = some ob := Heap.get?_push_of_some _ gob
  refine wpAny_bind (wpAny_typeOf (T := "tuple") ⟨ob, gob2, cob⟩ ?_)
  have yes : (Value.type "tuple" == Value.type "tuple") = true := rfl
  rw [if_pos (show ((_ || (Value.type "tuple" == Value.type "tuple")) = true) from by rw [yes, Bool.or_true])]
  refine wpAny_bind (listItems_at gob2 dob (wpAny_bind (listItems_at (xs := #[]) (n := 0) (Heap.get?_push_size _ rfl) rfl ?_)))
  rw [if_neg (show ¬ _ from by simp)]
  refine wpAny_bind (listUpdate_at (xs := #[]) (n := 0) (Heap.get?_push_size _ rfl) rfl (wpAny_pure ?_) (Nat.zero_le _) (show (#[] ++ us.toArray).size ≤ sizeLine + 1 from by simp only [Array.size_append, List.size_toArray, List.length_nil]; omega))
  show wpAny (model prog w) A (do let o ← load s.heap.objs.size; match o.data with | .seq xs _ => pure xs.toList | _ => unsupported "internal:collect") Q E _
  refine wpAny_bind (wpAny_load (get?_update_seq (Heap.get?_push_size _ rfl) _) (show wpAny _ _ (pure ((#[] : Array Value) ++ us.toArray).toList) Q E _ from ?_))
  rw [show ((#[] : Array Value) ++ us.toArray).toList = us from by simp]
  exact wpAny_pure h
/-- sorted of a tuple -/
theorem sortT_of {t : Addr} {us : List Value} {Q : Value → Shared → Prop} (ht : IsTup s.heap t us.toArray) (hz : us.length ≤ sizeLine)
    (body : ∀ E' : Value → Shared → Prop, wpAny (model prog w) A.in1.in1 (Builtin.«list.sort» ⟨[.ref (s.heap.objs.size + 1)], []⟩) (fun f s' => f = .done (.ret .none) ∧ Q (.ref (s.heap.objs.size + 1)) s') E' { s with heap := PySem.W.copyHeap s.heap us }) :
    wpAny (model prog w) A (call (.builtin "sorted") [.ref t] []) Q E s := by
  refine call_function_entry_kw kind_sorted plain_sorted entry_sorted (args_sorted1 _) ?_
  unfold Builtin.«sorted»
  refine wpAny_bind (m := checkCount "sorted" 1 1 _) (wpAny_pure (wpAny_bind (collT ht hz (wpAny_bind (wpAny_newList ?_ hz)))))
  have eq1 : ((s.heap.push (seqObj "list" #[] 0)).update s.heap.objs.size (Obj.mapSeq (· ++ us.toArray))).objs.size = s.heap.objs.size + 1 := by rw [Heap.size_update, size_push']
  show wpAny _ _ _ _ _ { s with heap := PySem.W.copyHeap s.heap us }
  rw [eq1]
  refine wpAny_bind (wpAny_holding (wpAny_call_entry_kw PyProof.Rows.slot_list_sort ⟨_, PySem.W.copyHeap_at s.heap us, rfl⟩ PyProof.Rows.entry_list_sort (show wpAny (model prog w) A.in1.in1 (Builtin.«list.sort» ⟨[.ref (s.heap.objs.size + 1)], []⟩) _ _ _ from ?_) (PyProof.Rows.args_list_sort _)))
  refine wpAny_mono (body _) (fun f s' hf => ?_) fun _ _ e => e
  obtain ⟨rfl, hq⟩ := hf
  exact ⟨_, rfl, wpAny_pure ⟨_, rfl, hq⟩⟩
end

/-! ### sorted -/
abbrev dle : PyData → PyData → Bool := PySem.W.dataLe false id
def alikeB (ds : List PyData) : Bool := ds.all fun d => ds.all fun e => PySem.W.alike d e
def tupB : PyData → Bool
  | .tuple (_ :: _) => true
  | _ => false
def otherB : PyData → Bool
  | .tuple _ => false
  | .none => false
  | _ => true
def sortB (ds : List PyData) : Bool := alikeB ds && (ds.all tupB || ds.all otherB) && ds.all fun d => decide (d.depth ≤ 50)
theorem sortB_ok {ds : List PyData} (h : sortB ds = true) : PySem.W.AllAlike ds ∧ PySem.W.Sortable ds ∧ ∀ d ∈ ds, d.depth ≤ 50 := by
  unfold sortB at h
  simp only [Bool.and_eq_true, Bool.or_eq_true, List.all_eq_true, decide_eq_true_eq] at h
  obtain ⟨⟨h1, h2⟩, h3⟩ := h
  refine ⟨fun d hd e he => ?_, ?_, h3⟩
  · unfold alikeB at h1
    exact List.all_eq_true.mp (List.all_eq_true.mp h1 d hd) e he
  · rcases h2 with h2 | h2
    · refine .inl fun d hd => ?_
      have := h2 d hd
      unfold tupB at this
      split at this
      · exact ⟨_, _, rfl⟩
      · cases this
    · refine .inr fun d hd => ?_
      have := h2 d hd
      unfold otherB at this
      split at this
      · cases this
      · cases this
      · rename_i n1 n2
        exact ⟨fun e => n2 e, fun xs e => n1 xs e⟩
def dSorted : List PyData → Res PyData
  | [.list ds] => if sortB ds = true ∧ ds.length ≤ LIM then .ok (.list (ds.mergeSort dle)) else .stuck
  | [.tuple ds] => if sortB ds = true ∧ ds.length ≤ LIM then .ok (.list (ds.mergeSort dle)) else .stuck
  | _ => .stuck
def rSortD (K : PySem.W.Frag) : List V → Hp → VK → Prop := fun vs H Q => ∃ a xs ds F, vs = [.ref a] ∧ (SqL K H a xs ∨ SqT K H a xs) ∧ Same F H ∧ DpAll K F xs ds ∧ sortB ds = true ∧ ∀ p ys, H p = none → DpAll K F ys (ds.mergeSort dle) → ys.length ≤ sizeLine → Q (.ref p) (upd H p (.lst ys))
section
variable {X : Cx} {pins : List (Addr × Obj)} {σ : L2.St} {H : Hp} {s : Shared}
/-- what a value stands for -/
def Stn (K : PySem.W.Frag) (H : Hp) (u : Value) (d : PyData) : Prop := ∃ x, RelV x u ∧ Dp K H x d
theorem stn_each : ∀ {ds : List PyData} {vs : List V} {us : List Value}, DpAll X.K H vs ds → Vals vs us → PySem.W.EachIs (Stn X.K H) us ds
  | [], _, _, h, r => by cases h; cases r; exact .nil
  | d :: ds, _, _, h, r => by
    cases h with
    | cons h1 h2 =>
      cases r with
      | cons r1 r2 => exact .cons ⟨_, r1, h1⟩ (stn_each h2 r2)
theorem stn_back : ∀ {ds : List PyData} {us : List Value}, PySem.W.EachIs (Stn X.K H) us ds → ∃ vs, Vals vs us ∧ DpAll X.K H vs ds
  | [], _, h => by cases h; exact ⟨[], .nil, .nil⟩
  | d :: ds, _, h => by
    cases h with
    | cons h1 h2 =>
      obtain ⟨x, r, q⟩ := h1
      obtain ⟨vs, r2, q2⟩ := stn_back h2
      exact ⟨x :: vs, .cons r r2, .cons q q2⟩
theorem stn_reads {F : Hp} (hs : Same F H) (I : Inv X pins σ H s) {us : List Value} {ds : List PyData} (e : PySem.W.EachIs (Stn X.K F) us ds) : PySem.W.EachIs (fun v b => ∃ as, Reads s.heap v (id b) as) us ds := by
  induction e with
  | nil => exact .nil
  | cons h _ ih =>
    obtain ⟨x, r, q⟩ := h
    exact .cons (Dp.reads I _ _ _ (dpMono hs _ _ q) r) ih
theorem call_sortedD (hu : X.A.units + 80 < cLine) : CallR X (.builtin "sorted") (rSortD X.K) := by
  intro pins s σ H vs us Q I r h
  obtain ⟨a, xs, ds, F, rfl, hsq, hFH, ha, hsb, q⟩ := h
  obtain ⟨u, rfl, rx⟩ := r.one
  cases rx
  obtain ⟨hal, hsk, hdep⟩ := sortB_ok hsb
  have hal' : PySem.W.AllAlike (ds.map id) := by rw [List.map_id]; exact hal
  have hsk' : PySem.W.Sortable (ds.map id) := by rw [List.map_id]; exact hsk
  have fin : ∀ us2 : List Value, ∀ out, out.length = ds.length → PySem.W.EachIs (Stn X.K F) out (ds.mergeSort dle) → ds.length ≤ sizeLine →
      EP X pins σ Q (.ref (s.heap.objs.size + 1)) { s with heap := sortedAll s.heap us2 out.toArray } := fun us2 out hl e hz => by
    obtain ⟨ys, r2, q2⟩ := stn_back e
    obtain ⟨c, at_⟩ := sortedAll_at s.heap us2 out.toArray
    have hn : H (s.heap.objs.size + 1) = none := I.hok.fresh (Nat.le_succ _)
    have hy : ys.length ≤ sizeLine := by rw [r2.length, hl]; exact hz
    exact ⟨.ref _, _, I.laid (t' := s.toks) (a := s.heap.objs.size + 1) (o := .lst ys) (fun b o e => sortedAll_old e) (Nat.le_succ _) ⟨hy, out, c, r2, at_⟩, rfl, q _ ys hn q2 hy⟩
  have hl := dpsLen ha
  rcases hsq with hs | hs
  · obtain ⟨its, rv, pl, hz⟩ := I.list hs
    have e := stn_each (X := X) ha rv
    exact PySem.W.sorted_data (R := Stn X.K F) (enc := id) pl.isList e (stn_reads hFH I e) hal' hsk' (by rw [← hl]; exact hz) (fun b hb => by have := hdep b hb; show X.A.units + 2 + b.depth < cLine; omega) fun out h1 h2 => fin its out h1 h2 (by rw [← hl]; exact hz)
  · obtain ⟨its, rv, pt, hz⟩ := I.tuple hs
    have e := stn_each (X := X) ha rv
    have er := stn_reads hFH I e
    have hz2 : its.length ≤ sizeLine := by rw [← rv.length]; exact hz
    have er' : PySem.W.EachIs (fun v b => ∃ as, Reads (PySem.W.sortingHeap (PySem.W.copyHeap s.heap its) (s.heap.objs.size + 1) its) v (id b) as) its ds := er.mono fun _ _ ⟨as, r⟩ => ⟨as, PyProof.Rows.Reads.keeps (fun _ _ => PySem.W.sorting_copy_old) r⟩
    refine sortT_of pt hz2 fun E' => PySem.W.list_sort_vals (s := { s with heap := PySem.W.copyHeap s.heap its }) (PySem.W.copyHeap_at s.heap its)
      (PySem.W.SortsAt.data (s := { s with heap := PySem.W.sortingHeap (PySem.W.copyHeap s.heap its) (s.heap.objs.size + 1) its }) (PySem.W.each_map (R := fun v d => ∃ as, Reads (PySem.W.sortingHeap (PySem.W.copyHeap s.heap its) (s.heap.objs.size + 1) its) v d as) id er') hal' hsk' (PySem.W.bound_map fun b hb => ?_)) hz2 ⟨rfl, ?_⟩
    · have := hdep b hb
      show X.A.units + 1 + 1 + b.depth < cLine
      omega
    · exact fin its _ (by rw [PySem.W.sortVals_length false rfl]; exact e.length) (PySem.W.sortVals_data false e er' hal') (by rw [← hl]; exact hz)
end
theorem rcb_sorted {X : Cx} {C : Cst} (hK : X.K = C.K) : RCB C (rSortD X.K) dSorted := rc1 (fun ds h => by
    unfold dSorted
    split <;> first | rfl | exact absurd rfl (h _)) fun W F σ H v d Q hs b k => by
  cases d with
  | list ds =>
    unfold dSorted at k
    by_cases h : sortB ds = true ∧ ds.length ≤ LIM
    · simp only [if_pos h] at k
      obtain ⟨p, vs, rfl, h1, a1⟩ := b.list hs
      refine ⟨p, vs, ds, F, rfl, .inl (hK ▸ h1), hs, hK ▸ a1, h.1, fun p ys hp hy hz => ?_⟩
      have y := Xt.new (o := .lst ys) hs hp
      exact k _ _ _ y (.lst (.inl (.inl upd_same)) (dpsMono y.f _ _ (by rw [hK] at hy; exact hy)))
    · simp only [if_neg h] at k; exact False.elim k
  | tuple ds =>
    unfold dSorted at k
    by_cases h : sortB ds = true ∧ ds.length ≤ LIM
    · simp only [if_pos h] at k
      obtain ⟨p, vs, rfl, h1, a1⟩ := b.tup hs
      refine ⟨p, vs, ds, F, rfl, .inr (hK ▸ h1), hs, hK ▸ a1, h.1, fun p ys hp hy hz => ?_⟩
      have y := Xt.new (o := .lst ys) hs hp
      exact k _ _ _ y (.lst (.inl (.inl upd_same)) (dpsMono y.f _ _ (by rw [hK] at hy; exact hy)))
    · simp only [if_neg h] at k; exact False.elim k
  | _ => exact False.elim k

/-! ### dicts with tuples for keys, of the def's own -/
def sNewDT (i : Nat) : SM := fun ρ => .nx (ρ.set i (.dT []))
def dTput (ks : List NestedKey) (k : NestedKey) : List NestedKey := if k ∈ ks then ks else ks ++ [k]
def sPutT (i : Nat) (m : EM) : SM := fun ρ => match ρ[i]? with
  | some (.dT ks) => sBind (m ρ) ρ fun d => match d, keyOf d with
    | .tuple _, some k => if ks.length < LIM ∧ k.depth ≤ 8 then .nx (ρ.set i (.dT (dTput ks k))) else .stuck
    | _, _ => .stuck
  | _ => .stuck
def mDLT (i : Nat) : EM := fun ρ => match ρ[i]? with
  | some (.dT ks) => .ok (.list (ks.map NestedKey.data))
  | _ => .stuck
section
variable {X : Cx} {C : Cst} {W : WX} {pos p p1 p2 p3 : Pos} {e : Expr} {m : EM} {i : Nat} {x : Str}
theorem s_newDT (hC : C.P = X.prog ∧ C.w = X.w) (hN : X.N.Nodup) (hi : X.N[i]? = some x) (hx : Loc X.env.scope x) (hs : swapsWith (.Dict [] [] p2) (some (.Name x p)) pos.line X.env = pure false := by rfl) (hf : X.fn x = true ∨ X.env.scope.names.lookup x = some .local := by first | exact .inl rfl | exact .inr rfl | assumption) :
    PS X (.Assign [.Name x p] (.Dict [] [] p2) pos) (tS C W (sNewDT i)) := ps_wk (ps_set hN hi hx pe_newT hs hf) fun D σ H ⟨ρ, F, ag, k⟩ q hq hsm => by
  refine k _ F _ (Same.refl _) (ag.own hq ⟨q, rfl, ⟨[], rfl, List.nodup_nil, Nat.zero_le _, hsm, (fun _ h => by cases h), ?_⟩, ag.fh.free hq, ag.s0.free hq⟩)
  rw [upd_same, hC.1, hC.2]; rfl
theorem s_putT {k2 : Nat} {j : Nat} (hC : C.P = X.prog ∧ C.w = X.w) (hK : X.K = C.K) (hr : Room j X.A) (hi : X.N[i]? = some x) (hv : Vis X.env.scope x) (h : PE X e (tE C W m)) (hd : (x == ("__debug__" : Str)) = false := by decide) (hcd : (x == ("__classdict__" : Str)) = false := by decide)
    (hs : swapsWithSole [.Subscript (.Name x p) e p2] (.Constant (.bool true) k2 p3) pos.line X.env = pure false := by rfl) (hw : swappedStores [.Subscript (.Name x p) e p2] (.Constant (.bool true) k2 p3) X.env = pure none := by rfl)
    (h1 : (assignEach [.Subscript (.Name x p) e p2] X.env).map (·.2) = [assign (.Subscript (.Name x p) e p2) X.env] := by rfl)
    (ha : ∀ v, assign (.Subscript (.Name x p) e p2) X.env v = (do
      let ov ← holding [v] (eval (.Name x p) X.env)
      let iv ← holding [v, ov] (eval e X.env)
      standAt p2
      holding [v, ov, iv] (setItem ov iv v)
      release [v, ov, iv] []) := by intro _; rfl) :
    PS X (.Assign [.Subscript (.Name x p) e p2] (.Constant (.bool true) k2 p3) pos) (tS C W (sPutT i m)) := ps_wk (ps_asg pe_bl (pg_sub (pe_var hi hv hd hcd) h (set_T (hu80 hr)) ha) hs hw h1) fun D σ H ⟨ρ, F, ag, k⟩ => by
  unfold sPutT at k
  split at k
  · rename_i ks e1
    obtain ⟨o, h1, q, rfl, ⟨xs, ek, nd, lk, hsm, hks, hq⟩, h3, h4⟩ := ag.sl i _ e1
    refine ⟨_, h1, ρ, F, ag, SK.bind ag k fun d v F1 H1 x1 b1 k1 => ?_⟩
    split at k1
    · rename_i ds kk ekk
      by_cases hl : ks.length < LIM ∧ kk.depth ≤ 8
      · rw [if_pos hl] at k1
        have g2 := x1.h _ _ hq
        have g3 := x1.n q (by rw [hq]; exact fun z => (nomatch z)) h3
        have hdat := keyOf_data _ _ ekk
        cases b1 with
        | @tup b ws _ hb1 hb2 =>
          have hdp : Dp C.K F1 (.ref b) (.tuple ds) := .tup hb1 hb2
          have hdp2 : Dp C.K F1 (.ref b) kk.data := by rw [hdat]; exact hdp
          have hlen : xs.length = ks.length := by rw [← ek, List.length_map]
          have hks1 : ∀ y ∈ xs, Dp C.K F1 (.ref y.2) y.1.data ∧ y.1.depth ≤ 8 := fun y hy => ⟨dpMono x1.f _ _ (hks y hy).1, (hks y hy).2⟩
          refine ⟨q, xs, kk, b, rfl, rfl, rfl, ?_, hsm, ⟨by rw [ek]; exact nd, by rw [hlen]; exact lk, fun y hy => ⟨hK ▸ dpMono x1.fh _ _ (hks1 y hy).1, (hks y hy).2⟩⟩, by rw [hlen]; exact Nat.lt_of_lt_of_le hl.1 (by decide), hK ▸ dpMono x1.fh _ _ hdp2, hl.2, ?_, ?_⟩
          · rw [g2, hC.1, hC.2]; rfl
          · intro z e
            rw [e] at hdat
            simp only [NestedKey.data] at hdat
            cases hdat
          · refine k1 _ F1 _ (Same.refl _) ((ag.ext x1).change e1 rfl h1 ⟨q, rfl, ⟨putE xs kk b, ?_, ?_, ?_, hsm, ?_, ?_⟩, g3, h4⟩ rfl)
            · unfold putE dTput
              rw [ek]
              split
              · exact ek
              · rw [List.map_append, ek]; rfl
            · unfold dTput
              split
              · exact nd
              · rename_i hn
                rw [List.nodup_append]
                exact ⟨nd, List.nodup_cons.mpr ⟨by simp, List.nodup_nil⟩, fun a ha b hb => by
                  rw [List.mem_singleton] at hb
                  rintro rfl
                  exact hn (hb ▸ ha)⟩
            · unfold dTput
              split
              · exact lk
              · rw [List.length_append, List.length_singleton]; exact Nat.le_trans hl.1 (by decide)
            · unfold putE
              split
              · exact hks1
              · intro y hy
                rcases List.mem_append.mp hy with hy | hy
                · exact hks1 y hy
                · rw [List.mem_singleton] at hy
                  subst hy
                  exact ⟨hdp2, hl.2⟩
            · rw [upd_same, ← hC.1, ← hC.2]; rfl
      · rw [if_neg hl] at k1; exact False.elim k1
    · exact False.elim k1
  · exact False.elim k
theorem x_dlT (i : Nat) (hC : C.P = X.prog ∧ C.w = X.w) (hK : X.K = C.K) (hc : X.calm = true) (hg : Gl X "list") (hm : X.mg "list" = none) {x : Str} (hi : X.N[i]? = some x := by rfl) (hv : Vis X.env.scope x := by first | exact Or.inl rfl | exact Or.inr (Or.inl rfl) | exact Or.inr (Or.inr rfl))
    (hd : (x == ("__debug__" : Str)) = false := by decide) (hcd : (x == ("__classdict__" : Str)) = false := by decide) : PE X (.Call (.Name "list" p1) [.Name x p] [] pos) (tE C W (mDLT i)) :=
  pe_wk (pe_callTy (call_listT hc) hg hm (by decide +kernel) (pa_cons (pe_var hi hv hd hcd) pa_nil)) fun σ H Q ⟨ρ, F, ag, k⟩ => by
    unfold mDLT at k
    split at k
    · rename_i ks e1
      obtain ⟨o, h1, q, rfl, ⟨xs, ek, nd, lk, hsm, hks, hq⟩, h3, h4⟩ := ag.sl i _ e1
      have hlen : xs.length = ks.length := by rw [← ek, List.length_map]
      refine ⟨_, h1, q, xs, rfl, by rw [hq, hC.1, hC.2]; rfl, hsm, ⟨by rw [ek]; exact nd, by rw [hlen]; exact lk, fun y hy => ⟨hK ▸ dpMono ag.fh _ _ (hks y hy).1, (hks y hy).2⟩⟩, fun a ha => ?_⟩
      have y := Xt.new (o := .lst (xs.map fun x => V.ref x.2)) ag.fh ha
      refine k _ _ _ y (.lst (.inl (.inl upd_same)) (dpsMono y.f _ _ ?_))
      rw [← ek]
      clear y k hq ek nd lk hlen ha
      induction xs with
      | nil => exact .nil
      | cons z r ih => exact .cons (hks z List.mem_cons_self).1 (ih fun y hy => hks y (List.mem_cons_of_mem _ hy))
    · exact False.elim k
end
end Stm
set_option Elab.async false
set_option linter.all false
set_option maxRecDepth 100000
set_option maxHeartbeats 4000000
namespace Stm
open PySem PySem.Spec PyProof.Rows PySem.Calls L2

/-! ### max of a tuple of ints -/
def dMaxT : List PyData → Res PyData
  | [.tuple ds] => match intsOf ds with
    | some (n :: ns) => .ok (.int (ns.foldl max n))
    | _ => .stuck
  | _ => .stuck
def rMaxT (K : PySem.W.Frag) : List V → Hp → VK → Prop := fun vs H Q => ∃ (a : Addr) (n : Int) (ns : List Int), vs = [V.ref a] ∧ SqT K H a ((n :: ns).map V.int) ∧ Q (.int (ns.foldl max n)) H
theorem reads_ints {h : Heap} : ∀ {ns : List Int} {us : List Value}, Vals (ns.map V.int) us → ReadsAll h us (ns.map PyData.int) []
  | [], _, r => by cases r; exact .nil
  | n :: ns, _, r => by
    cases r with
    | cons r1 r2 =>
      obtain ⟨t, rfl⟩ := r1
      exact .cons (as := []) (bs := []) (.int n t) (reads_ints r2)
theorem alike_ints (ns : List Int) : PySem.W.AlikeAll (ns.map PyData.int) := by
  refine ⟨fun x hx y hy => ?_, fun x hx => ?_⟩
  · obtain ⟨i, _, rfl⟩ := List.mem_map.mp hx
    obtain ⟨j, _, rfl⟩ := List.mem_map.mp hy
    simp [PySem.W.alike]
  · obtain ⟨i, _, rfl⟩ := List.mem_map.mp hx
    exact fun e => nomatch e
theorem depth_ints : ∀ ns : List Int, PyData.depthAll (ns.map PyData.int) = 0
  | [] => by simp [PyData.depthAll]
  | n :: ns => by simp [PyData.depthAll, PyData.depth, depth_ints ns]
theorem call_maxT {X : Cx} (hc : X.calm = true) (hu : X.A.units + 80 < cLine) : CallR X (.builtin "max") (rMaxT X.K) := by
  intro pins s σ H vs us Q I r h
  obtain ⟨a, n, ns, rfl, hs, q⟩ := h
  obtain ⟨its, rv, pt, hz⟩ := I.tuple hs
  rw [Vals.ref1 r]
  refine PySem.W.max_tuple_data (vs := its.toArray) (x := .int n) (xs := ns.map PyData.int) (as := []) (I.ok.hd hc) pt (by rw [List.toList_toArray]; exact reads_ints (ns := n :: ns) rv) (alike_ints (n :: ns)) (by
    have := depth_ints (n :: ns)
    rw [List.map_cons] at this
    rw [this]; omega) fun i v h' tk bs hv hr hk => ?_
  rw [PySem.W.maxD_ints] at hr
  cases hr with
  | int _ t => exact ⟨.int _, H, I.kept hk, ⟨_, rfl⟩, q⟩
theorem rcb_maxT {X : Cx} {C : Cst} (hK : X.K = C.K) : RCB C (rMaxT X.K) dMaxT := rc1 (fun ds h => by
    unfold dMaxT
    split <;> first | rfl | exact absurd rfl (h _)) fun W F σ H v d Q hs b k => by
  cases d with
  | tuple ds =>
    unfold dMaxT at k
    cases e : intsOf ds with
    | none => simp only [e] at k; exact False.elim k
    | some ns =>
      cases ns with
      | nil => simp only [e] at k; exact False.elim k
      | cons n ns =>
        simp only [e] at k
        rcases b with b | ⟨_, _, _, _, e2, _⟩
        · cases b with
          | @tup a vs _ h1 a1 =>
            rw [intsOf_eq e] at a1
            rw [dpsInts' a1] at h1
            exact ⟨a, n, ns, rfl, hK ▸ seqT hs h1, okK k hs (.int _)⟩
        · cases e2
  | _ => exact False.elim k
end Stm
set_option Elab.async false
set_option linter.all false
set_option maxRecDepth 100000
set_option maxHeartbeats 4000000
namespace Stm
open PySem PySem.Spec PyProof.Rows PySem.Calls L2
section
variable {P : Program} {w : World} {A : Around} {E : Value → Shared → Prop} {s : Shared}
abbrev es0 (w : World) : Obj := { cls := .type "set", dict := none, data := .set #[] 0 (.fresh 0 0 (!w.params.followText "set-order")) }
set_option maxRecDepth 100000 in
set_option maxHeartbeats 3200000 in
/-- set(xs), xs a list of ints -/
theorem set_of_list {l : Addr} {vs : Array Value} (ks : List Int) {Q : Value → Shared → Prop} (hh : A.handled = none) (hl : s.heap.IsList l vs) (hi : IntsAre vs.toList ks) (hb : ks.length + 1 < scanBound)
    (fin : ∀ (h2 : Heap) (tk2 c2 : Nat), SetR w h2 s.heap.objs.size (fun j => decide (j ∈ ks)) c2 → c2 ≤ ks.length → (∀ b o, s.heap.get? b = some o → h2.get? b = some o) → Q (.ref s.heap.objs.size) { s with heap := h2, toks := tk2 }) :
    wpAny (model P w) A (call (.type "set") [.ref l]) Q E s := by
  have hsz : vs.size = ks.length := by
    have e := IntsAre.length hi
    rwa [Array.length_toList] at e
  obtain ⟨c0, tl0, hmro0⟩ := F.called_set.mro
  have made0 := F.called_set.made
  have sub0 := F.called_set.sub
  refine wpAny_call (codeAny_of_tree (show wpAny _ _ (callAny (.type "set") _) _ _ _ from ?_))
  refine wpAny_pure ⟨Code.quiet_builtin _ (by decide +kernel), codeAny_builtin F.entry_type_call (show _ from ?_)⟩
  rw [Around.under_plain (weight_type_call_type "set" [.ref l] []) (by rfl)]
  have nt0 := F.called_set.notType
  have cc0 := F.called_set.canCreate
  have tc0 := F.typeCall_set_1 (.ref l)
  repeat (any_goals (first | wp_step | assumption))
  refine codeAny_mono (code_set_led1 (.ref l) (E := E) (Q₁ := fun ob s1 => ob = .ref s.heap.objs.size ∧ s1 = { s with heap := s.heap.push (es0 w) }) ⟨rfl, rfl⟩) fun res s1 hres => ?_
  cases res with
  | error e => exact hres
  | ok fl =>
    cases fl with
    | ret ob =>
      obtain ⟨rfl, rfl⟩ := hres
      have new0 : (s.heap.push (es0 w)).get? s.heap.objs.size = some (es0 w) := Heap.get?_push_size _ rfl
      have ty0 : Shared.TypeIs { s with heap := s.heap.push (es0 w) } (.ref s.heap.objs.size) "set" := ⟨_, new0, rfl⟩
      have li0 := F.called_set.init.lookup
      have bi0 := F.called_set.init.bind (.ref s.heap.objs.size)
      repeat (any_goals (first | wp_step | assumption))
      refine codeAny_mono (codeAny_call_builtin (R := wants (fun r s₂ => r = .none ∧ ∃ h2 tk2 c2, s₂ = { s with heap := h2, toks := tk2 } ∧ SetR w h2 s.heap.objs.size (fun j => decide (j ∈ ks)) c2 ∧ c2 ≤ ks.length ∧
          (∀ b o, s.heap.get? b = some o → h2.get? b = some o)) E) F.called_set.init.plain F.entry_set_init (check_set_init_1 ty0 ?_)) fun r2 s2 hr2 => ?_
      · obtain ⟨lo, glo, clo, nlo, dlo⟩ := hl
        obtain ⟨lcls, ldict, ldata, lslots⟩ := lo
        simp only at clo dlo
        subst clo dlo
        have glo2 : (s.heap.push (es0 w)).get? l = some { cls := .type "list", dict := ldict, data := .seq vs nlo, slots := lslots } := Heap.get?_push_of_some _ glo
        have sb1 := F.sub_list_set
        have sb2 := F.sub_list_frozenset
        have ne1 : (Value.type "list" == Value.type "dict") = false := by decide
        have il1 : (s.heap.push (es0 w)).IsList l vs := ⟨_, glo2, rfl, nlo, rfl⟩
        unfold Builtin.«set.__init__» Builtin.Frozenset.updateFrom noKeywords
        generalize hPI : pyIter = PIt
        wp_walk
        subst hPI
        refine wpAny_pyIter_list il1 (wpAny_bind (wpAny_runValue ?_))
        have llt : l < s.heap.objs.size := Heap.lt_size glo
        have hnd : A.in1.in1.in1.handled = none := by simp [hh]
        have neI : l ≠ (s.heap.push (es0 w)).objs.size := by
          rw [Heap.size_push]; exact (Nat.ne_of_lt (Nat.lt_succ_of_lt llt) :)
        have nin : s.heap.objs.size ∉ [(s.heap.push (es0 w)).objs.size, l] := by
          rw [Heap.size_push]; simp only [List.mem_cons, List.not_mem_nil, or_false, not_or]
          exact ⟨Nat.ne_of_lt (Nat.lt_succ_self _), (Nat.ne_of_gt llt :)⟩
        have item : ∀ (i : Nat) (v : Value), vs[i]? = some v → ∃ k t, ks[i]? = some k ∧ v = .int k t := fun i v hv => by
          have hi2 : i < ks.length := by rw [← hsz]; exact (Array.getElem?_eq_some_iff.mp hv).1
          obtain ⟨t, e⟩ := PyProof.Rows.IntsAre.int_at hi i v (by rw [Array.getElem?_toList]; exact hv)
          refine ⟨ks[i], t, List.getElem?_eq_getElem hi2, ?_⟩
          rw [e, List.getD_eq_getElem?_getD, List.getElem?_eq_getElem hi2] <;> rfl
        refine set_update_ints ((Walks.list hnd _ l neI vs).toS) s.heap.objs.size nin ks hsz hb item (vs.size - 0) 0 _ (by omega) (Nat.zero_le _) ⟨⟨_, Heap.get?_push_size _ rfl, rfl, rfl⟩, il1.push _⟩ ?start ?stop
        case start =>
          have get0 : ((s.heap.push (es0 w)).push { cls := .type "list_iterator", data := .fields #[.ref l, .int 0 0] }).get? s.heap.objs.size = some (es0 w) := Heap.get?_push_of_some _ new0
          exact ⟨0, Nat.le_refl 0, setR_new_at get0⟩
        case stop =>
          intro s3 c3 mv c3le set3
          obtain ⟨h3, g3, d3, tk3, os3⟩ := s3
          have eg3 : g3 = s.gens := mv.gens
          have ed3 : d3 = s.drawn := mv.drawn
          have eo3 : os3 = s.os := mv.os
          subst eg3 ed3 eo3
          refine (show wpAny _ _ _ _ _ _ from wpAny_pure (show wpAny _ _ (ret Value.none) _ _ _ from ?_))
          rw [hsz] at c3le
          refine wpAny_pure ⟨rfl, h3, tk3, c3, rfl, set3, c3le, fun b o e => ?_⟩
          have b1 : b < s.heap.objs.size := Heap.lt_size e
          have b2 : b ≠ (s.heap.push (es0 w)).objs.size := by
            rw [Heap.size_push]; exact (Nat.ne_of_lt (Nat.lt_succ_of_lt b1) :)
          exact mv.heap b o (by simp only [List.mem_cons, List.not_mem_nil, or_false, not_or]; exact ⟨Nat.ne_of_lt b1, b2⟩) (Heap.get?_push_of_some _ (Heap.get?_push_of_some _ e))
      · cases r2 with
        | error e => exact hr2
        | ok fl2 =>
          cases fl2 with
          | ret r =>
            obtain ⟨rfl, h3, tk3, c3, rfl, set3, c3le, keep3⟩ := hr2
            repeat (any_goals (first | wp_step | assumption))
            exact fin _ _ _ set3 c3le keep3
          | _ => exact hr2.elim
    | _ => exact hres.elim
/-- sorted(a set of ints), any number of them -/
theorem sorted_setN {a : Addr} {S : Int → Bool} {n : Nat} {Q : Value → Shared → Prop} (R : SetR w s.heap a S n) (hh : A.handled = none)
    (fin : ∀ s2 p (out : Array Value) (c : Nat) (ns : List Int), (∀ b o, s.heap.get? b = some o → s2.heap.get? b = some o) → s2.gens = s.gens → s2.os = s.os → s.heap.objs.size ≤ p →
      s2.heap.get? p = some (seqObj "list" out c) → IntsAre out.toList ns → ns.Pairwise (· < ·) → (∀ k, k ∈ ns ↔ S k = true) → Q (.ref p) s2) :
    wpAny (model P w) A (call (.builtin "sorted") [.ref a]) Q E s := by
  obtain ⟨o, es, ep, t, ho, hex, hd, gd, nd, hm, hbd, hf, hn, hr, hl⟩ := R
  refine Calls.call_function_entry kind_sorted plain_sorted entry_sorted (args_sorted1 _) (show _ from ?_)
  unfold Builtin.«sorted»
  refine wpAny_bind (m := checkCount "sorted" 1 1 _) (wpAny_pure (wpAny_bind (collect_set (A := A.in1) hh ⟨o, ho, hex.1, hd⟩ hf hbd hr hl fun s1 us k1 z1 g1 o1 pm => ?_)))
  have usl : us.length = es.size := by rw [pm.length_eq, List.length_map, Array.length_toList]
  have uz : us.length ≤ sizeLine := by rw [usl, sizeLine_eq]; unfold scanBound at hbd; omega
  have ui : IntsAre us (us.map Builtin.Re.reRawOf) := L2.ints_of us fun v hv => by
    obtain ⟨e, he, q⟩ := List.mem_map.mp (pm.mem_iff.mp hv)
    obtain ⟨k, tk, h1, _⟩ := gd e he
    exact ⟨k, tk, by rw [← q]; exact h1⟩
  have pk : (us.map Builtin.Re.reRawOf).Perm (es.toList.map L2.keyOf) := by
    have q := pm.map Builtin.Re.reRawOf
    rwa [List.map_map] at q
  refine wpAny_bind (wpAny_newList ?_ uz)
  have newL : (s1.heap.push (seqObj "list" us.toArray 0)).get? s1.heap.objs.size = some (seqObj "list" us.toArray 0) := Heap.get?_push_size _ rfl
  refine wpAny_bind (wpAny_holding (wpAny_call_entry slot_list_sort ⟨_, newL, rfl⟩ entry_list_sort (SrtO.list_sort_ord SrtO.swo_int newL uz (fun h2 => SrtO.ints_sortable ui h2) fun out a1 a2 => ⟨_, rfl, ?_⟩) (args_list_sort _)))
  obtain ⟨k1', k2, k3⟩ := SrtO.ints_out ui a1 a2
  obtain ⟨c, hc⟩ := sortedHeap_at (vs := us) (out := out.toArray) newL
  have pn : (out.map SrtO.iv).Perm (es.toList.map L2.keyOf) := k2.trans pk
  refine wpAny_pure ⟨_, rfl, fin _ s1.heap.objs.size out.toArray c (out.map SrtO.iv) (fun b u e => ?_) g1 o1 z1 hc (by simpa using k1') (lt_of_le_nodup _ k3 (pn.nodup_iff.mpr nd)) fun k => by rw [pn.mem_iff, ← hm k]⟩
  have q := k1 b u e
  have qlt := Heap.lt_size q
  refine (sortedHeap_old (Nat.ne_of_lt qlt) (by rw [size_push']; exact Nat.lt_succ_of_lt qlt)).trans ?_
  exact Heap.get?_push_of_some _ q
end

/-! ### sorted(set(xs)) -/
def rSetI (K : PySem.W.Frag) (w : World) : List V → Hp → VK → Prop := fun vs H Q => ∃ (l : Addr) (ks : List Int), vs = [V.ref l] ∧ SqL K H l (ks.map V.int) ∧ ks.length + 1 < scanBound ∧ ∀ p c, H p = none → Q (.ref p) (upd H p (SetO w p (fun j => decide (j ∈ ks)) c))
def rSortSI (w : World) : List V → Hp → VK → Prop := fun vs H Q => ∃ (a : Addr) (S : Int → Bool) (n : Nat), vs = [V.ref a] ∧ H a = some (SetO w a S n) ∧ ∀ (ns : List Int) (p : Addr), ns.Pairwise (· < ·) → (∀ k : Int, k ∈ ns ↔ S k = true) → ns.length ≤ sizeLine → H p = none → Q (.ref p) (upd H p (.lst (ns.map V.int)))
theorem cr_setI {X : Cx} (hc : X.calm = true) : CallR X (.type "set") (rSetI X.K X.w) := by
  intro pins s σ H vs us Q I r h
  obtain ⟨l, ks, rfl, hs, hb, q⟩ := h
  obtain ⟨its, rv, pl, hz⟩ := I.list hs
  rw [Vals.ref1 r]
  refine set_of_list (vs := its.toArray) ks (I.ok.hd hc) pl.isList (by simpa using rv.ints) hb fun h2 tk2 c2 R2 c2le keep => ?_
  exact ⟨.ref _, upd H s.heap.objs.size (SetO X.w s.heap.objs.size (fun j => decide (j ∈ ks)) c2), I.laid (t' := tk2) keep (Nat.le_refl _) (setO_new R2), rfl, q _ _ (I.hok.fresh (Nat.le_refl _))⟩
theorem cr_sortSI {X : Cx} (hc : X.calm = true) : CallR X (.builtin "sorted") (rSortSI X.w) := by
  intro pins s σ H vs us Q I r h
  obtain ⟨a, S, n, rfl, ha, q⟩ := h
  have R := setO_get I ha
  rw [Vals.ref1 r]
  refine sorted_setN R (I.ok.hd hc) fun s2 p out c ns keep g o hp hg hi hs hm => ?_
  have hlen : (ns.map V.int).length ≤ sizeLine := by
    obtain ⟨o', es, ep, t, ho, hex, hd, gd, nd, hm2, hbd, hf, hn, hr, hl⟩ := R
    have hnd : ns.Nodup := hs.imp fun {x y} h => Int.ne_of_lt h
    have h1 : ns.length ≤ (es.toList.map L2.keyOf).length := hnd.length_le_of_subset fun k hk => (hm2 k).mp ((hm k).mp hk)
    rw [List.length_map, Array.length_toList (xs := es)] at h1
    rw [List.length_map, sizeLine_eq]; unfold scanBound at hbd; omega
  have hn : H p = none := I.hok.fresh hp
  have J : Inv X pins σ (upd H p (.lst (ns.map V.int))) { s with heap := s2.heap, gens := s2.gens, drawn := s2.drawn, toks := s2.toks } :=
    I.call (ch := []) (Un.laid keep hp hn) (I.hok.laid keep hp ⟨hlen, out.toList, c, vals_of_ints hi, hg⟩) (by rw [g]; exact I.bare) (fun _ z => nomatch z)
  have e : s2 = { s with heap := s2.heap, gens := s2.gens, drawn := s2.drawn, toks := s2.toks } := by
    obtain ⟨_, _, _, _, _⟩ := s2; cases s; cases o; rfl
  rw [e]
  exact ⟨.ref p, _, J, rfl, q ns p hs hm (by rw [List.length_map] at hlen; exact hlen) hn⟩
def putI (ks : List Int) (k : Int) : List Int := if k ∈ ks then ks else ks ++ [k]
def putIs (ks ns : List Int) : List Int := ns.foldl putI ks
theorem putIs_mem : ∀ (ns ks : List Int) (p : Int), p ∈ putIs ks ns ↔ p ∈ ks ∨ p ∈ ns
  | [], ks, p => by simp [putIs]
  | q :: ns, ks, p => by
    show p ∈ putIs (putI ks q) ns ↔ _
    rw [putIs_mem ns, List.mem_cons]
    unfold putI
    by_cases h : q ∈ ks
    · rw [if_pos h]
      constructor
      · rintro (h1 | h1)
        · exact .inl h1
        · exact .inr (.inr h1)
      · rintro (h1 | h1 | h1)
        · exact .inl h1
        · exact .inl (h1 ▸ h)
        · exact .inr h1
    · rw [if_neg h, List.mem_append, List.mem_singleton, or_assoc]
theorem putIs_nodup : ∀ (ns ks : List Int), ks.Nodup → (putIs ks ns).Nodup
  | [], ks, h => h
  | q :: ns, ks, h => by
    show (putIs (putI ks q) ns).Nodup
    refine putIs_nodup ns _ ?_
    unfold putI
    by_cases e : q ∈ ks
    · rw [if_pos e]; exact h
    · rw [if_neg e]
      exact List.nodup_append.mpr ⟨h, by simp, fun a ha b hb e2 => e (by rw [List.mem_singleton.mp hb] at e2; exact e2 ▸ ha)⟩
/-- the ints of ns, upwards, each once -/
def sortU (ns : List Int) : List Int := (putIs [] ns).mergeSort fun a b => decide (a ≤ b)
theorem sortU_perm (ns : List Int) : (sortU ns).Perm (putIs [] ns) := List.mergeSort_perm _ _
theorem sortU_mem {ns : List Int} {k : Int} : k ∈ sortU ns ↔ k ∈ ns := by
  rw [(sortU_perm ns).mem_iff, putIs_mem]
  simp
theorem sortU_nodup (ns : List Int) : (sortU ns).Nodup := (sortU_perm ns).symm.nodup (putIs_nodup ns [] List.nodup_nil)
theorem sortU_le (ns : List Int) : (sortU ns).Pairwise (· ≤ ·) := by
  have := List.pairwise_mergeSort (le := fun (a b : Int) => decide (a ≤ b)) (fun a b c h1 h2 => by simp only [decide_eq_true_eq] at *; omega) (fun a b => by simp only [Bool.or_eq_true, decide_eq_true_eq]; omega) (putIs [] ns)
  exact this.imp fun {a b} h => by simpa using h
theorem sortU_lt (ns : List Int) : (sortU ns).Pairwise (· < ·) := lt_of_le_nodup _ (sortU_le ns) (sortU_nodup ns)
theorem ints_uniq {xs ys : List Int} (hx : xs.Pairwise (· < ·)) (hy : ys.Pairwise (· < ·)) (h : ∀ k, k ∈ xs ↔ k ∈ ys) : xs = ys := by
  have nx : xs.Nodup := hx.imp fun {a b} h => Int.ne_of_lt h
  have ny : ys.Nodup := hy.imp fun {a b} h => Int.ne_of_lt h
  exact List.Perm.eq_of_pairwise (le := fun a b : Int => a < b) (fun a b _ _ h1 h2 => by omega) hx hy ((List.perm_ext_iff_of_nodup nx ny).mpr h)
def dSortSet : PyData → Res PyData
  | .list ds => match intsOf ds with
    | some ns => if ns.length < 4000 then .ok (.list ((sortU ns).map .int)) else .stuck
    | none => .stuck
  | _ => .stuck
def mSortSet (m : EM) : EM := fun ρ => (m ρ).bind dSortSet
theorem x_sortset {X : Cx} {C : Cst} {W : WX} {e : Expr} {m : EM} {pos p p2 pos2 : Pos} (hK : X.K = C.K) (hc : X.calm = true) (hg : Gl X "sorted") (hm : X.mg "sorted" = none) (hg2 : Gl X "set") (hm2 : X.mg "set" = none) (h : PE X e (tQ C W m))
    (hs : starEach [e] X.env = (false, eval e X.env) :: starEach [] X.env := by rfl) (hs2 : starEach [.Call (.Name "set" p2) [e] [] pos2] X.env = (false, eval (.Call (.Name "set" p2) [e] [] pos2) X.env) :: starEach [] X.env := by rfl)
    (hpl : (backTo pos2 (starEach ([] : List Expr) X.env)).any (·.1) = false := by rfl) (hpl2 : (backTo pos (starEach ([] : List Expr) X.env)).any (·.1) = false := by rfl) :
    PE X (.Call (.Name "sorted" p) [.Call (.Name "set" p2) [e] [] pos2] [] pos) (tE C W (mSortSet m)) :=
  pe_wk (pe_callB (cr_sortSI hc) hg hm (by decide +kernel) (pa_cons (pe_callTy (cr_setI hc) hg2 hm2 (by decide +kernel) (pa_cons h pa_nil hs) (he := hs) (hpl := hpl)) pa_nil hs2) (he := hs2) (hpl := hpl2)) fun σ H Q ⟨ρ, F, ag, k⟩ => ⟨ρ, F, ag, RK.bind k fun d v F1 H1 x1 b1 k1 => by
    cases d with
    | list ds =>
      unfold dSortSet at k1
      cases e : intsOf ds with
      | none => simp only [e] at k1; exact False.elim k1
      | some ns =>
        simp only [e] at k1
        by_cases hl : ns.length < 4000
        · simp only [if_pos hl] at k1
          obtain ⟨a, vs, rfl, h1, a1⟩ := b1.list x1.fh
          rw [intsOf_eq e] at a1
          rw [dpsInts' a1] at h1
          refine ⟨a, ns, rfl, hK ▸ h1, by unfold scanBound; omega, fun q c hq => ⟨q, _, c, rfl, upd_same, fun zs p2 hp hmem hz hp2 => ?_⟩⟩
          have ez : zs = sortU ns := ints_uniq hp (sortU_lt ns) fun k => by rw [hmem, sortU_mem]; exact decide_eq_true_iff
          have y := (Xt.grow (o := SetO X.w q (fun j => decide (j ∈ ns)) c) x1.fh hq)
          have y2 := y.trans (Xt.new (o := .lst (zs.map V.int)) y.fh hp2)
          rw [ez] at y2 ⊢
          exact k1 _ _ _ y2 (.lst (.inl (.inl upd_same)) (dpsInts _))
        · simp only [if_neg hl] at k1; exact False.elim k1
    | _ => exact False.elim k1⟩
end Stm
set_option Elab.async false
set_option linter.all false
set_option maxRecDepth 100000
set_option maxHeartbeats 4000000
namespace Stm
open PySem PySem.Spec PyProof.Rows PySem.Calls L2
/-! ### sum of a tuple of ints -/
def dSumT : List PyData → Res PyData
  | [.tuple ds] => match intsOf ds with
    | some ns => .ok (.int ns.sum)
    | none => .stuck
  | _ => .stuck
def rSumT (K : PySem.W.Frag) : List V → Hp → VK → Prop := fun vs H Q => ∃ (a : Addr) (ns : List Int), vs = [V.ref a] ∧ SqT K H a (ns.map V.int) ∧ Q (.int ns.sum) H
theorem call_sumT {X : Cx} (hc : X.calm = true) : CallR X (.builtin "sum") (rSumT X.K) := by
  intro pins s σ H vs us Q I r h
  obtain ⟨a, ns, rfl, hs, q⟩ := h
  obtain ⟨its, rv, pt, hz⟩ := I.tuple hs
  rw [Vals.ref1 r]
  obtain ⟨xs, hx⟩ := rv.ints.allInts.items
  have hn : numsOf (intItems xs).toList = ns := by rw [← hx]; exact rv.ints.numsOf
  rw [nums_intItems] at hn
  have pt2 : s.heap.IsTuple a (intItems xs) := by rw [← hx]; exact pt
  refine PySem.W.ktm_sumG (I.ok.hd hc) pt2 fun h2 tk2 t2 keep => ?_
  rw [preSum_eq, List.take_of_length_le (by simp), hn]
  exact ⟨.int _, H, I.kept keep, ⟨_, rfl⟩, q⟩
theorem rcb_sumT {X : Cx} {C : Cst} (hK : X.K = C.K) : RCB C (rSumT X.K) dSumT := rc1 (fun ds h => by
    unfold dSumT
    split <;> first | rfl | exact absurd rfl (h _)) fun W F σ H v d Q hs b k => by
  cases d with
  | tuple ds =>
    unfold dSumT at k
    cases e : intsOf ds with
    | none => simp only [e] at k; exact False.elim k
    | some ns =>
      simp only [e] at k
      rcases b with b | ⟨_, _, _, _, e2, _⟩
      · cases b with
        | @tup a vs _ h1 a1 =>
          rw [intsOf_eq e] at a1
          rw [dpsInts' a1] at h1
          exact ⟨a, ns, rfl, hK ▸ seqT hs h1, okK k hs (.int _)⟩
      · cases e2
  | _ => exact False.elim k
end Stm
set_option Elab.async false
set_option linter.all false
set_option maxRecDepth 100000
set_option maxHeartbeats 4000000
namespace Stm
open PySem PySem.Spec PyProof.Rows PySem.Calls L2
/-! ### try .. except X as e -/
/-- what the except suite does with an exception: lets it pass, returns a fixed datum, goes on -/
inductive Suf where
  | pass
  | ret (d : PyData)
  | next
def vOf : PyData → Option V
  | .bool b => some (.bl b)
  | .str x => some (.str x)
  | .none => some .non
  | _ => none
theorem vOf_dp {K : PySem.W.Frag} {F : Hp} {d : PyData} {v : V} (h : vOf d = some v) : Dp K F v d := by
  cases d <;> simp only [vOf, Option.some.injEq, reduceCtorEq] at h <;> subst h
  · exact .non
  · exact .bl _
  · exact .str _
def Suf.yes : Suf → Bool
  | .pass => false
  | _ => true
def sTry (i : Nat) (f : Ex → Option Suf) (body : SM) : SM := fun ρ => match body ρ with
  | .exc c ρ' => if i < ρ'.length then match f c with
    | none => .stuck
    | some .pass => .exc c ρ'
    | some (.ret d) => .rt d
    | some .next => .nx (ρ'.set i .un)
    else .stuck
  | r => r
/-- in the suite the name stands for the exception at a -/
def tSu (i : Nat) (a : Addr) (r : Suf) : TS := fun D σ H => σ[i]? = some (some (.ref a)) ∧ match r with
  | .pass => False
  | .ret d => ∃ v, vOf d = some v ∧ D.rt v H
  | .next => D.nx σ H
section
variable {X : Cx} {C : Cst} {W : WX} {x n : Str} {cv : Value} {i : Nat} {body suite : List Stmt} {b₀ : Stmt} {np pos pos' : Pos} {mb : SM} {f : Ex → Option Suf}
theorem s_try (hs : X.stack = X.env :: X.outer) (hf : X.env.frame = some X.env.locals) (hN : X.N.Nodup) (hi : X.N[i]? = some n) (hln : X.env.kindOf n = some .local) (hc : Names X x cv) (tk : Takes X W)
    (hex : ∀ c r, f c = some r → PySem.W.exmOne X.K (C.cl c) cv = some r.yes) (hv : ∀ c d, f c = some (.ret d) → (vOf d).isSome = true)
    (hb : ∀ (W' : WX) (pn : List (Addr × Obj)) (xe : Value → Shared → Prop), Takes (X.tr pn xe) W' → PassesOwn (model X.prog X.w) X.A X.env xe → PSs (X.tr pn xe) body (tS C W' mb))
    (hsu : ∀ (a : Addr) (oe : Obj) (c : Ex) (r : Suf) (pn : List (Addr × Obj)), f c = some r → r.yes = true → Zc (C.cl c) none oe → (∃ vs, oe.data = .fields vs) → PSs (X.suite a ((a, oe) :: pn)) (b₀ :: suite) (tSu i a r)) :
    PS X (.Try body [.ExceptHandler (some (.Name x np)) (some n) (b₀ :: suite) pos'] [] [] pos) (tS C W (sTry i f mb)) :=
  ps_wk (ps_try_as hs hf hN hi hln hc tk (tb := fun W' => tS C W' mb) (ts := fun a cls d D σ H => ∃ c r, f c = some r ∧ r.yes = true ∧ cls = C.cl c ∧ d = none ∧ tSu i a r D σ H) hb
    (fun a oe cls d pn hz hfd => ⟨fun pins s σ H D I ⟨c, r, e, hr, ec, ed, q⟩ => (hsu a oe c r pn e hr (by subst ec ed; exact hz) hfd).run pins s σ H D I q⟩)) fun D σ H ⟨ρ, F, ag, k⟩ => ⟨ρ, F, ag, by
    unfold sTry at k
    cases hm : mb ρ with
    | nx ρ' => rw [hm] at k; exact k
    | rt d => rw [hm] at k; exact k
    | stuck => rw [hm] at k; exact False.elim k
    | exc c ρ' =>
      rw [hm] at k
      intro σ' F' H' sF ag'
      by_cases hl : i < ρ'.length
      · simp only [if_pos hl] at k
        have hl2 : i < σ'.length := by rw [← ag'.len]; exact hl
        have hset : ∀ v, (σ'.set i v)[i]? = some v := fun v => by rw [List.getElem?_set_self hl2]
        cases hfc : f c with
        | none => rw [hfc] at k; exact False.elim k
        | some r =>
          rw [hfc] at k
          cases r with
          | pass => exact ⟨false, hex c _ hfc, (fun z => nomatch z), fun _ => k σ' F' H' sF ag'⟩
          | ret d =>
            obtain ⟨v, ev⟩ := Option.isSome_iff_exists.mp (hv c d hfc)
            exact ⟨true, hex c _ hfc, (fun _ a ha => ⟨c, _, hfc, rfl, rfl, rfl, hset _, v, ev, k v F' H' ag'.rt (vOf_dp ev)⟩), fun z => nomatch z⟩
          | next =>
            refine ⟨true, hex c _ hfc, (fun _ a ha => ⟨c, _, hfc, rfl, rfl, rfl, hset _, ?_⟩), fun z => nomatch z⟩
            show D.nx ((σ'.set i (some (.ref a))).set i none) H'
            rw [List.set_set]
            exact k _ F' H' sF ag'.setN
      · simp only [if_neg hl] at k; exact False.elim k⟩

/-! ### the suite's tests -/
def tIs (i : Nat) (a : Addr) (b : Bool) : TE := fun σ H Q => σ[i]? = some (some (.ref a)) ∧ Q (.bl b) H
variable {Y : Cx} {a D : Addr} {oe : Obj} {pn : List (Addr × Obj)} {p p2 p3 : Pos} {e e2 : Expr} {rest : List Expr} {b b2 : Bool} {y : Str} {c : V}
theorem x_isE (hC : ExcC X.K D) (hz : Zc (.ref D) none oe) (hfd : ∃ vs, oe.data = .fields vs) (hN : X.N[i]? = some n) (hv : Vis X.env.scope n) (hg : Gl X "isinstance") (hm : X.mg "isinstance" = none) (hc : PE (X.suite a ((a, oe) :: pn)) (.Name y p2) (tC c)) (hcv : ∀ u, RelV c u → u = cv) (hk : PySem.W.kitOne X.K (.ref D) cv = some b)
    (hd : (n == ("__debug__" : Str)) = false := by decide) (hcd : (n == ("__classdict__" : Str)) = false := by decide) (he : starEach [.Name n p3, .Name y p2] (X.suite a ((a, oe) :: pn)).env = (false, eval (.Name n p3) (X.suite a ((a, oe) :: pn)).env) :: starEach [.Name y p2] (X.suite a ((a, oe) :: pn)).env := by rfl)
    (hpl : (backTo pos (starEach [.Name y p2] (X.suite a ((a, oe) :: pn)).env)).any (·.1) = false := by rfl) :
    PE (X.suite a ((a, oe) :: pn)) (.Call (.Name "isinstance" p) [.Name n p3, .Name y p2] [] pos) (tIs i a b) :=
  pe_wk (pe_callB (X := X.suite a ((a, oe) :: pn)) (call_isE hC hz hfd) hg hm (by decide +kernel) (pa_cons (pe_var (X := X.suite a ((a, oe) :: pn)) hN hv hd hcd) (pa_cons hc pa_nil) he) (by decide) (by decide) he hpl) fun σ H Q ⟨e1, q⟩ => ⟨.ref a, e1, c, cv, b, rfl, hcv, hk, q⟩
theorem x_isAnd (h : PE Y e (tIs i a true)) (g : PE Y (.BoolOp .And (e2 :: rest) pos) (tIs i a b)) : PE Y (.BoolOp .And (e :: e2 :: rest) pos) (tIs i a b) := pe_wk (pe_and h g) fun σ H Q ⟨e1, q⟩ => ⟨e1, true, rfl, by rw [if_pos rfl]; exact ⟨e1, q⟩⟩
theorem x_isNot (h : PE Y e (tIs i a b)) : PE Y (.UnaryOp .Not e pos) (tIs i a (!b)) := pe_wk (pe_not h) fun σ H Q ⟨e1, q⟩ => ⟨e1, b, rfl, q⟩
theorem s_suRet (h : PE Y e (tIs i a b)) : PS Y (.Return (some e) pos) (tSu i a (.ret (.bool b))) := ps_wk (ps_ret h) fun D σ H ⟨e1, v, hv, q⟩ => ⟨e1, by
  have : v = .bl b := by simp only [vOf, Option.some.injEq] at hv; exact hv.symm
  rw [← this]; exact q⟩
end
theorem kit_own {K : PySem.W.Frag} {Ca Cy : Addr} {b : Bool} (hdct : PySem.W.hasDictIn K Cy = true) (ht : PySem.W.typeIn K (.ref Cy) = some (.type "type")) (h4 : PySem.W.subIn K (.ref Ca) (.ref Cy) = some b) (hs : PySem.W.subIn K (.ref Ca) (.ref Ca) = some true) : PySem.W.kitOne K (.ref Ca) (.ref Cy) = some b := by
  obtain ⟨cd, hc, _⟩ := PySem.W.any_some hdct
  unfold PySem.W.kitOne PySem.W.kitCls
  by_cases e : Ca = Cy
  · subst e
    rw [hs] at h4
    rw [if_pos (beq_self_eq_true _)]
    exact h4
  · rw [if_neg (fun z => e (Value.ref.inj (beq_iff_eq.mp z)))]
    have e2 : ((PySem.W.clsIn K Cy).isSome && PySem.W.typeIn K (.ref Cy) == some (.type "type")) = true := by rw [hc, ht] <;> rfl
    simp only [e2, if_true]
    exact h4
theorem kit_bi {K : PySem.W.Frag} {Ca : Addr} {T : String} {b : Bool} (hm : PySem.W.kitMeta T = true) (h : PySem.W.subIn K (.ref Ca) (.type T) = some b) : PySem.W.kitOne K (.ref Ca) (.type T) = some b := by
  unfold PySem.W.kitOne PySem.W.kitCls
  have ne : (Value.ref Ca == Value.type T) = false := beq_eq_false_iff_ne.mpr fun z => by cases z
  simp only [ne, Bool.false_eq_true, if_false, hm, if_true]
  exact h
/-- the context of a suite -/
def suC (X : Cx) (a : Addr) (oe : Obj) (pn : List (Addr × Obj)) : Cx := X.suite a ((a, oe) :: pn)
/-- the class x of the exceptions c, as a try asks it -/
def ExI (K : PySem.W.Frag) (mg : Str → Option Value) (cl : Ex → Value) (x : Str) (c : Ex) : Prop := ∃ Ca, cl c = .ref Ca ∧ mg x = some (.ref Ca) ∧ ExcC K Ca ∧ PySem.W.exmOne K (.ref Ca) (.ref Ca) = some true
def KitO (K : PySem.W.Frag) (mg : Str → Option Value) (cl : Ex → Value) (c : Ex) (y : Str) (b : Bool) : Prop := ∃ Ca Cy, cl c = .ref Ca ∧ mg y = some (.ref Cy) ∧ PySem.W.kitOne K (.ref Ca) (.ref Cy) = some b
def KitV (K : PySem.W.Frag) (cl : Ex → Value) (c : Ex) (T : String) (b : Bool) : Prop := ∃ Ca, cl c = .ref Ca ∧ PySem.W.kitOne K (.ref Ca) (.type T) = some b
section
variable {X : Cx} {cl : Ex → Value} {c : Ex} {a : Addr} {oe : Obj} {pn : List (Addr × Obj)} {n x y : Str} {i : Nat} {p p2 p3 pos : Pos} {b : Bool}
theorem x_isO (hI : ExI X.K X.mg cl x c) (hk : KitO X.K X.mg cl c y b) (hz : Zc (cl c) none oe) (hfd : ∃ vs, oe.data = .fields vs) (hN : X.N[i]? = some n) (hv : Vis X.env.scope n) (hg : Gl X "isinstance") (hm : X.mg "isinstance" = none) (hgy : Gl X y)
    (hd : (n == ("__debug__" : Str)) = false := by decide) (hcd : (n == ("__classdict__" : Str)) = false := by decide) (hdy : (y == ("__debug__" : Str)) = false := by decide) (he : starEach [.Name n p3, .Name y p2] (X.suite a ((a, oe) :: pn)).env = (false, eval (.Name n p3) (X.suite a ((a, oe) :: pn)).env) :: starEach [.Name y p2] (X.suite a ((a, oe) :: pn)).env := by rfl)
    (hpl : (backTo pos (starEach [.Name y p2] (X.suite a ((a, oe) :: pn)).env)).any (·.1) = false := by rfl) :
    PE (suC X a oe pn) (.Call (.Name "isinstance" p) [.Name n p3, .Name y p2] [] pos) (tIs i a b) := by
  obtain ⟨Ca, e1, e2, hC, _⟩ := hI
  obtain ⟨Cb, Cy, e3, e4, hk⟩ := hk
  rw [e1] at e3 hz
  cases e3
  exact x_isE hC hz hfd hN hv hg hm (pe_glob (X := X.suite a ((a, oe) :: pn)) (v := .ref Cy) hgy e4 rfl hdy) (fun u r => r) hk hd hcd he hpl
theorem x_isV (hI : ExI X.K X.mg cl x c) {T : String} (hk : KitV X.K cl c T b) (hz : Zc (cl c) none oe) (hfd : ∃ vs, oe.data = .fields vs) (hN : X.N[i]? = some n) (hv : Vis X.env.scope n) (hg : Gl X "isinstance") (hm : X.mg "isinstance" = none) {z : Str} (hgy : Gl X z) (hmy : X.mg z = none) (hby : bootBuiltins z = some (.type T))
    (hnz : z ≠ "__name__" := by decide) (hd : (n == ("__debug__" : Str)) = false := by decide) (hcd : (n == ("__classdict__" : Str)) = false := by decide) (hdy : (z == ("__debug__" : Str)) = false := by decide) (he : starEach [.Name n p3, .Name z p2] (X.suite a ((a, oe) :: pn)).env = (false, eval (.Name n p3) (X.suite a ((a, oe) :: pn)).env) :: starEach [.Name z p2] (X.suite a ((a, oe) :: pn)).env := by rfl)
    (hpl : (backTo pos (starEach [.Name z p2] (X.suite a ((a, oe) :: pn)).env)).any (·.1) = false := by rfl) :
    PE (suC X a oe pn) (.Call (.Name "isinstance" p) [.Name n p3, .Name z p2] [] pos) (tIs i a b) := by
  obtain ⟨Ca, e1, e2, hC, _⟩ := hI
  obtain ⟨Cb, e3, hk⟩ := hk
  rw [e1] at e3 hz
  cases e3
  exact x_isE hC hz hfd hN hv hg hm (pe_bltn (X := X.suite a ((a, oe) :: pn)) (v := .ty T) hgy hmy hby rfl hnz hdy) (fun u r => r) hk hd hcd he hpl
/-- one class is caught; what else the body may raise is not asked -/
def only (c0 : Ex) (r0 : Suf) : Ex → Option Suf := fun c => if c = c0 then some r0 else none
theorem s_tryI {C : Cst} {W : WX} {c0 : Ex} {r0 : Suf} {body suite : List Stmt} {b₀ : Stmt} {np pos' : Pos} {mb : SM} (i : Nat) (hK : X.K = C.K) (hI : ExI X.K X.mg C.cl x c0) (hg : Gl X x) (h0 : r0.yes = true) (hv0 : ∀ d, r0 = .ret d → (vOf d).isSome = true)
    (hs : X.stack = X.env :: X.outer) (hf : X.env.frame = some X.env.locals) (hN : X.N.Nodup) (hi : X.N[i]? = some n) (hln : X.env.kindOf n = some .local) (tk : Takes X W)
    (hb : ∀ (W' : WX) (pn : List (Addr × Obj)) (xe : Value → Shared → Prop), Takes (X.tr pn xe) W' → PassesOwn (model X.prog X.w) X.A X.env xe → PSs (X.tr pn xe) body (tS C W' mb))
    (hsu : ∀ (a : Addr) (oe : Obj) (pn : List (Addr × Obj)), Zc (C.cl c0) none oe → (∃ vs, oe.data = .fields vs) → PSs (suC X a oe pn) (b₀ :: suite) (tSu i a r0))
    (hdb : (x == ("__debug__" : Str)) = false := by decide) :
    PS X (.Try body [.ExceptHandler (some (.Name x np)) (some n) (b₀ :: suite) pos'] [] [] pos) (tS C W (sTry i (only c0 r0) mb)) := by
  obtain ⟨Ca, e1, e2, hC, e3⟩ := hI
  have inv : ∀ c r, only c0 r0 c = some r → c = c0 ∧ r = r0 := fun c r h => by
    unfold only at h
    by_cases e : c = c0
    · rw [if_pos e] at h; injection h with h; exact ⟨e, h.symm⟩
    · rw [if_neg e] at h; cases h
  refine s_try hs hf hN hi hln ⟨hg, hdb, .inl e2⟩ tk (fun c r h => ?_) (fun c d h => ?_) hb fun a oe c r pn h hr hz hfd => ?_
  · obtain ⟨rfl, rfl⟩ := inv c r h
    rw [e1, e3, h0]
  · obtain ⟨rfl, h2⟩ := inv c _ h
    exact hv0 d h2.symm
  · obtain ⟨rfl, rfl⟩ := inv c r h
    exact hsu a oe pn hz hfd
end
end Stm
set_option Elab.async false
set_option linter.all false
set_option maxRecDepth 100000
set_option maxHeartbeats 4000000
namespace Stm
open PySem PySem.Spec PyProof.Rows PySem.Calls L2
/-! ### rows = [list(row) for row in sheet]; rows[a][b] = d -/
def rowsOf : List PyData → Option (List (List PyData))
  | [] => some []
  | .tuple r :: rs => (rowsOf rs).map (r :: ·)
  | .list r :: rs => (rowsOf rs).map (r :: ·)
  | _ :: _ => none
def gridPut (g : List (List PyData)) (a b : Int) (d : PyData) : Option (List (List PyData)) :=
  match ixN g.length a with
  | some i => match g[i]? with
    | some r => match ixN r.length b with
      | some j => some (g.set i (r.set j d))
      | none => none
    | none => none
  | none => none
def okS {α : Type} (x : Res α) (f : α → SRes) : SRes := match x with
  | .ok a => f a
  | _ => .stuck
def sGrid (i j : Nat) (mi : Rho → Res (List PyData)) (m0 m1 md : EM) : SM := fun ρ => if ρ.all (fun s => !isOwn s) = true ∧ i < ρ.length ∧ j < ρ.length then okS (mi ρ) fun rs => if rs.length ≤ LIM then match rowsOf rs with
    | some g => okS (md (ρ.set i .un)) fun d => okS (m0 (ρ.set i .un)) fun a => okS (m1 (ρ.set i .un)) fun b => match a, b with
      | .int a, .int b => match gridPut g a b d with
        | some g2 => .nx (ρ.set i (.val (.list (g2.map .list))))
        | none => .stuck
      | _, _ => .stuck
    | none => .stuck
    else .stuck
  else .stuck
theorem rowsOf_len : ∀ {rs : List PyData} {g : List (List PyData)}, rowsOf rs = some g → g.length = rs.length
  | [], g, h => by cases h; rfl
  | .tuple r :: rs, g, h => by
    unfold rowsOf at h
    cases e : rowsOf rs with
    | none => rw [e] at h; cases h
    | some q => rw [e] at h; cases h; rw [List.length_cons, List.length_cons, rowsOf_len e]
  | .list r :: rs, g, h => by
    unfold rowsOf at h
    cases e : rowsOf rs with
    | none => rw [e] at h; cases h
    | some q => rw [e] at h; cases h; rw [List.length_cons, List.length_cons, rowsOf_len e]
  | .none :: _, _, h => by cases h
  | .bool _ :: _, _, h => by cases h
  | .int _ :: _, _, h => by cases h
  | .str _ :: _, _, h => by cases h
  | .dict _ :: _, _, h => by cases h
theorem rowsOf_get : ∀ {rs : List PyData} {g : List (List PyData)} {i : Nat} {d : PyData}, rowsOf rs = some g → rs[i]? = some d → ∃ r, g[i]? = some r ∧ (d = .tuple r ∨ d = .list r)
  | [], g, i, d, h, e => by simp at e
  | .tuple r :: rs, g, i, d, h, e => by
    unfold rowsOf at h
    cases e2 : rowsOf rs with
    | none => rw [e2] at h; cases h
    | some q =>
      rw [e2] at h; cases h
      cases i with
      | zero => simp at e; exact ⟨r, rfl, .inl e.symm⟩
      | succ i => simp at e; simpa using rowsOf_get e2 e
  | .list r :: rs, g, i, d, h, e => by
    unfold rowsOf at h
    cases e2 : rowsOf rs with
    | none => rw [e2] at h; cases h
    | some q =>
      rw [e2] at h; cases h
      cases i with
      | zero => simp at e; exact ⟨r, rfl, .inr e.symm⟩
      | succ i => simp at e; simpa using rowsOf_get e2 e
  | .none :: _, _, _, _, h, _ => by cases h
  | .bool _ :: _, _, _, _, h, _ => by cases h
  | .int _ :: _, _, _, _, h, _ => by cases h
  | .str _ :: _, _, _, _, h, _ => by cases h
  | .dict _ :: _, _, _, _, h, _ => by cases h
/-- lists at ps, of the def's own, with the rows g -/
def GridAt (K : PySem.W.Frag) (F H : Hp) : List Addr → List (List PyData) → Prop
  | [], [] => True
  | p :: ps, r :: g => (∃ vs, H p = some (.lst vs) ∧ DpAll K F vs r) ∧ GridAt K F H ps g
  | _, _ => False
theorem GridAt.mono {K : PySem.W.Frag} {F H F' H' : Hp} : ∀ {ps : List Addr} {g : List (List PyData)}, GridAt K F H ps g → Same F F' → (∀ p ∈ ps, H' p = H p) → GridAt K F' H' ps g
  | [], [], _, _, _ => trivial
  | [], _ :: _, h, _, _ => h.elim
  | _ :: _, [], h, _, _ => h.elim
  | p :: ps, r :: g, ⟨⟨vs, h1, h2⟩, h3⟩, f, e => ⟨⟨vs, by rw [e p List.mem_cons_self]; exact h1, dpsMono f _ _ h2⟩, GridAt.mono h3 f fun q hq => e q (List.mem_cons_of_mem _ hq)⟩
theorem GridAt.len {K : PySem.W.Frag} {F H : Hp} : ∀ {ps : List Addr} {g : List (List PyData)}, GridAt K F H ps g → ps.length = g.length
  | [], [], _ => rfl
  | [], _ :: _, h => h.elim
  | _ :: _, [], h => h.elim
  | p :: ps, r :: g, ⟨_, h3⟩ => by rw [List.length_cons, List.length_cons, GridAt.len h3]
theorem GridAt.snoc {K : PySem.W.Frag} {F H : Hp} {p : Addr} {r : List PyData} : ∀ {ps : List Addr} {g : List (List PyData)}, GridAt K F H ps g → (∃ vs, H p = some (.lst vs) ∧ DpAll K F vs r) → GridAt K F H (ps ++ [p]) (g ++ [r])
  | [], [], _, h => ⟨h, trivial⟩
  | [], _ :: _, h, _ => h.elim
  | _ :: _, [], h, _ => h.elim
  | q :: ps, s :: g, ⟨h1, h3⟩, h => ⟨h1, GridAt.snoc h3 h⟩
theorem GridAt.get {K : PySem.W.Frag} {F H : Hp} : ∀ {ps : List Addr} {g : List (List PyData)} {i : Nat} {r : List PyData}, GridAt K F H ps g → g[i]? = some r → ∃ p vs, ps[i]? = some p ∧ H p = some (.lst vs) ∧ DpAll K F vs r
  | [], [], i, r, _, e => by simp at e
  | [], _ :: _, _, _, h, _ => h.elim
  | _ :: _, [], _, _, h, _ => h.elim
  | p :: ps, s :: g, 0, r, ⟨⟨vs, h1, h2⟩, _⟩, e => by simp at e; subst e; exact ⟨p, vs, rfl, h1, h2⟩
  | p :: ps, s :: g, i + 1, r, ⟨_, h3⟩, e => by
    obtain ⟨q, vs, a, b, c⟩ := GridAt.get (i := i) h3 (by simpa using e)
    exact ⟨q, vs, by simpa using a, b, c⟩
theorem GridAt.put {K : PySem.W.Frag} {F H : Hp} {vs : List V} {r : List PyData} {p : Addr} (hd : DpAll K F vs r) : ∀ {ps : List Addr} {g : List (List PyData)} {i : Nat}, GridAt K F H ps g → ps.Nodup → ps[i]? = some p → GridAt K F (upd H p (.lst vs)) ps (g.set i r)
  | [], [], i, _, _, e => by simp at e
  | [], _ :: _, _, h, _, _ => h.elim
  | _ :: _, [], _, h, _, _ => h.elim
  | q :: ps, s :: g, 0, ⟨h1, h3⟩, nd, e => by
    simp at e; subst e
    exact ⟨⟨vs, upd_same, hd⟩, h3.mono (Same.refl _) fun b hb => upd_ne (fun z => (List.nodup_cons.mp nd).1 (z ▸ hb))⟩
  | q :: ps, s :: g, i + 1, ⟨⟨ws, h1, h2⟩, h3⟩, nd, e => by
    have e' : ps[i]? = some p := by simpa using e
    refine ⟨⟨ws, ?_, h2⟩, GridAt.put hd h3 (List.nodup_cons.mp nd).2 e'⟩
    have hne : q ≠ p := fun z => (List.nodup_cons.mp nd).1 (by rw [z]; exact List.mem_of_getElem? e')
    rw [upd_ne hne]; exact h1
theorem dpsSet {K : PySem.W.Frag} {H : Hp} {v : V} {d : PyData} (hd : Dp K H v d) : ∀ {ds : List PyData} {vs : List V} {i : Nat}, DpAll K H vs ds → DpAll K H (vs.set i v) (ds.set i d)
  | [], _, i, h => by cases h; simp; exact .nil
  | e :: ds, _, 0, h => by cases h with | cons h1 h2 => exact .cons hd h2
  | e :: ds, _, i + 1, h => by cases h with | cons h1 h2 => exact .cons h1 (dpsSet hd h2)
/-- the grid as data -/
theorem GridAt.dps {K : PySem.W.Frag} {F H : Hp} : ∀ {ps : List Addr} {g : List (List PyData)}, GridAt K F H ps g → (∀ p ∈ ps, F p = H p) → DpAll K F (ps.map V.ref) (g.map .list)
  | [], [], _, _ => .nil
  | [], _ :: _, h, _ => h.elim
  | _ :: _, [], h, _ => h.elim
  | p :: ps, r :: g, ⟨⟨vs, h1, h2⟩, h3⟩, e => .cons (.lst (.inl (.inl (by rw [e p List.mem_cons_self]; exact h1))) h2) (GridAt.dps h3 fun q hq => e q (List.mem_cons_of_mem _ hq))
theorem Ag.setU {C : Cst} {F H : Hp} {ρ : Rho} {σ : L2.St} (a : Ag C F ρ σ H) {i : Nat} {o : Option V} : Ag C F (ρ.set i .un) (σ.set i o) H where
  s0 := a.s0
  f0 := a.f0
  fh := a.fh
  nb := a.nb
  len := by rw [List.length_set, List.length_set]; exact a.len
  sl := fun j s e => by
    by_cases h : i = j
    · subst h
      have hl : i < ρ.length := by
        have := (List.getElem?_eq_some_iff.mp e).1
        rw [List.length_set] at this; exact this
      rw [List.getElem?_set_self hl] at e
      cases e
      exact ⟨o, by rw [List.getElem?_set_self (by rw [← a.len]; exact hl)], trivial⟩
    · rw [List.getElem?_set_ne h] at e
      obtain ⟨o', h1, h2⟩ := a.sl j s e
      exact ⟨o', by rw [List.getElem?_set_ne h]; exact h1, h2⟩
  sep := fun j k sj sk p hjk e1 e2 o1 o2 h1 h2 => by
    by_cases hj : i = j
    · subst hj
      have hl : i < ρ.length := by
        have := (List.getElem?_eq_some_iff.mp e1).1
        rw [List.length_set] at this; exact this
      rw [List.getElem?_set_self hl] at e1
      cases e1
      cases o1
    · by_cases hk : i = k
      · subst hk
        have hl : i < ρ.length := by
          have := (List.getElem?_eq_some_iff.mp e2).1
          rw [List.length_set] at this; exact this
        rw [List.getElem?_set_self hl] at e2
        cases e2
        cases o2
      · rw [List.getElem?_set_ne hj] at e1 h1
        rw [List.getElem?_set_ne hk] at e2 h2
        exact a.sep j k sj sk p hjk e1 e2 o1 o2 h1 h2
/-- list(row), a new list -/
def tL (K : PySem.W.Frag) (j : Nat) : TE := fun σ H Q => ∃ x ys, σ[j]? = some (some (.ref x)) ∧ (SqL K H x ys ∨ SqT K H x ys) ∧ ∀ q, H q = none → Q (.ref q) (upd H q (.lst ys))
theorem x_listN {Y : Cx} {j : Nat} {y : Str} {p p2 pos : Pos} (hg : Gl Y "list") (hm : Y.mg "list" = none) (hN : Y.N[j]? = some y) (hv : Vis Y.env.scope y) (hd : (y == ("__debug__" : Str)) = false := by decide) (hcd : (y == ("__classdict__" : Str)) = false := by decide)
    (he : starEach [.Name y p2] Y.env = (false, eval (.Name y p2) Y.env) :: starEach [] Y.env := by rfl) (hpl : (backTo pos (starEach ([] : List Expr) Y.env)).any (·.1) = false := by rfl) : PE Y (.Call (.Name "list" p) [.Name y p2] [] pos) (tL Y.K j) :=
  pe_wk (pe_callTy call_list_of hg hm (by decide +kernel) (pa_cons (pe_var hN hv hd hcd) pa_nil he) (by decide) (by decide) he hpl) fun σ H Q ⟨x, ys, e, hq, q⟩ => ⟨.ref x, e, x, ys, rfl, hq, q⟩
section
variable {X : Cx} {C : Cst} {W : WX} {i j : Nat} {mi : Rho → Res (List PyData)} {m0 m1 md : EM} {mr : SM}
theorem okS_inv {α : Type} {x : Res α} {f : α → SRes} {F : Hp} {D : Ends} (k : SK C W (okS x f) F D) : ∃ a, x = .ok a ∧ SK C W (f a) F D := by
  unfold okS at k
  cases x with
  | ok a => exact ⟨a, rfl, k⟩
  | exc c => exact k.elim
  | stuck => exact k.elim
theorem grid_read (hK : X.K = C.K) (hj : j ≠ i) (D : Ends) (σ : L2.St) (H : Hp) (h : tS C W (sSeq (sGrid i j mi m0 m1 md) mr) D σ H) :
    tSeq (tAsg (tLc (tIq C W mi) (gName j) tYes (tL X.K j) [j]) (gName i)) (tSeq (tAsg (tE C W md) (gSub (tOp (rIxL X.K) (tVar i) (tQ C W m0)) (tQ C W m1) rSetL)) (tS C W mr)) D σ H := by
  obtain ⟨ρ, F, ag, k⟩ := h
  unfold sSeq sGrid at k
  by_cases hc : ρ.all (fun s => !isOwn s) = true ∧ i < ρ.length ∧ j < ρ.length
  rotate_left
  · rw [if_neg hc] at k; exact k.elim
  rw [if_pos hc] at k
  obtain ⟨hno, hil, hjl⟩ := hc
  have k' : SK C W (okS (mi ρ) fun rs => if rs.length ≤ LIM then match rowsOf rs with
    | some g => okS (md (ρ.set i .un)) fun d => okS (m0 (ρ.set i .un)) fun a => okS (m1 (ρ.set i .un)) fun b => match a, b with
      | .int a, .int b => match gridPut g a b d with
        | some g2 => mr (ρ.set i (.val (.list (g2.map .list))))
        | none => .stuck
      | _, _ => .stuck
    | none => .stuck
    else .stuck) F D := by
    revert k
    unfold okS
    cases mi ρ with
    | exc c => exact id
    | stuck => exact id
    | ok rs =>
      simp only
      by_cases hl : rs.length ≤ LIM
      rotate_left
      · rw [if_neg hl, if_neg hl]; exact id
      rw [if_pos hl, if_pos hl]
      cases rowsOf rs with
      | none => exact id
      | some g =>
        simp only
        cases md (ρ.set i .un) with
        | exc c => exact id
        | stuck => exact id
        | ok d =>
          simp only
          cases m0 (ρ.set i .un) with
          | exc c => exact id
          | stuck => exact id
          | ok a =>
            simp only
            cases m1 (ρ.set i .un) with
            | exc c => exact id
            | stuck => exact id
            | ok b =>
              cases a <;> cases b <;> try exact id
              simp only
              cases gridPut g _ _ d with
              | none => exact id
              | some g2 => exact id
  obtain ⟨rs, hrs, k2⟩ := okS_inv k'
  by_cases hlim : rs.length ≤ LIM
  rotate_left
  · rw [if_neg hlim] at k2; exact k2.elim
  rw [if_pos hlim] at k2
  cases hg : rowsOf rs with
  | none => rw [hg] at k2; exact k2.elim
  | some g =>
  rw [hg] at k2
  obtain ⟨d, hd, k3⟩ := okS_inv k2
  obtain ⟨a, ha, k4⟩ := okS_inv k3
  obtain ⟨b, hb, k5⟩ := okS_inv k4
  obtain ⟨a, rfl⟩ : ∃ n, a = .int n := by
    cases a <;> first | exact ⟨_, rfl⟩ | exact k5.elim
  obtain ⟨b, rfl⟩ : ∃ n, b = .int n := by
    cases b <;> first | exact ⟨_, rfl⟩ | exact k5.elim
  simp only at k5
  cases hp : gridPut g a b d with
  | none => rw [hp] at k5; exact k5.elim
  | some g2 =>
  rw [hp] at k5
  have hlg := rowsOf_len hg
  have hsl : j < σ.length := by rw [← ag.len]; exact hjl
  refine ⟨ρ, F, ag, ?_⟩
  rw [hrs]
  intro J F1 H1 x1 wk D0 hD
  have ag1 := ag.ext x1
  have hF1D : F1 D0 = none := x1.fh.free hD
  refine ⟨fun n m H' => m = rs.length - n ∧ n ≤ rs.length ∧ ∃ F' ps, Xt F1 H1 F' H' ∧ H' D0 = some (.lst (ps.map V.ref)) ∧ F' D0 = none ∧ (∀ p ∈ ps, F' p = none ∧ H1 p = none) ∧ ps.Nodup ∧ D0 ∉ ps ∧ GridAt C.K F' H' ps (g.take n),
    ⟨_, rfl, Nat.zero_le _, F1, [], Xt.grow x1.fh hD, upd_same, hF1D, (fun p hp => nomatch hp), List.nodup_nil, (fun hp => nomatch hp), by rw [List.take_zero]; trivial⟩, ?_⟩
  rintro n m H' ⟨rfl, hn, F', ps, y, eD, nD, hps, nd, nin, gr⟩
  by_cases hlt : n < rs.length
  · refine .inr ⟨wk.go n H' y.h hlt, fun H2 => n + 1 ≤ rs.length ∧ ∃ F' ps, Xt F1 H1 F' H2 ∧ H2 D0 = some (.lst (ps.map V.ref)) ∧ F' D0 = none ∧ (∀ p ∈ ps, F' p = none ∧ H1 p = none) ∧ ps.Nodup ∧ D0 ∉ ps ∧ GridAt C.K F' H2 ps (g.take (n + 1)), fun H2 q => ⟨_, by omega, rfl, q⟩, fun x H2 hy => ?_⟩
    have ed : rs[n]? = some rs[n] := List.getElem?_eq_getElem hlt
    obtain ⟨F2, x2, d2⟩ := wk.yld n H' x H2 _ y.h ed hy F' y.f y.fh
    obtain ⟨r, er, hr⟩ := rowsOf_get hg ed
    have hx : ∃ q vs, x = .ref q ∧ (SqL X.K H2 q vs ∨ SqT X.K H2 q vs) ∧ DpAll C.K F2 vs r := by
      rcases hr with hr | hr
      · rw [hr] at d2
        obtain ⟨q, vs, e1, e2, e3⟩ := Bq.tup (.inl d2) x2.fh
        exact ⟨q, vs, e1, .inr (hK ▸ e2), e3⟩
      · rw [hr] at d2
        obtain ⟨q, vs, e1, e2, e3⟩ := Bq.list (.inl d2) x2.fh
        exact ⟨q, vs, e1, .inl (hK ▸ e2), e3⟩
    obtain ⟨q, vs, rfl, hsq, hvs⟩ := hx
    refine ⟨wipe_set (List.mem_singleton.mpr rfl) |>.trans wipe_wipe, ?_⟩
    unfold tYes
    simp only [if_true]
    refine ⟨q, vs, ?_, hsq, fun l hl => ?_⟩
    · rw [List.getElem?_set_self (by rw [wipe_length]; exact hsl)]
    · have eD2 : H2 D0 = some (.lst (ps.map V.ref)) := x2.h _ _ eD
      have nD2 : F2 D0 = none := x2.n D0 (by rw [eD]; exact fun z => nomatch z) nD
      have nps : ∀ p ∈ ps, H' p ≠ none ∧ H2 p = H' p := fun p hp => by
        obtain ⟨i0, hi0⟩ := List.mem_iff_getElem?.mp hp
        have hl0 : i0 < (g.take n).length := by rw [← gr.len]; exact (List.getElem?_eq_some_iff.mp hi0).1
        obtain ⟨p', ws, e1, e2, _⟩ := gr.get (List.getElem?_eq_getElem hl0)
        rw [hi0] at e1
        cases e1
        exact ⟨(by rw [e2]; exact (fun z => nomatch z)), (by rw [e2]; exact x2.h _ _ e2)⟩
      have lD : l ≠ D0 := fun z => by rw [z, eD2] at hl; cases hl
      have lps : l ∉ ps := fun hp => (nps l hp).1 (by rw [← (nps l hp).2]; exact hl)
      have fl : F2 l = none := x2.fh.free hl
      have h1l : H1 l = none := (y.h.trans x2.h).free hl
      have hlen : (ps.map V.ref).length < sizeLine := by
        have := gr.len
        rw [List.length_take] at this
        rw [List.length_map]
        exact Nat.lt_of_le_of_lt (show ps.length ≤ n by omega) (Nat.lt_of_lt_of_le hlt (lim_le hlim))
      refine ⟨ps.map V.ref, by rw [upd_ne (Ne.symm lD)]; exact eD2, hlen, hlt, F2, ps ++ [l], ⟨y.f.trans x2.f, fun c o e => ?_, fun c h1 h2 => x2.n c (fun z => h1 (y.h.free z)) (y.n c h1 h2), fun c o e => ?_⟩, ?_, nD2, fun p hp => ?_, ?_, ?_, ?_⟩
      · have c1 : c ≠ D0 := fun z => by rw [z, hD] at e; cases e
        have c2 : c ≠ l := fun z => by rw [z, h1l] at e; cases e
        rw [upd_ne c1, upd_ne c2]; exact x2.h _ _ (y.h _ _ e)
      · have c1 : c ≠ D0 := fun z => by rw [z, nD2] at e; cases e
        have c2 : c ≠ l := fun z => by rw [z, fl] at e; cases e
        rw [upd_ne c1, upd_ne c2]; exact x2.fh _ _ e
      · rw [upd_same, List.map_append]; rfl
      · rcases List.mem_append.mp hp with hp | hp
        · exact ⟨x2.n p (nps p hp).1 (hps p hp).1, (hps p hp).2⟩
        · rw [List.mem_singleton.mp hp]; exact ⟨fl, h1l⟩
      · exact List.nodup_append.mpr ⟨nd, by simp, fun a ha c hc e => lps (by rw [List.mem_singleton.mp hc] at e; exact e ▸ ha)⟩
      · intro hp
        rcases List.mem_append.mp hp with hp | hp
        · exact nin hp
        · exact lD (List.mem_singleton.mp hp).symm
      · have et : g.take (n + 1) = g.take n ++ [r] := by
          rw [List.take_add_one, er]; rfl
        rw [et]
        refine (gr.mono x2.f fun p hp => ?_).snoc ⟨vs, ?_, hvs⟩
        · have c1 : p ≠ D0 := fun z => nin (z ▸ hp)
          have c2 : p ≠ l := fun z => lps (z ▸ hp)
          rw [upd_ne c1, upd_ne c2]; exact (nps p hp).2
        · rw [upd_ne lD, upd_same]
  · have e : n = rs.length := by omega
    subst e
    refine .inl ⟨wk.stop _ H' y.h (Nat.le_refl _), ?_⟩
    rw [← hlg, List.take_length] at gr
    -- the second statement
    have ag2 : Ag C F' (ρ.set i .un) (σ.set i (some (.ref D0))) H' := (ag1.ext y).setU
    show tAsg (tE C W md) _ _ (σ.set i (some (.ref D0))) H'
    refine ⟨ρ.set i .un, F', ag2, ?_⟩
    rw [hd]
    intro v F3 H3 x3 dv
    show tOp _ _ _ (σ.set i (some (.ref D0))) H3 _
    have hil2 : i < σ.length := by rw [← ag.len]; exact hil
    refine ⟨.ref D0, by rw [List.getElem?_set_self hil2], ρ.set i .un, F3, ag2.ext x3, ?_⟩
    rw [ha]
    intro va F4 H4 x4 dva
    have x34 := x3.trans x4
    have eD4 : H4 D0 = some (.lst (ps.map V.ref)) := x34.h _ _ eD
    unfold gridPut at hp
    cases hi1 : ixN g.length a with
    | none => rw [hi1] at hp; cases hp
    | some i1 =>
    simp only [hi1] at hp
    cases hr1 : g[i1]? with
    | none => rw [hr1] at hp; cases hp
    | some r =>
    simp only [hr1] at hp
    cases hj1 : ixN r.length b with
    | none => rw [hj1] at hp; cases hp
    | some j1 =>
    simp only [hj1] at hp
    injection hp with hp
    obtain ⟨p1, vs, ep1, eh1, dvs⟩ := gr.get hr1
    have hlp : (ps.map V.ref).length = g.length := by rw [List.length_map, gr.len]
    refine ⟨D0, ps.map V.ref, a, .ref p1, rfl, dva.int, .inl (.inl eD4), ?_, ρ.set i .un, F4, (ag2.ext x34), ?_⟩
    · unfold atI
      rw [hlp, hi1]
      show (ps.map V.ref)[i1]? = _
      rw [List.getElem?_map, ep1]; rfl
    rw [hb]
    intro vb F5 H5 x5 dvb
    have x35 := x34.trans x5
    have y5 := y.trans x35
    have eh5 : H5 p1 = some (.lst vs) := x35.h _ _ eh1
    have dv5 : Dp C.K F5 v d := dpMono (x4.trans x5).f _ _ dv
    have dvs5 : DpAll C.K F5 vs r := dpsMono x35.f _ _ dvs
    have hvl : vs.length = r.length := dpsLen dvs
    refine ⟨p1, vs, b, j1, rfl, dvb.int, eh5, by rw [hvl]; exact hj1, ?_⟩
    have hp1 : p1 ∈ ps := List.mem_of_getElem? ep1
    have nb5 : ∀ q ∈ ps, H5 q = H' q ∧ F5 q = none := fun q hq => by
      obtain ⟨i0, hi0⟩ := List.mem_iff_getElem?.mp hq
      have hl0 : i0 < g.length := by rw [← gr.len]; exact (List.getElem?_eq_some_iff.mp hi0).1
      obtain ⟨p', ws, e1, e2, _⟩ := gr.get (List.getElem?_eq_getElem hl0)
      rw [hi0] at e1
      cases e1
      exact ⟨by rw [e2]; exact x35.h _ _ e2, x35.n q (by rw [e2]; exact fun z => nomatch z) (hps q hq).1⟩
    have nD5 : F5 D0 = none := x35.n D0 (by rw [eD]; exact fun z => nomatch z) nD
    have eD5 : H5 D0 = some (.lst (ps.map V.ref)) := x35.h _ _ eD
    have gr5 : GridAt C.K F5 H5 ps g := gr.mono x35.f fun q hq => (nb5 q hq).1
    have gr6 : GridAt C.K F5 (upd H5 p1 (.lst (vs.set j1 v))) ps (g.set i1 (r.set j1 d)) := gr5.put (dpsSet dv5 dvs5) nd ep1
    rw [hp] at gr6
    have hp1D : D0 ≠ p1 := fun z => nin (z ▸ hp1)
    -- what was the def's own is given up
    let F6 : Hp := fun c => if c = D0 ∨ c ∈ ps then upd H5 p1 (.lst (vs.set j1 v)) c else F5 c
    have s56 : Same F5 F6 := fun c o e => by
      have hc : ¬(c = D0 ∨ c ∈ ps) := fun z => by
        rcases z with z | z
        · rw [z, nD5] at e; cases e
        · rw [(nb5 c z).2] at e; cases e
      show (if c = D0 ∨ c ∈ ps then _ else _) = _
      rw [if_neg hc]; exact e
    have h6 : Same F6 (upd H5 p1 (.lst (vs.set j1 v))) := fun c o e => by
      have e' : (if c = D0 ∨ c ∈ ps then upd H5 p1 (.lst (vs.set j1 v)) c else F5 c) = some o := e
      by_cases hc : c = D0 ∨ c ∈ ps
      · rw [if_pos hc] at e'; exact e'
      · rw [if_neg hc] at e'
        rw [upd_ne (fun z => hc (.inr (by rw [z]; exact hp1)))]
        exact x5.fh _ _ e'
    have new : ∀ c, (c = D0 ∨ c ∈ ps) → C.H0 c = none := fun c hc => by
      have h1 : H1 c = none := by
        rcases hc with z | z
        · rw [z]; exact hD
        · exact (hps c z).2
      exact ag1.s0.free h1
    have gr7 : GridAt C.K F6 (upd H5 p1 (.lst (vs.set j1 v))) ps g2 := gr6.mono s56 fun _ _ => rfl
    have f6p : ∀ q ∈ ps, F6 q = upd H5 p1 (.lst (vs.set j1 v)) q := fun q hq => by
      show (if q = D0 ∨ q ∈ ps then _ else _) = _
      rw [if_pos (.inr hq)]
    have f6D : F6 D0 = some (.lst (ps.map V.ref)) := by
      show (if D0 = D0 ∨ D0 ∈ ps then _ else _) = _
      rw [if_pos (.inl rfl), upd_ne hp1D]; exact eD5
    have ag5 := ag2.ext x35
    refine ⟨ρ.set i (.val (.list (g2.map .list))), F6, ?_, SK.mono k5 ((x1.f.trans y5.f).trans s56)⟩
    have hown : ∀ (jj : Nat) (s : Sl), ρ[jj]? = some s → isOwn s = false := fun jj s e => by
      have := List.all_eq_true.mp hno s (List.mem_of_getElem? e)
      simpa using this
    have hset : ∀ (jj : Nat) (s : Sl), (ρ.set i (.val (.list (g2.map .list))))[jj]? = some s → isOwn s = false := fun jj s e => by
      by_cases hji : i = jj
      · subst hji
        rw [List.getElem?_set_self hil] at e; cases e; rfl
      · rw [List.getElem?_set_ne hji] at e; exact hown jj s e
    exact {
      s0 := fun c o e => by
        have hc : c ≠ p1 := fun z => by rw [z, new p1 (.inr hp1)] at e; cases e
        rw [upd_ne hc]; exact ag5.s0 _ _ e
      f0 := ag5.f0.trans s56
      fh := h6
      nb := fun c h1 h2 => by
        have hc : ¬(c = D0 ∨ c ∈ ps) := fun z => h1 (new c z)
        show (if c = D0 ∨ c ∈ ps then _ else _) = _
        rw [if_neg hc]; exact ag5.nb c h1 h2
      len := by rw [List.length_set, List.length_set]; exact ag.len
      sl := fun jj s e => by
        by_cases hji : i = jj
        · subst hji
          rw [List.getElem?_set_self hil] at e
          cases e
          exact ⟨some (.ref D0), by rw [List.getElem?_set_self hil2], .ref D0, rfl, .lst (.inl (.inl f6D)) (GridAt.dps gr7 f6p)⟩
        · rw [List.getElem?_set_ne hji] at e
          obtain ⟨o, e1, e2⟩ := ag5.sl jj s (by rw [List.getElem?_set_ne hji]; exact e)
          refine ⟨o, e1, ?_⟩
          have hw := hown jj s e
          cases s with
          | un => trivial
          | val dd =>
            obtain ⟨v', e3, e4⟩ := e2
            exact ⟨v', e3, dpMono s56 _ _ e4⟩
          | own _ => cases hw
          | dI _ => cases hw
          | dT _ => cases hw
      sep := fun jj kk sj sk p hjk e1 e2 o1 o2 _ _ => by rw [hset jj sj e1] at o1; cases o1 }
theorem s_grid {py spos p3 p4 p5 spos2 pos : Pos} {tg iter value i0 i1 : Expr} {scope : Scope} {y z : Str} {q1 q2 q3 : Pos} {rest : List Stmt} (hK : X.K = C.K) (hc : X.calm = true) (hN : X.N.Nodup) (hy : X.N[i]? = some y) (hyl : X.env.scope.names.lookup y = some .local) (hz : X.N[j]? = some z)
    (hsw : swapsWith (.ListComp (.Call (.Name "list" q1) [.Name z q2] [] q3) [⟨tg, iter, [], 0⟩] scope pos) (some (.Name y py)) spos.line X.env = pure true) (hi : PI X tg iter (tIq C W mi)) (ok : BlkOk X.N X.env.scope scope [(z, j)]) (hj : j ≠ i)
    (hg : ∀ (s : Shared) (H : Hp) (D : Addr) (cl : List (Str × Addr)) (fp : List Addr), PG (X.blk s H scope (compEnvC scope cl D X.env) fp) tg (gName j))
    (he : ∀ (s : Shared) (H : Hp) (D : Addr) (cl : List (Str × Addr)) (fp : List Addr), PE (X.blk s H scope (compEnvC scope cl D X.env) fp) (.Call (.Name "list" q1) [.Name z q2] [] q3) (tL X.K j))
    (hv : PE X value (tE C W md)) (h0 : PE X i0 (tQ C W m0)) (h1 : PE X i1 (tQ C W m1)) (hr : PSs X rest (tS C W mr)) (hvis : Vis X.env.scope y) (hpx : PlainIx i0 := by exact fun _ _ => rfl)
    (hd : (y == ("__debug__" : Str)) = false := by decide) (hcd : (y == ("__classdict__" : Str)) = false := by decide) (hs : ∀ x, foldedSetIterable iter X.env x = pure x := by intro _; rfl)
    (hpg : ∀ v, assign (.Subscript (.Subscript (.Name y p3) i0 p4) i1 p5) X.env v = (do
      let ov ← holding [v] (eval (.Subscript (.Name y p3) i0 p4) X.env)
      let iv ← holding [v, ov] (eval i1 X.env)
      standAt p5
      holding [v, ov, iv] (setItem ov iv v)
      release [v, ov, iv] []) := by intro _; rfl)
    (hs2 : swapsWithSole [.Subscript (.Subscript (.Name y p3) i0 p4) i1 p5] value spos2.line X.env = pure false := by rfl) (hw2 : swappedStores [.Subscript (.Subscript (.Name y p3) i0 p4) i1 p5] value X.env = pure none := by rfl)
    (ha2 : (assignEach [.Subscript (.Subscript (.Name y p3) i0 p4) i1 p5] X.env).map (·.2) = [assign (.Subscript (.Subscript (.Name y p3) i0 p4) i1 p5) X.env] := by rfl) :
    PSs X (.Assign [.Name y py] (.ListComp (.Call (.Name "list" q1) [.Name z q2] [] q3) [⟨tg, iter, [], 0⟩] scope pos) spos :: .Assign [.Subscript (.Subscript (.Name y p3) i0 p4) i1 p5] value spos2 :: rest) (tS C W (sSeq (sGrid i j mi m0 m1 md) mr)) :=
  pss_wk (pss_cons (ps_setLc hc hN hy hyl hsw hi ok hg (fun _ _ _ _ _ => pts_nil) he hs) (pss_cons (ps_asg hv (pg_sub (pe_ix ix_list (pe_var hy hvis hd hcd) h0 hpx) h1 set_list hpg) hs2 hw2 ha2) hr)) fun D σ H h => grid_read hK hj D σ H h
end
end Stm
set_option Elab.async false
set_option linter.all false
set_option maxRecDepth 100000
set_option maxHeartbeats 4000000
namespace Stm
open PySem PySem.Spec PyProof.Rows PySem.Calls L2
/-! ### y = [.. for x in d if ..], d an int dict of the def's own -/
def isDT : Sl → Bool
  | .dT _ => true
  | _ => false
def sSetLcK (i b : Nat) (vs : List Nat) (t : TgM) (mt : TM) (me : EM) : SM := fun ρ => match ρ[b]? with
  | some (.dI ks) => if ρ.all (fun s => !isDT s) = true ∧ i ≠ b then okS (mLc vs (fun _ => .ok (ks.map .int)) t mt me (ρ.set b .un)) fun r => .nx (ρ.set i (.val r)) else .stuck
  | _ => .stuck
section
variable {X : Cx} {C : Cst} {W : WX} {i b : Nat}
theorem wk_keys {F G : Hp} {d : Addr} {o : Obj} {ks : List Int} (h : G d = some (.frz o (.dK (dIV ks)))) : Wk C (Itk d o (dIV ks)) (ks.map .int) F G :=
  ⟨fun n H e hn => ⟨e _ _ h, by unfold dIV; rw [List.length_map]; rw [List.length_map] at hn; exact hn⟩, fun n H e hn => ⟨e _ _ h, by unfold dIV; rw [List.length_map]; rw [List.length_map] at hn; exact hn⟩, fun n H x H' dd e hd ⟨e1, k, v, e2, e3⟩ F1 f1 f2 => by
    subst e1 e3
    unfold dIV at e2
    rw [List.getElem?_map] at e2 hd
    cases hk : ks[n]? with
    | none => rw [hk] at hd; cases hd
    | some z =>
      rw [hk] at e2 hd
      cases e2; cases hd
      exact ⟨F1, Xt.refl f2, .int _⟩⟩
theorem keys_read {g : TG} {t : TgM} {mt : TM} {me : EM} {vs : List Nat} (tok : TgOk C vs g t) (D : Ends) (σ : L2.St) (H : Hp) (h : tS C W (sSetLcK i b vs t mt me) D σ H) : tLock (tAsg (tLc (iKeys (tVar b)) g (tT C W0 mt) (tE C W0 me) vs) (gName i)) D σ H := by
  obtain ⟨ρ, F, ag, k⟩ := h
  unfold sSetLcK at k
  cases hb : ρ[b]? with
  | none => rw [hb] at k; exact k.elim
  | some s =>
  rw [hb] at k
  cases s with
  | un => exact k.elim
  | val _ => exact k.elim
  | own _ => exact k.elim
  | dT _ => exact k.elim
  | dI ks =>
  simp only at k
  by_cases hc : ρ.all (fun s => !isDT s) = true ∧ i ≠ b
  rotate_left
  · rw [if_neg hc] at k; exact k.elim
  rw [if_pos hc] at k
  obtain ⟨hdt, hib⟩ := hc
  obtain ⟨r, hr, k⟩ := okS_inv k
  obtain ⟨o0, e1, d, e2, hd, fd, h0⟩ := ag.sl b _ hb
  subst e2
  refine ⟨d, .dK (dIV ks), hd, trivial, fun od => ?_⟩
  have agL : Ag C F (ρ.set b .un) σ (upd H d (.frz od (.dK (dIV ks)))) := {
    s0 := fun c o e => by
      have hc : c ≠ d := fun z => by rw [z, h0] at e; cases e
      rw [upd_ne hc]; exact ag.s0 _ _ e
    f0 := ag.f0
    fh := fun c o e => by
      have hc : c ≠ d := fun z => by rw [z, fd] at e; cases e
      rw [upd_ne hc]; exact ag.fh _ _ e
    nb := ag.nb
    len := by rw [List.length_set]; exact ag.len
    sl := fun j s e => by
      by_cases hj : b = j
      · subst hj
        have hl : b < ρ.length := (List.getElem?_eq_some_iff.mp hb).1
        rw [List.getElem?_set_self hl] at e; cases e
        exact ⟨_, e1, trivial⟩
      · rw [List.getElem?_set_ne hj] at e
        obtain ⟨o, q1, q2⟩ := ag.sl j s e
        refine ⟨o, q1, ?_⟩
        cases s with
        | un => trivial
        | val dd => exact q2
        | own ds =>
          obtain ⟨p, vs', z1, z2, z3, z4, z5⟩ := q2
          have hp : p ≠ d := fun z => ag.sep j b _ _ d (Ne.symm hj) e hb rfl rfl (by rw [q1, z1, z]) e1
          exact ⟨p, vs', z1, by rw [upd_ne hp]; exact z2, z3, z4, z5⟩
        | dI ks' =>
          obtain ⟨p, z1, z2, z3, z4⟩ := q2
          have hp : p ≠ d := fun z => ag.sep j b _ _ d (Ne.symm hj) e hb rfl rfl (by rw [q1, z1, z]) e1
          exact ⟨p, z1, by rw [upd_ne hp]; exact z2, z3, z4⟩
        | dT ks' =>
          have := List.all_eq_true.mp hdt _ (List.mem_of_getElem? e)
          simp [isDT] at this
    sep := fun j k' sj sk p hjk q1 q2 o1 o2 s1 s2 => by
      by_cases hj : b = j
      · subst hj
        have hl : b < ρ.length := (List.getElem?_eq_some_iff.mp hb).1
        rw [List.getElem?_set_self hl] at q1; cases q1; cases o1
      · by_cases hk : b = k'
        · subst hk
          have hl : b < ρ.length := (List.getElem?_eq_some_iff.mp hb).1
          rw [List.getElem?_set_self hl] at q2; cases q2; cases o2
        · rw [List.getElem?_set_ne hj] at q1
          rw [List.getElem?_set_ne hk] at q2
          exact ag.sep j k' sj sk p hjk q1 q2 o1 o2 s1 s2 }
  have hrd := lc_read (W := W) (mi := fun _ => .ok (ks.map .int)) (mt := mt) (me := me) tok σ (upd H d (.frz od (.dK (dIV ks))))
    (fun x H1 => H1 d = some (.frz od (.dK (dIV ks))) ∧ D.nx (σ.set i (some x)) (upd H1 d (.dK (dIV ks)))) ⟨ρ.set b .un, F, agL, by
      rw [hr]
      intro v F' H' x dv
      refine ⟨x.h _ _ upd_same, k _ F' _ x.f ?_⟩
      have a2 := agL.ext x
      have fd' : F' d = none := x.n d (by rw [upd_same]; exact (fun z => nomatch z)) fd
      have hl : b < ρ.length := (List.getElem?_eq_some_iff.mp hb).1
      have hown : ∀ (j : Nat) (s : Sl), (ρ.set i (.val r))[j]? = some s → isOwn s = true → i ≠ j ∧ ρ[j]? = some s := fun j s e o => by
        by_cases hj : i = j
        · subst hj
          have hli : i < ρ.length := by
            have := (List.getElem?_eq_some_iff.mp e).1
            rwa [List.length_set] at this
          rw [List.getElem?_set_self hli] at e; cases e; cases o
        · rw [List.getElem?_set_ne hj] at e; exact ⟨hj, e⟩
      exact {
        s0 := fun c o e => by
          have hc : c ≠ d := fun z => by rw [z, h0] at e; cases e
          rw [upd_ne hc]; exact a2.s0 _ _ e
        f0 := a2.f0
        fh := fun c o e => by
          have hc : c ≠ d := fun z => by rw [z, fd'] at e; cases e
          rw [upd_ne hc]; exact a2.fh _ _ e
        nb := a2.nb
        len := by rw [List.length_set, List.length_set]; exact ag.len
        sl := fun j s e => by
          by_cases hj : i = j
          · subst hj
            have hli : i < ρ.length := by
              have := (List.getElem?_eq_some_iff.mp e).1
              rwa [List.length_set] at this
            rw [List.getElem?_set_self hli] at e; cases e
            exact ⟨some v, by rw [List.getElem?_set_self (by rw [← ag.len]; exact hli)], v, rfl, dv⟩
          · rw [List.getElem?_set_ne hj] at e
            rw [List.getElem?_set_ne hj]
            by_cases hjb : b = j
            · subst hjb
              rw [hb] at e; cases e
              exact ⟨_, e1, d, rfl, upd_same, fd', h0⟩
            · obtain ⟨o, q1, q2⟩ := a2.sl j s (by rw [List.getElem?_set_ne hjb]; exact e)
              refine ⟨o, q1, ?_⟩
              cases s with
              | un => trivial
              | val dd => exact q2
              | own ds =>
                obtain ⟨p, vs', z1, z2, z3, z4, z5⟩ := q2
                have hp : p ≠ d := fun z => ag.sep j b _ _ d (Ne.symm hjb) e hb rfl rfl (by rw [q1, z1, z]) e1
                exact ⟨p, vs', z1, by rw [upd_ne hp]; exact z2, z3, z4, z5⟩
              | dI ks' =>
                obtain ⟨p, z1, z2, z3, z4⟩ := q2
                have hp : p ≠ d := fun z => ag.sep j b _ _ d (Ne.symm hjb) e hb rfl rfl (by rw [q1, z1, z]) e1
                exact ⟨p, z1, by rw [upd_ne hp]; exact z2, z3, z4⟩
              | dT ks' =>
                have := List.all_eq_true.mp hdt _ (List.mem_of_getElem? e)
                simp [isDT] at this
        sep := fun j k' sj sk p hjk q1 q2 o1 o2 s1 s2 => by
          obtain ⟨j1, j2⟩ := hown j sj q1 o1
          obtain ⟨k1, k2⟩ := hown k' sk q2 o2
          rw [List.getElem?_set_ne j1] at s1
          rw [List.getElem?_set_ne k1] at s2
          exact ag.sep j k' sj sk p hjk j2 k2 o1 o2 s1 s2 }⟩
  obtain ⟨ρ', F', ag', q⟩ := hrd
  refine ⟨.ref d, e1, d, od, rfl, .inl ⟨dIV ks, upd_same, ?_⟩⟩
  exact q (Itk d od (dIV ks)) F' _ (Xt.refl ag'.fh) (wk_keys upd_same)
theorem s_setLcK {py spos p pos : Pos} {elt tg : Expr} {ifs : List Expr} {scope : Scope} {own : List (Str × Nat)} {g : TG} {t : TgM} {mt : TM} {me : EM} {y nb : Str} (hc : X.calm = true) (hN : X.N.Nodup) (hy : X.N[i]? = some y) (hyl : X.env.scope.names.lookup y = some .local)
    (hsw : swapsWith (.ListComp elt [⟨tg, .Name nb p, ifs, 0⟩] scope pos) (some (.Name y py)) spos.line X.env = pure true) (hb : X.N[b]? = some nb) (hvis : Vis X.env.scope nb) (ok : BlkOk X.N X.env.scope scope own) (tok : TgOk C (own.map (·.2)) g t)
    (hg : ∀ (s : Shared) (H : Hp) (D : Addr) (cl : List (Str × Addr)) (fp : List Addr), PG (X.blk s H scope (compEnvC scope cl D X.env) fp) tg g) (ht : ∀ (s : Shared) (H : Hp) (D : Addr) (cl : List (Str × Addr)) (fp : List Addr), PTs (X.blk s H scope (compEnvC scope cl D X.env) fp) ifs (tT C W0 mt))
    (he : ∀ (s : Shared) (H : Hp) (D : Addr) (cl : List (Str × Addr)) (fp : List Addr), PE (X.blk s H scope (compEnvC scope cl D X.env) fp) elt (tE C W0 me)) (hd : (nb == ("__debug__" : Str)) = false := by decide) (hcd : (nb == ("__classdict__" : Str)) = false := by decide) (hs : ∀ x, foldedSetIterable (.Name nb p) X.env x = pure x := by intro _; rfl) :
    PS X (.Assign [.Name y py] (.ListComp elt [⟨tg, .Name nb p, ifs, 0⟩] scope pos) spos) (tS C W (sSetLcK i b (own.map (·.2)) t mt me)) :=
  ps_wk (ps_lock (ps_setLc hc hN hy hyl hsw (pi_keys (pe_var hb hvis hd hcd)) ok hg ht he hs)) (keys_read tok)
end
end Stm
set_option Elab.async false
set_option linter.all false
set_option maxRecDepth 100000
set_option maxHeartbeats 4000000
namespace Stm
open PySem PySem.Spec PyProof.Rows PySem.Calls L2
/-! ### dicts with tuples for keys: {k: True}, k in d, k not in d, len(d) -/
def tNew1 (P : Program) (w : World) (K : PySem.W.Frag) (tk : TE) : TE := fun σ H Q => ∀ p, H p = none → (p == sysModules) = false → tk σ (upd H p (dtO P w p [])) fun x H2 => H2 p = some (dtO P w p []) ∧ ∃ (k : NestedKey) (b : Addr), [(x, V.bl true)] = [(V.ref b, V.bl true)] ∧ Dp K H2 (.ref b) k.data ∧ k.depth ≤ 8 ∧ (∀ z, k ≠ .text z) ∧ Q (.ref p) (upd H2 p (dtO P w p [(k, b)]))
theorem pe_new1 {X : Cx} {e : Expr} {tk : TE} {k2 : Nat} {pos2 pos : Pos} (hu : X.A.units + 80 < cLine) (h : PE X e tk) : PE X (.Dict [some e] [.Constant (.bool true) k2 pos2] pos) (tNew1 X.prog X.w X.K tk) := by
  refine ⟨fun pins s σ H Q I q => ?_⟩
  have hn : H s.heap.objs.size = none := I.hok.fresh (Nat.le_refl _)
  have hm : (s.heap.push { cls := .type "dict", data := .dict #[] }).DictOfH (nestedKind X.prog X.w) s.heap.objs.size [] := Heap.DictOfH.new _
  obtain ⟨o0, es0, ep0, ho0, hx0, hd0, he0, _, _⟩ := hm
  have hsm : (s.heap.objs.size == sysModules) = false := (dk_empty (P := X.prog) (w := X.w) (H := H) s.heap I.big).2.1
  have I1 := I.laid (a := s.heap.objs.size) (o := dtO X.prog X.w s.heap.objs.size []) (h' := s.heap.push { cls := .type "dict", data := .dict #[] }) (t' := s.toks) (fun _ _ q => Heap.get?_push_of_some _ q) (Nat.le_refl _)
    ⟨⟨o0, es0, ep0, ho0, hx0, hd0, he0⟩, ⟨o0, ho0⟩, fun h1 h2 ⟨o1, es1, ep1, g1, g2, g3, g4⟩ st => ⟨o1, es1, ep1, st _ g1, g2, g3, g4⟩⟩
  refine wpAny_Dict_any rfl rfl (by simp) (show 1 ≤ 15 by decide) (thn ((pps_cons h (pe_bl (b := true)) pps_nil).run pins _ σ _ (fun ps H2 => H2 s.heap.objs.size = some (dtO X.prog X.w s.heap.objs.size []) ∧ ∃ (k : NestedKey) (b : Addr), ps = [(V.ref b, V.bl true)] ∧ Dp X.K H2 (.ref b) k.data ∧ k.depth ≤ 8 ∧ (∀ z, k ≠ .text z) ∧ Q (.ref s.heap.objs.size) (upd H2 s.heap.objs.size (dtO X.prog X.w s.heap.objs.size [(k, b)]))) I1 (q _ hn hsm)) fun vs s2 ⟨ps, H2, I2, rel, e2, k, b, ep, hdp, hdep, hnt, q2⟩ => ?_)
  subst ep
  cases rel with
  | @cons p1 v1 ps' vs' r1 r2 =>
    cases r2
    obtain ⟨ra, rb⟩ := r1
    obtain ⟨u1, u2⟩ := v1
    simp only at ra rb
    cases ra; cases rb
    have hm2 := dt_dict I2 e2 ⟨List.nodup_nil, Nat.zero_le _, fun _ hx => nomatch hx⟩
    unfold storeAll
    rw [List.forIn_cons]
    refine wpAny_bind (wpAny_bind (wpAny_dictSet_heap (knd := nestedKind X.prog X.w) (k := k) (hsz := Nat.zero_le _) (by show X.A.units + 8 < cLine; omega) ⟨nested_of I2 _ _ _ hdp rfl hnt, hdep⟩ hm2 fun h' hm' hs => wpAny_pure ?_))
    show wpAny _ _ (forIn [] PUnit.unit _) _ _ _
    rw [List.forIn_nil]
    refine wpAny_pure ?_
    obtain ⟨o', es', ep', ho', hx', hd', he', _, _⟩ := hm'
    refine ⟨.ref _, _, I2.write (x := s.heap.objs.size) (e := s.heap.objs.size) (by rw [e2]; exact trivial) (.inl rfl) (fun b' u' hb hu' => (hs.2 b' hb).trans hu') ⟨o', ho'⟩ ?_, rfl, q2⟩
    exact ⟨⟨o', es', ep', ho', hx', hd', he'⟩, ⟨o', ho'⟩, fun h1 h2 ⟨o1, es1, ep1, g1, g2, g3, g4⟩ st => ⟨o1, es1, ep1, st _ g1, g2, g3, g4⟩⟩
/-- an object that stands but that no slot holds is put into a slot, and written -/
theorem Ag.own2 {C : Cst} {F H : Hp} {ρ : Rho} {σ : L2.St} (a : Ag C F ρ σ H) {i : Nat} {p : Addr} {s : Sl} {o : HO} (h0 : C.H0 p = none) (fp : F p = none) (old : ∀ (j : Nat) (sj : Sl), ρ[j]? = some sj → isOwn sj = true → σ[j]? = some (some (.ref p)) → False)
    (hs : SlotOk C F (upd H p o) s (some (.ref p))) : Ag C F (ρ.set i s) (σ.set i (some (.ref p))) (upd H p o) := by
  have b0 : ∀ (j : Nat) (sj : Sl), ρ[j]? = some sj → ∃ q, σ[j]? = some q ∧ SlotOk C F (upd H p o) sj q := fun j sj e => by
    obtain ⟨q, h1, h2⟩ := a.sl j sj e
    refine ⟨q, h1, h2.but fun z1 z2 => ?_⟩
    subst z2
    exact old j sj e z1 h1
  exact
    { s0 := fun b u e => by rw [upd_ne (ne_of_none e h0)]; exact a.s0 _ _ e
      f0 := a.f0
      fh := fun b u e => by rw [upd_ne (ne_of_none e fp)]; exact a.fh _ _ e
      nb := a.nb
      len := by rw [List.length_set, List.length_set]; exact a.len
      sl := fun j sj e => by
        by_cases h : i = j
        · subst h
          have hl : i < ρ.length := by
            have := (List.getElem?_eq_some_iff.mp e).1
            rw [List.length_set] at this; exact this
          rw [List.getElem?_set_self hl] at e
          cases e
          exact ⟨some (.ref p), by rw [List.getElem?_set_self (by rw [← a.len]; exact hl)], hs⟩
        · rw [List.getElem?_set_ne h] at e
          obtain ⟨q, h1, h2⟩ := b0 j sj e
          exact ⟨q, by rw [List.getElem?_set_ne h]; exact h1, h2⟩
      sep := fun j k sj sk q hjk e1 e2 o1 o2 h1 h2 => by
        have get : ∀ (j : Nat) (sj : Sl), (ρ.set i s)[j]? = some sj → i = j → (σ.set i (some (V.ref p)))[j]? = some (some (.ref q)) → q = p := fun j sj e z h => by
          subst z
          have hl : i < ρ.length := by
            have := (List.getElem?_eq_some_iff.mp e).1
            rw [List.length_set] at this; exact this
          rw [List.getElem?_set_self (by rw [← a.len]; exact hl)] at h
          cases h; rfl
        by_cases hj : i = j
        · have e := get j sj e1 hj h1
          subst e
          have hk : i ≠ k := fun z => hjk (hj.symm.trans z)
          rw [List.getElem?_set_ne hk] at e2 h2
          exact old k sk e2 o2 h2
        · by_cases hk : i = k
          · have e := get k sk e2 hk h2
            subst e
            rw [List.getElem?_set_ne hj] at e1 h1
            exact old j sj e1 o1 h1
          · rw [List.getElem?_set_ne hj] at e1 h1
            rw [List.getElem?_set_ne hk] at e2 h2
            exact a.sep j k sj sk q hjk e1 e2 o1 o2 h1 h2 }
/-- no slot of the def's own holds a fresh place -/
theorem Ag.noold {C : Cst} {F H : Hp} {ρ : Rho} {σ : L2.St} (a : Ag C F ρ σ H) {p : Addr} (hp : H p = none) : ∀ (j : Nat) (sj : Sl), ρ[j]? = some sj → isOwn sj = true → σ[j]? = some (some (.ref p)) → False := fun j sj e h1 h2 => by
  obtain ⟨q, e1, e2⟩ := a.sl j sj e
  obtain ⟨p', e3, e4, _⟩ := own_addr h1 e2
  rw [h2] at e1; cases e1; cases e3
  exact e4 hp
def sNewD1T (i : Nat) (m : EM) : SM := fun ρ => sBind (m ρ) ρ fun d => match d, keyOf d with
  | .tuple _, some k => if k.depth ≤ 8 then .nx (ρ.set i (.dT [k])) else .stuck
  | _, _ => .stuck
/-- y in d -/
def mInNT (i : Nat) (m : EM) : EM := fun ρ => (m ρ).bind fun d => match ρ[i]?, d, keyOf d with
  | some (.dT ks), .tuple _, some k => if k.depth ≤ 8 then .ok (.bool (!decide (k ∈ ks))) else .stuck
  | _, _, _ => .stuck
/-- len(d) -/
def mDNT (i : Nat) : EM := fun ρ => match ρ[i]? with
  | some (.dT ks) => if ks.length ≤ LIM then .ok (.int (ks.length : Int)) else .stuck
  | _ => .stuck
theorem nt_of {d : PyData} {k : NestedKey} {ds : List PyData} (h : keyOf d = some k) (hd : d = .tuple ds) : ∀ z, k ≠ .text z := by
  intro z e
  have hdat := keyOf_data _ _ h
  rw [e, hd] at hdat
  simp only [NestedKey.data] at hdat
  cases hdat
def rNotInTD (P : Program) (w : World) (K : PySem.W.Frag) : R2 := fun x y H Q => ∃ b p xs k, x = .ref b ∧ y = .ref p ∧ H p = some (dtO P w p xs) ∧ (p == sysModules) = false ∧ KeysOk K H xs ∧ Dp K H (.ref b) k.data ∧ k.depth ≤ 8 ∧ (∀ z, k ≠ .text z) ∧ Q (.bl (!decide (k ∈ xs.map (·.1)))) H
theorem op_notInTD {X : Cx} (hu : X.A.units + 80 < cLine) : OpR X (compareOp .NotIn) (rNotInTD X.prog X.w X.K) := by
  intro pins s σ H x y v u Q I rx ry h
  obtain ⟨b, p, xs, k, rfl, rfl, hH, hsm, hk, hd, hdep, hnt, q⟩ := h
  cases rx; cases ry
  have hm := dt_dict I hH hk
  refine wpAny_notIn_heap (knd := nestedKind X.prog X.w) (k := k) (by show X.A.units + 1 + 8 < cLine; omega) ⟨nested_of I _ _ _ hd rfl hnt, hdep⟩ hsm hm ?_
  rw [tri_at]
  exact ⟨.bl _, H, I.tok _, rfl, q⟩
def rLenTD (P : Program) (w : World) (K : PySem.W.Frag) : List V → Hp → VK → Prop := fun vs H Q => ∃ p xs, vs = [.ref p] ∧ H p = some (dtO P w p xs) ∧ (p == sysModules) = false ∧ KeysOk K H xs ∧ Q (.int (xs.length : Int)) H
theorem call_lenTD {X : Cx} : CallR X (.builtin "len") (rLenTD X.prog X.w X.K) := by
  intro pins s σ H vs us Q I r h
  obtain ⟨p, xs, rfl, hH, hsm, hk, q⟩ := h
  obtain ⟨u, rfl, rx⟩ := r.one
  cases rx
  have hm := dt_dict I hH hk
  have hz := hk.2.1
  have hs : sizeLine = 16777216 := sizeLine_eq
  have l1 : (tri xs).length = xs.length := by show (List.map _ xs).length = _; rw [List.length_map]
  refine call_len_dictH hsm hm (by rw [l1]; omega) ?_
  exact ⟨.int xs.length, H, I.tok _, ⟨_, by rw [l1]⟩, q⟩
section
variable {X : Cx} {C : Cst} {W : WX} {pos p p1 p2 p3 : Pos} {e : Expr} {m : EM} {i : Nat} {x : Str}
theorem dT_slot {F H : Hp} {ρ : Rho} {σ : L2.St} {ks : List NestedKey} (hC : C.P = X.prog ∧ C.w = X.w) (hK : X.K = C.K) (ag : Ag C F ρ σ H) (e1 : ρ[i]? = some (.dT ks)) : ∃ q xs, σ[i]? = some (some (.ref q)) ∧ H q = some (dtO X.prog X.w q xs) ∧ (q == sysModules) = false ∧ KeysOk X.K H xs ∧ xs.map (·.1) = ks := by
  obtain ⟨o, h1, q, rfl, ⟨xs, ek, nd, lk, hsm, hks, hq⟩, h3, h4⟩ := ag.sl i _ e1
  have hlen : xs.length = ks.length := by rw [← ek, List.length_map]
  exact ⟨q, xs, h1, by rw [hq, hC.1, hC.2]; rfl, hsm, ⟨by rw [ek]; exact nd, by rw [hlen]; exact lk, fun y hy => ⟨hK ▸ dpMono ag.fh _ _ (hks y hy).1, (hks y hy).2⟩⟩, ek⟩
theorem s_newD1T {k2 : Nat} {j : Nat} (hC : C.P = X.prog ∧ C.w = X.w) (hK : X.K = C.K) (hr : Room j X.A) (hN : X.N.Nodup) (hi : X.N[i]? = some x) (hx : Loc X.env.scope x) (h : PE X e (tE C W m)) (hs : swapsWith (.Dict [some e] [.Constant (.bool true) k2 p3] p2) (some (.Name x p)) pos.line X.env = pure false := by rfl)
    (hf : X.fn x = true ∨ X.env.scope.names.lookup x = some .local := by first | exact .inl rfl | exact .inr rfl | assumption) :
    PS X (.Assign [.Name x p] (.Dict [some e] [.Constant (.bool true) k2 p3] p2) pos) (tS C W (sNewD1T i m)) := ps_wk (ps_set hN hi hx (pe_new1 (hu80 hr) h) hs hf) fun D σ H ⟨ρ, F, ag, k⟩ q hq hsm => by
  have x0 : Xt F H F (upd H q (dtO X.prog X.w q [])) := Xt.grow ag.fh hq
  refine ⟨ρ, F, ag.ext x0, SK.bind (ag.ext x0) k fun d v F1 H1 x1 b1 k1 => ?_⟩
  have g2 := x1.h _ _ upd_same
  have g3 : F1 q = none := x1.n q (by rw [upd_same]; exact fun z => (nomatch z)) (ag.fh.free hq)
  split at k1
  · rename_i ds kk ekk
    by_cases hl : kk.depth ≤ 8
    · rw [if_pos hl] at k1
      have hdat := keyOf_data _ _ ekk
      cases b1 with
      | @tup b ws _ hb1 hb2 =>
        have hdp : Dp C.K F1 (.ref b) (.tuple ds) := .tup hb1 hb2
        have hdp2 : Dp C.K F1 (.ref b) kk.data := by rw [hdat]; exact hdp
        refine ⟨g2, kk, b, rfl, hK ▸ dpMono x1.fh _ _ hdp2, hl, nt_of ekk rfl, ?_⟩
        refine k1 _ F1 _ (Same.refl _) ((ag.ext (x0.trans x1)).own2 (ag.s0.free hq) g3 (ag.noold hq) ⟨q, rfl, ⟨[(kk, b)], rfl, ?_, ?_, hsm, ?_, ?_⟩, g3, ag.s0.free hq⟩)
        · exact List.nodup_cons.mpr ⟨by simp, List.nodup_nil⟩
        · show 1 ≤ sizeLine; decide
        · intro y hy
          rw [List.mem_singleton] at hy
          subst hy
          exact ⟨hdp2, hl⟩
        · rw [upd_same, hC.1, hC.2]; rfl
    · rw [if_neg hl] at k1; exact False.elim k1
  · exact False.elim k1
theorem inNT_read (hC : C.P = X.prog ∧ C.w = X.w) (hK : X.K = C.K) : ∀ σ H Q, tE C W (mInNT i m) σ H Q → tOp (rNotInTD X.prog X.w X.K) (tQ C W m) (tVar i) σ H Q := fun σ H Q ⟨ρ, F, ag, k⟩ => by
  refine ⟨ρ, F, ag, RK.bind k fun d v F1 H1 x1 b1 k1 => ?_⟩
  split at k1
  · rename_i ks ds kk e1 ekk
    by_cases hl : kk.depth ≤ 8
    · rw [if_pos hl] at k1
      obtain ⟨q, xs, h1, h2, h3, h4, h5⟩ := dT_slot hC hK (ag.ext x1) e1
      have hdat := keyOf_data _ _ ekk
      rcases b1 with b1 | ⟨_, _, _, _, ee, _⟩
      · cases b1 with
        | @tup b ws _ hb1 hb2 =>
          have hdp : Dp C.K F1 (.ref b) (.tuple ds) := .tup hb1 hb2
          have hdp2 : Dp C.K F1 (.ref b) kk.data := by rw [hdat]; exact hdp
          refine ⟨_, h1, b, q, xs, kk, rfl, rfl, h2, h3, h4, hK ▸ dpMono x1.fh _ _ hdp2, hl, nt_of ekk rfl, ?_⟩
          rw [h5]
          exact okK k1 x1.fh (.bl _)
      · cases ee
    · rw [if_neg hl] at k1; exact False.elim k1
  · exact False.elim k1
theorem x_inNT {j : Nat} (i : Nat) (hC : C.P = X.prog ∧ C.w = X.w) (hK : X.K = C.K) (hr : Room j X.A) {x : Str} (h : PE X e (tQ C W m)) (hi : X.N[i]? = some x := by rfl) (hv : Vis X.env.scope x := by first | exact Or.inl rfl | exact Or.inr (Or.inl rfl) | exact Or.inr (Or.inr rfl))
    (hd : (x == ("__debug__" : Str)) = false := by decide) (hcd : (x == ("__classdict__" : Str)) = false := by decide) (hm : behindInMarks .NotIn (.Name x p) = false := by rfl) : PE X (.Compare e [.NotIn] [.Name x p] pos) (tE C W (mInNT i m)) :=
  pe_wk (pe_cmpR (op_notInTD (hu80 hr)) h (pe_var hi hv hd hcd) hm) (inNT_read hC hK)
theorem x_tinNT {j : Nat} (i : Nat) (hC : C.P = X.prog ∧ C.w = X.w) (hK : X.K = C.K) (hr : Room j X.A) {x : Str} (h : PE X e (tQ C W m)) (hi : X.N[i]? = some x := by rfl) (hv : Vis X.env.scope x := by first | exact Or.inl rfl | exact Or.inr (Or.inl rfl) | exact Or.inr (Or.inr rfl))
    (hd : (x == ("__debug__" : Str)) = false := by decide) (hcd : (x == ("__classdict__" : Str)) = false := by decide) (hm : behindInMarks .NotIn (.Name x p) = false := by rfl) : PT X (.Compare e [.NotIn] [.Name x p] pos) (tT C W (mB (mInNT i m))) :=
  pt_wk (pt_cmpR (op_notInTD (hu80 hr)) h (pe_var hi hv hd hcd) hm) fun σ H Q q => inNT_read hC hK σ H _ (wB σ H Q q)
theorem x_dnT (i : Nat) (hC : C.P = X.prog ∧ C.w = X.w) (hK : X.K = C.K) (hg : Gl X "len") (hm : X.mg "len" = none) {x : Str} (hi : X.N[i]? = some x := by rfl) (hv : Vis X.env.scope x := by first | exact Or.inl rfl | exact Or.inr (Or.inl rfl) | exact Or.inr (Or.inr rfl))
    (hd : (x == ("__debug__" : Str)) = false := by decide) (hcd : (x == ("__classdict__" : Str)) = false := by decide) : PE X (.Call (.Name "len" p1) [.Name x p] [] pos) (tE C W (mDNT i)) :=
  pe_wk (pe_callB call_lenTD hg hm (by decide +kernel) (pa_cons (pe_var hi hv hd hcd) pa_nil)) fun σ H Q ⟨ρ, F, ag, k⟩ => by
    unfold mDNT at k
    split at k
    · rename_i ks e1
      by_cases hl : ks.length ≤ LIM
      · rw [if_pos hl] at k
        obtain ⟨q, xs, h1, h2, h3, h4, h5⟩ := dT_slot hC hK ag e1
        refine ⟨_, h1, q, xs, rfl, h2, h3, h4, ?_⟩
        have : xs.length = ks.length := by rw [← h5, List.length_map]
        rw [this]
        exact okK k ag.fh (.int _)
      · rw [if_neg hl] at k; exact False.elim k
    · exact False.elim k

/-! ### for x in f(y.pop()) -/
def sForPop (i : Nat) (M : DM) (t : TgM) (mb : SM) : SM := fun ρ => match ρ[i]? with
  | some (.own ds) => match ds.getLast? with
    | some d => sBind ((M [d]).bind itemsL) (ρ.set i (.own ds.dropLast)) fun es => forGo t mb es (ρ.set i (.own ds.dropLast))
    | none => .stuck
  | _ => .stuck
theorem dpsDropLast {K : PySem.W.Frag} {H : Hp} : ∀ {ds : List PyData} {vs : List V}, DpAll K H vs ds → DpAll K H vs.dropLast ds.dropLast
  | [], _, h => by cases h; exact .nil
  | [d], _, h => by
    cases h with
    | cons h1 h2 => cases h2; exact .nil
  | d :: e :: ds, _, h => by
    cases h with
    | cons h1 h2 =>
      cases h2 with
      | cons h3 h4 => exact .cons h1 (dpsDropLast (.cons h3 h4))
theorem for_read {g : TG} {t : TgM} {mb : SM} {vs : List Nat} (tok : TgOk C vs g t) {J : It} {ds : List PyData} {F1 H1 : Hp} {ρ : Rho} {σ : L2.St} {D : Ends} (ag : Ag C F1 ρ σ H1) (wk : Wk C J ds F1 F1) (k1 : SK C W (forGo t mb ds ρ) F1 D) :
    ∃ W' : Nat → Nat → L2.St → Hp → Prop, (∃ m, W' 0 m σ H1) ∧ ∀ i m σ H, W' i m σ H → (J.stop i H ∧ D.nx σ H) ∨ (J.go i H ∧ ∃ N : L2.St → Hp → Prop, (∀ σ' H', N σ' H' → ∃ m', m' < m ∧ W' (i + 1) m' σ' H') ∧ ∀ x H', J.yld i H x H' → g x σ H' fun σ2 H2 => tS C W mb { D with nx := N, ct := N, bk := D.nx } σ2 H2) := by
  refine ⟨fun i m σ' H' => m = ds.length - i ∧ i ≤ ds.length ∧ ∃ ρ' F', Same F1 F' ∧ Ag C F' ρ' σ' H' ∧ SK C W (forGo t mb (ds.drop i) ρ') F' D, ⟨_, rfl, Nat.zero_le _, ρ, F1, Same.refl _, ag, k1⟩, ?_⟩
  rintro i m σ' H' ⟨rfl, hi, ρ', F', sF, ag', k2⟩
  by_cases hlt : i < ds.length
  · refine .inr ⟨wk.go i H' (sF.trans ag'.fh) hlt, fun σ2 H2 => i + 1 ≤ ds.length ∧ ∃ ρ' F', Same F1 F' ∧ Ag C F' ρ' σ2 H2 ∧ SK C W (forGo t mb (ds.drop (i + 1)) ρ') F' D, fun σ2 H2 q => ⟨_, by omega, rfl, q⟩, fun x H2 hy => ?_⟩
    have ed : ds[i]? = some ds[i] := List.getElem?_eq_getElem hlt
    obtain ⟨F2, x2, d2⟩ := wk.yld i H' x H2 _ (sF.trans ag'.fh) ed hy F' sF ag'.fh
    rw [List.drop_eq_getElem_cons hlt] at k2
    cases ht : t ds[i] ρ' with
    | none => rw [forGo, ht] at k2; exact False.elim k2
    | some ρ1 =>
      rw [forGo, ht] at k2
      refine tok F2 H2 _ _ x _ ρ1 _ (ag'.ext x2) d2 ht fun σ1 ag2 _ => ⟨ρ1, F2, ag2, ?_⟩
      cases hm : mb ρ1 with
      | nx ρ2 =>
        simp only [hm] at k2
        exact fun σ3 F3 H3 s3 ag3 => ⟨hlt, ρ2, F3, (sF.trans x2.f).trans s3, ag3, SK.mono k2 (x2.f.trans s3)⟩
      | rt d => simp only [hm] at k2; exact k2
      | exc c ρ3 => simp only [hm] at k2; exact fun σ3 F3 H3 s3 ag3 => k2 σ3 F3 H3 (x2.f.trans s3) ag3
      | stuck => simp only [hm] at k2; exact k2
  · have e : i = ds.length := by omega
    subst e
    rw [List.drop_length] at k2
    exact .inl ⟨wk.stop _ H' (sF.trans ag'.fh) (Nat.le_refl _), k2 σ' F' H' (Same.refl _) ag'⟩
theorem s_forPop {tg : Expr} {body : List Stmt} {vs : List Nat} {g : TG} {t : TgM} {mb : SM} {M : DM} {j k : Nat} {pn : Str} {y f : Str} {pos' : Pos} (hp : PassesOwn (model X.prog X.w) X.A X.env X.xe) (hcm : X.calm = true) (hK : X.K = C.K) (c : Cal X.prog X.w X.K X.mg X.base C.cl f k [pn] M) (hr : Room j X.A) (hj : k ≤ j) (hg : Gl X f) (tk : Takes X W)
    (hi : X.N[i]? = some y) (hv : Vis X.env.scope y) (tok : TgOk C vs g t) (hgt : PG X tg g) (hb : PSs X body (tS C W mb)) (hd : (y == ("__debug__" : Str)) = false := by decide) (hcd : (y == ("__classdict__" : Str)) = false := by decide) (hdb : (f == ("__debug__" : Str)) = false := by decide)
    (hbase : attributeBase (.Name y p) "pop" X.env (eval (.Name y p) X.env) = eval (.Name y p) X.env := by rfl) (hline : (p2.endLine == p3.line) = true := by rfl)
    (he : starEach [.Call (.Attribute (.Name y p) "pop" p2) [] [] p3] X.env = (false, eval (.Call (.Attribute (.Name y p) "pop" p2) [] [] p3) X.env) :: starEach [] X.env := by rfl)
    (hs : ∀ x, foldedSetIterable (.Call (.Name f p1) [.Call (.Attribute (.Name y p) "pop" p2) [] [] p3] [] pos) X.env x = pure x := by intro _; rfl) :
    PS X (.For tg (.Call (.Name f p1) [.Call (.Attribute (.Name y p) "pop" p2) [] [] p3] [] pos) body [] pos') (tS C W (sForPop i M t mb)) := by
  obtain ⟨fa, fd, hm, hk, hbn, G⟩ := c.ex
  refine ps_wk (ps_for hp hcm (pi_list (pe_callS G (hr.mono hj) hg hm hk hbn (fun σ => passAt tk σ) (pa_cons (pe_bm0 PySem.F.plainAttrs_list PySem.F.slot_list_pop PySem.F.type_list_pop mt_pop (pe_var hi hv hd hcd) hbase hline) pa_nil he) hdb he rfl)) hgt hb hs) fun D σ H ⟨ρ, F, ag, k⟩ => ?_
  unfold sForPop at k
  split at k
  · rename_i ds e1
    obtain ⟨o, h1, q, ws, rfl, h2, h3, h4, h5⟩ := ag.sl i _ e1
    cases hl : ds.getLast? with
    | none => rw [hl] at k; exact False.elim k
    | some d =>
      rw [hl] at k
      have el := dpsLen h5
      have hgl : ds[ds.length - 1]? = some d := by rw [← List.getLast?_eq_getElem?]; exact hl
      obtain ⟨v, e2, b2⟩ := dpsGet' h5 hgl
      have ag2 : Ag C F (ρ.set i (.own ds.dropLast)) σ (upd H q (.lst ws.dropLast)) := ag.change e1 rfl h1 ⟨q, _, rfl, upd_same, h3, h4, dpsDropLast h5⟩ rfl
      refine ⟨_, h1, Or.inl ⟨rfl, _, .inl (.inl h2)⟩, q, ws, v, rfl, rfl, h2, by rw [el]; exact e2, ?_⟩
      refine ⟨rfl, [d], F, ag2.fh, .cons (hK ▸ b2) .nil, ?_⟩
      cases hM : M [d] with
      | stuck => simp only [hM, Res.bind, sBind] at k
                 exact False.elim k
      | exc c0 =>
        simp only [hM, Res.bind, sBind] at k
        exact fun F' H' y => k σ F' H' y.f (ag2.ext y)
      | ok r =>
        simp only [hM, Res.bind] at k
        intro v' F' H' y hd'
        cases r with
        | list es =>
          simp only [itemsL, sBind] at k
          rw [hK] at hd'
          cases hd' with
          | @lst a us _ hsq hal =>
            refine ⟨a, rfl, ⟨us, hK ▸ y.fh.seq hsq⟩, ?_⟩
            exact for_read tok (ag2.ext y) (wk_list hK hsq hal) (SK.mono (r := forGo t mb es (ρ.set i (.own ds.dropLast))) k y.f)
        | _ => simp only [itemsL, sBind] at k; exact False.elim k
  · exact False.elim k
end
end Stm
set_option Elab.async false
set_option linter.all false
set_option maxRecDepth 100000
set_option maxHeartbeats 4000000
namespace Stm
theorem fm_congr {α β : Type} {f g : α → Option β} : ∀ {l : List α}, (∀ a ∈ l, f a = g a) → l.filterMap f = l.filterMap g
  | [], _ => rfl
  | a :: l, h => by rw [List.filterMap_cons, List.filterMap_cons, h a List.mem_cons_self, fm_congr fun b hb => h b (List.mem_cons_of_mem _ hb)]
open PySem PySem.Spec PyProof.Rows PySem.Calls L2
section
variable {prog : Program} {w : World} {A : Around} {E : Value → Shared → Prop} {s : Shared}
/-! ### t[::-1] -/
theorem rev_places (n : Nat) : Builtin.Slice.slicePlaces ((n : Int) - 1) (-1) (-1) = n := by
  unfold Builtin.Slice.slicePlaces
  have h1 : ¬ ((-1 : Int) > 0) := by omega
  have h2 : -(-1 : Int) = 1 := by omega
  simp only [h1, if_false, h2, Int.ediv_one]
  split <;> omega
theorem rev_pick (xs : Array Value) : ((List.range xs.size).filterMap fun (m : Nat) => xs[(((xs.size : Int) - 1) + (m : Int) * (-1)).toNat]?).toArray = xs.toList.reverse.toArray := by
  have e : (List.range xs.size).filterMap (fun (m : Nat) => xs[(((xs.size : Int) - 1) + (m : Int) * (-1)).toNat]?) = ((List.range xs.size).map fun m => xs.size - 1 - m).filterMap fun m => xs[m]? := by
    rw [List.filterMap_map]
    refine fm_congr fun m hm => ?_
    have hm := List.mem_range.mp hm
    show _ = xs[xs.size - 1 - m]?
    congr 1
    omega
  rw [e]
  congr 1
  have e2 : (List.range xs.size).map (fun m => xs.size - 1 - m) = (List.range xs.size).reverse := by
    refine List.ext_getElem (by simp) fun i h1 h2 => ?_
    simp
  rw [e2, List.filterMap_reverse]
  congr 1
  refine List.ext_getElem? fun i => ?_
  have : (List.range xs.size).filterMap (fun m => xs[m]?) = xs.toList := by
    refine Eq.trans (b := (List.range xs.toList.length).filterMap fun m => xs.toList[m]?) ?_ ?_
    · rw [Array.length_toList]
      refine fm_congr fun m _ => ?_
      rw [Array.getElem?_toList]
    · induction xs.toList with
      | nil => rfl
      | cons a l ih =>
        rw [List.length_cons, List.range_succ_eq_map, List.filterMap_cons]
        show a :: _ = _
        rw [List.filterMap_map]
        congr 1
  rw [this]
theorem applied_rev {sl : Addr} {t : Tok} {n : Nat} {Q : Int × Int × Nat → Shared → Prop} (hs : s.heap.IsSliceOf sl .none .none (.int (-1) t)) (h : Q ((n : Int) - 1, -1, n) s) : wpAny (model prog w) A (Builtin.Slice.sliceApplied (.ref sl) (pure (n : Int))) Q E s := by
  obtain ⟨os, hos, hcs, hds⟩ := id hs
  unfold Builtin.Slice.sliceApplied Builtin.Slice.sliceFields
  refine wpAny_bind (wpAny_bind (wpAny_field hos hds (x := .none) rfl (wpAny_bind (wpAny_field hos hds (x := .none) rfl (wpAny_bind (wpAny_field hos hds (x := .int (-1) t) rfl (wpAny_pure ?_)))))))
  refine wpAny_bind (slicePart_int ?_)
  show wpAny _ _ (if ((-1 : Int) == 0) = true then _ else _) _ _ s
  rw [if_neg (by decide)]
  refine wpAny_bind (slicePart_none (wpAny_bind (slicePart_none (wpAny_bind (wpAny_pure ?_)))))
  show wpAny _ _ (match Builtin.Slice.sliceAdjust none none (-1) (n : Int) with | (lo, hi) => pure (lo, (-1 : Int), Builtin.Slice.slicePlaces lo hi (-1))) _ _ s
  have e : Builtin.Slice.sliceAdjust none none (-1) (n : Int) = ((n : Int) - 1, -1) := rfl
  rw [e]
  show wpAny _ _ (pure ((n : Int) - 1, (-1 : Int), Builtin.Slice.slicePlaces ((n : Int) - 1) (-1) (-1))) _ _ s
  rw [rev_places]
  exact wpAny_pure h
theorem getItem_tuple_rev {t sl : Addr} {items : Array Value} {tk : Tok} {Q : Value → Shared → Prop} (ht : IsTup s.heap t items) (hs : s.heap.IsSliceOf sl .none .none (.int (-1) tk))
    (h : Q (.ref s.heap.objs.size) { s with heap := s.heap.push { cls := .type "tuple", data := .seq items.toList.reverse.toArray } })
    (hsz : items.size ≤ sizeLine) : wpAny (model prog w) A (getItem (.ref t) (.ref sl)) Q E s := by
  have htake : sizeOk (.seq items.toList.reverse.toArray) := by
    show items.toList.reverse.toArray.size ≤ sizeLine
    rw [List.size_toArray, List.length_reverse, Array.length_toList]
    exact hsz
  obtain ⟨os, hos, hcs, hds⟩ := id hs
  have hTs : s.TypeIs (.ref sl) "slice" := ⟨os, hos, hcs⟩
  unfold getItem
  try with_reducible refine wpAny_holding ?_
  first | refine wpAny_bind (wpAny_pure ?_) | skip
  refine wpAny_bind (wpAny_sequenceKey ht.typeIs (by decide) ?_)
  refine wpAny_bind (wpAny_callSpecial?_slot (name := Str.ofString "__getitem__") ht.typeIs PyProof.Rows.slot_tuple_getitem
    (wpAny_call_entry PyProof.Rows.slot_tuple_getitem ht.typeIs PyProof.Rows.entry_tuple_getitem ?_ (PyProof.Rows.args_tuple_getitem _ _)))
  show wpAny _ _ (Builtin.Tuple.tupleItemsOf (.ref t) >>= _) _ _ s
  refine wpAny_bind (PyProof.Rows.tupleItemsOf_ ht ?_)
  refine wpAny_bind (wpAny_typeOf hTs ?_)
  rw [if_pos (by decide)]
  refine wpAny_bind (applied_rev hs ?_)
  show wpAny _ _ (if (((items.size : Int) - 1 == 0) && ((-1 : Int) == 1) && items.size == items.size) = true then _ else _) _ _ s
  rw [if_neg (by rw [show ((-1 : Int) == 1) = false from rfl, Bool.and_false, Bool.false_and]; exact Bool.false_ne_true), rev_pick]
  first
    | exact wpAny_bind (m := Builtin.Tuple.tupleExact _) (wpAny_newObj_type (wpAny_pure ⟨_, rfl, wpAny_pure h⟩) htake)
    | exact wpAny_bind (m := Builtin.Tuple.tupleExact _) (wpAny_newObj_type (wpAny_bind (wpAny_pure (wpAny_pure ⟨_, rfl, wpAny_pure h⟩))) htake)
    | exact wpAny_bind (wpAny_bind (m := Builtin.Tuple.tupleExact _) (wpAny_newObj_type (wpAny_pure (wpAny_pure ⟨_, rfl, wpAny_pure h⟩)) htake))
    | exact wpAny_bind (wpAny_bind (m := Builtin.Tuple.tupleExact _) (wpAny_newObj_type (wpAny_pure ⟨_, rfl, wpAny_pure h⟩) htake))
end
def tRevS (K : PySem.W.Frag) (te : TE) : TE := fun σ H Q => te σ H fun x H1 => ∃ a xs, x = .ref a ∧ SqT K H1 a xs ∧ ∀ p, H1 p = none → Q (.ref p) (upd H1 p (.tup xs.reverse))
theorem pe_revS {X : Cx} {e : Expr} {te : TE} {k1 : Nat} {p1 p2 p3 pos : Pos} (he : PE X e te) : PE X (.Subscript e (.Slice none none (some (.UnaryOp .USub (.Constant (.int 1) k1 p1) p3)) p2) pos) (tRevS X.K te) := by
  refine ⟨fun pins s σ H Q I h => ?_⟩
  refine Subscript_ (thn (he.run pins s σ H _ I h) fun v s1 ⟨x, H1, I1, r1, a, xs, ex, hx, q1⟩ => ?_)
  subst ex
  cases r1
  refine wpAny_Slice ?_
  rw [evalPart_none]
  refine wpAny_pure (wpAny_pure ?_)
  rw [evalPart_some]
  refine thn ((pe_un un_neg (pe_int (i := 1))).run pins s1 σ H1 (fun x H' => x = .int (-1) ∧ H' = H1) I1 ⟨1, rfl, rfl, rfl⟩) fun u s2 ⟨x, H2, I2, r2, ex2, eH⟩ => ?_
  subst ex2 eH
  obtain ⟨t, rfl⟩ := r2
  have I3 : Inv X pins σ H2 { s2 with heap := s2.heap.push { cls := .type "slice", data := .fields #[.none, .none, .int (-1) t] } } := I2.kept (t' := s2.toks) fun b ob q => Heap.get?_push_of_some _ q
  obtain ⟨its, r, ht, hz⟩ := I3.tuple hx
  show wpAny (model X.prog X.w) X.A (subscriptTail e (.Slice none none (some (.UnaryOp .USub (.Constant (.int 1) k1 p1) p3)) p2) (.ref a) (.ref s2.heap.objs.size)) (EP X pins σ Q) X.xe { s2 with heap := s2.heap.push { cls := .type "slice", data := .fields #[.none, .none, .int (-1) t] } }
  refine tail_any (ops := [.ref a, .ref s2.heap.objs.size]) (T := "tuple") ht.typeIs PyProof.Rows.slot_tuple_getitem.lookup (getItem_tuple_rev ht (Heap.IsSliceOf.new ..) ?_ (by rw [List.size_toArray, ← r.length]; exact hz)) (by with_unfolding_all rfl)
  refine ⟨.ref _, _, I3.laid (t' := s2.toks) (o := .tup xs.reverse) (fun b ob q => Heap.get?_push_of_some _ q) (Nat.le_refl _) ?_, rfl, q1 _ (I3.hok.fresh (Nat.le_refl _))⟩
  exact ⟨by rw [List.length_reverse]; exact hz, _, r.reverse, IsTup.new _ _⟩
def mRevS (m : EM) : EM := fun ρ => (m ρ).bind fun | .tuple ds => .ok (.tuple ds.reverse) | _ => .stuck
theorem x_revS {X : Cx} {C : Cst} {W : WX} {e : Expr} {m : EM} {k1 : Nat} {p1 p2 p3 pos : Pos} (hK : X.K = C.K) (h : PE X e (tQ C W m)) : PE X (.Subscript e (.Slice none none (some (.UnaryOp .USub (.Constant (.int 1) k1 p1) p3)) p2) pos) (tE C W (mRevS m)) :=
  pe_wk (pe_revS h) fun σ H Q ⟨ρ, F, ag, k⟩ => ⟨ρ, F, ag, RK.bind k fun d v F1 H1 x1 b1 k1 => by
    cases d with
    | tuple ds =>
      obtain ⟨a, vs, rfl, h1, a1⟩ := b1.tup x1.fh
      refine ⟨a, vs, rfl, hK ▸ h1, fun p hp => ?_⟩
      have y := Xt.new (o := .tup vs.reverse) x1.fh hp
      exact k1 _ _ _ y (.tup (.inl (.inl upd_same)) (dpsMono y.f _ _ (dpsRev a1)))
    | _ => exact False.elim k1⟩

/-! ### texts -/
/-- z * 0, z * 1 -/
def dRepS : DF
  | .str z, .int n => if n = 0 then .ok (.str Str.empty) else if n = 1 then .ok (.str z) else .stuck
  | _, _ => .stuck
def rRepS : R2 := fun x y H Q => ∃ z n, x = .str z ∧ y = .int n ∧ ((n = 0 ∧ Q (.str Str.empty) H) ∨ (n = 1 ∧ Q (.str z) H))
theorem op_repS {X : Cx} : OpR X (binaryOp .Mult) rRepS := by
  intro pins s σ H x y v u Q I rx ry h
  obtain ⟨z, n, rfl, rfl, h⟩ := h
  obtain ⟨t, rfl⟩ := rx
  obtain ⟨t', rfl⟩ := ry
  rcases h with ⟨rfl, q⟩ | ⟨rfl, q⟩
  · exact PySem.P.mul_str_none (by decide) (by decide) ⟨.str _, H, I.tok _, ⟨_, rfl⟩, q⟩
  · refine PySem.P.mul_str (by decide) (fun _ h => by simp at h) (fun _ h => by simp at h) ?_
    rw [if_neg (by decide), if_pos (by rfl)]
    exact ⟨.str z, H, I, ⟨t, rfl⟩, q⟩
theorem rb_repS {C : Cst} : RB C rRepS dRepS := by
  intro W F σ H x dx y dy Q hs bx by_ k
  unfold dRepS at k
  split at k
  · rename_i z n
    by_cases h0 : n = 0
    · rw [if_pos h0] at k
      exact ⟨z, n, bx.str, by_.int, .inl ⟨h0, okK k hs (.str _)⟩⟩
    · rw [if_neg h0] at k
      by_cases h1 : n = 1
      · rw [if_pos h1] at k
        exact ⟨z, n, bx.str, by_.int, .inr ⟨h1, okK k hs (.str _)⟩⟩
      · rw [if_neg h1] at k; exact False.elim k
  · exact False.elim k
/-- str(n), str(None) -/
def dStr : List PyData → Res PyData
  | [.int i] => if i.natAbs.log2 < 1920 then .ok (.str (toString i)) else .stuck
  | [.none] => .ok (.str "None")
  | _ => .stuck
theorem str_of_none {prog : Program} {w : World} {A : Around} {E : Value → Shared → Prop} {s : Shared} {Q : Value → Shared → Prop} (h : Q (.str "None" s.toks) { s with toks := s.toks + 1 }) : wpAny (model prog w) A (call (.type "str") [.none]) Q E s :=
  callType_new F.called_str (by decide) (F.typeCall_str_1 _) (F.newCall_str_1 _) (fun obj => F.args_object_init_2 obj _) F.entry_str_new
    (meets_str_new (S := fun _ R s => R (.ok (.ret (.str "None" s.toks))) { s with toks := s.toks + 1 }) fun _ _ _ _ s hq =>
      wpAny_strOf_gives rfl (typeIs_none s) F.slot_NoneType_str F.slot_NoneType_repr F.entry_NoneType_repr (F.args_NoneType_repr_1 _) gives_none_repr hq (hsz := by decide)) ⟨typeIs_str _ _ _, h⟩
def rStrA : List V → Hp → VK → Prop := fun xs H Q => (∃ i, xs = [.int i] ∧ i.natAbs.log2 < 1920 ∧ Q (.str (toString i)) H) ∨ (xs = [.non] ∧ Q (.str "None") H)
theorem call_strA {X : Cx} : CallR X (.type "str") rStrA := by
  intro pins s σ H xs us Q I r h
  rcases h with h | ⟨rfl, q⟩
  · exact call_str_int pins s σ H xs us Q I r h
  · obtain ⟨u, rfl, ru⟩ := vals1 r
    cases ru
    exact str_of_none ⟨.str _, H, I.tok _, ⟨_, rfl⟩, q⟩
theorem rcb_str {C : Cst} : RCB C rStrA dStr := by
  intro W F σ H vs ds Q hs b k
  unfold dStr at k
  split at k
  · rename_i i
    obtain ⟨v, rfl, b1⟩ := bq1 b
    by_cases h : i.natAbs.log2 < 1920
    · rw [if_pos h] at k
      exact .inl ⟨_, by rw [b1.int], h, okK k hs (.str _)⟩
    · rw [if_neg h] at k; exact False.elim k
  · obtain ⟨v, rfl, b1⟩ := bq1 b
    exact .inr ⟨by rw [b1.non], okK k hs (.str _)⟩
  · exact False.elim k
/-- int(n), int(b), int(text) -/
def dToIntA : List PyData → Res PyData
  | [.int i] => .ok (.int i)
  | [.bool b] => .ok (.int (if b then 1 else 0))
  | [.str a] => match PySem.intText? a with
    | some n => if a.length ≤ 640 then .ok (.int n) else .stuck
    | none => .stuck
  | _ => .stuck
def rIntA : List V → Hp → VK → Prop := fun xs H Q => ((∃ i, xs = [.int i] ∧ Q (.int i) H) ∨ ∃ k, xs = [.bl k] ∧ Q (.int (if k then 1 else 0)) H) ∨ (∃ a n, xs = [.str a] ∧ PySem.intText? a = some n ∧ a.length ≤ 640 ∧ Q (.int n) H)
theorem call_intA {X : Cx} : CallR X (.type "int") rIntA := by
  intro pins s σ H xs us Q I r h
  rcases h with h | h
  · exact call_int1 pins s σ H xs us Q I r h
  · exact call_int_str pins s σ H xs us Q I r h
theorem rcb_intA {C : Cst} : RCB C rIntA dToIntA := by
  intro W F σ H vs ds Q hs b k
  unfold dToIntA at k
  split at k
  · obtain ⟨v, rfl, b1⟩ := bq1 b
    exact .inl (.inl ⟨_, by rw [b1.int], okK k hs (.int _)⟩)
  · obtain ⟨v, rfl, b1⟩ := bq1 b
    exact .inl (.inr ⟨_, by rw [b1.bool], okK k hs (.int _)⟩)
  · rename_i a
    obtain ⟨v, rfl, b1⟩ := bq1 b
    cases e : PySem.intText? a with
    | none => simp only [e] at k; exact False.elim k
    | some n =>
      simp only [e] at k
      by_cases h : a.length ≤ 640
      · rw [if_pos h] at k
        exact .inr ⟨_, n, by rw [b1.str], e, h, okK k hs (.int _)⟩
      · rw [if_neg h] at k; exact False.elim k
  · exact False.elim k
/-- a sign in a text -/
def dInS : DF
  | .str a, .str z => match a.cps.toList with
    | [c] => .ok (.bool (decide (c ∈ z.cps.toList)))
    | _ => .stuck
  | _, _ => .stuck
def dNotInS : DF
  | .str a, .str z => match a.cps.toList with
    | [c] => .ok (.bool (!decide (c ∈ z.cps.toList)))
    | _ => .stuck
  | _, _ => .stuck
theorem one_sign {a : Str} {c : Nat} (h : a.cps.toList = [c]) : a = ⟨#[c]⟩ := by
  obtain ⟨x⟩ := a
  have : x = #[c] := by rw [← Array.toArray_toList (xs := x), show x.toList = [c] from h]
  rw [this]
theorem rb_inS {C : Cst} : RB C (fun x y H Q => ∃ (c : Nat) (z : Str), x = .str ⟨#[c]⟩ ∧ y = .str z ∧ Q (.bl (decide (c ∈ z.cps.toList))) H) dInS := by
  intro W F σ H x dx y dy Q hs bx by_ k
  unfold dInS at k
  split at k
  · rename_i a z
    split at k
    · rename_i c e
      exact ⟨c, z, by rw [bx.str, one_sign e], by_.str, okK k hs (.bl _)⟩
    · exact False.elim k
  · exact False.elim k
theorem rb_notinS {C : Cst} : RB C (fun x y H Q => ∃ (c : Nat) (z : Str), x = .str ⟨#[c]⟩ ∧ y = .str z ∧ Q (.bl (!decide (c ∈ z.cps.toList))) H) dNotInS := by
  intro W F σ H x dx y dy Q hs bx by_ k
  unfold dNotInS at k
  split at k
  · rename_i a z
    split at k
    · rename_i c e
      exact ⟨c, z, by rw [bx.str, one_sign e], by_.str, okK k hs (.bl _)⟩
    · exact False.elim k
  · exact False.elim k
/-- z[i] -/
def dIxS : DF
  | .str z, .int i => match atI z.cps.toList i with
    | some c => if z.length ≤ LIM then .ok (.str ⟨#[c]⟩) else .stuck
    | none => .stuck
  | _, _ => .stuck
theorem rb_ixS {C : Cst} : RB C rIxS dIxS := by
  intro W F σ H x dx y dy Q hs bx by_ k
  unfold dIxS at k
  split at k
  · rename_i z i
    split at k
    · rename_i c e
      by_cases h : z.length ≤ LIM
      · rw [if_pos h] at k
        exact ⟨z, i, c, bx.str, by_.int, lim_le h, e, okK k hs (.str _)⟩
      · rw [if_neg h] at k; exact False.elim k
    · exact False.elim k
  · exact False.elim k
/-- z[lo:hi] -/
def mCutS (m : EM) (lo hi : OM) : EM := fun ρ => (m ρ).bind fun d => (lo ρ).bind fun l => (hi ρ).bind fun h => match d with | .str z => if z.length ≤ LIM then .ok (.str (cutS z l h)) else .stuck | _ => .stuck
/-- " ".join(xs) -/
def strsOf : List PyData → Option (List Str)
  | [] => some []
  | .str i :: r => (strsOf r).map (i :: ·)
  | _ :: _ => none
theorem strsOf_eq : ∀ {ds : List PyData} {ns : List Str}, strsOf ds = some ns → ds = ns.map PyData.str
  | [], ns, h => by cases h; rfl
  | .str i :: r, ns, h => by
    unfold strsOf at h
    cases e : strsOf r with
    | none => rw [e] at h; cases h
    | some q =>
      rw [e] at h
      cases h
      rw [strsOf_eq e]; rfl
  | .none :: _, _, h => by cases h
  | .bool _ :: _, _, h => by cases h
  | .int _ :: _, _, h => by cases h
  | .list _ :: _, _, h => by cases h
  | .tuple _ :: _, _, h => by cases h
  | .dict _ :: _, _, h => by cases h
theorem strsOf_map : ∀ ns : List Str, strsOf (ns.map PyData.str) = some ns
  | [] => rfl
  | n :: ns => by
    show (strsOf (ns.map PyData.str)).map (n :: ·) = _
    rw [strsOf_map ns]; rfl
def mJoin (z : Str) (m : EM) : EM := fun ρ => (m ρ).bind fun d => match d with
  | .list ds => match strsOf ds with
    | some ys => if (ys.map (·.length)).sum + ys.length * z.length ≤ LIM then .ok (.str (Txt.join z ys)) else .stuck
    | none => .stuck
  | _ => .stuck
def mSplit (z : Str) (m : EM) : EM := fun ρ => (m ρ).bind fun d => match d with
  | .str a => if a.length ≤ LIM then .ok (.list ((Txt.split a z).map .str)) else .stuck
  | _ => .stuck
/-- the signs of a text -/
def signsD (z : Str) : List PyData := z.cps.toList.map fun c => .str ⟨#[c]⟩
def iS (m : EM) : Rho → Res (List PyData) := fun ρ => (m ρ).bind fun | .str z => .ok (signsD z) | _ => .stuck
section
variable {X : Cx} {C : Cst} {W : WX} {tg e : Expr} {m : EM} {p pos p2 p3 : Pos} {lo hi : Option Expr} {ml mh : OM}
theorem x_cutS (h : PE X e (tQ C W m)) (hl : PO X lo (tO C W ml)) (hh : PO X hi (tO C W mh)) : PE X (.Subscript e (.Slice lo hi none p2) pos) (tE C W (mCutS m ml mh)) :=
  pe_wk (pe_slice sl_str h hl hh) fun σ H Q ⟨ρ, F, ag, k⟩ => ⟨ρ, F, ag, RK.bind k fun d v F1 H1 x1 b1 k1 => ⟨ρ, F1, ag.ext x1, RK.bind k1 fun l l' F2 H2 x2 (b2 : l' = l) k2 => ⟨ρ, F2, (ag.ext x1).ext x2, RK.bind k2 fun u u' F3 H3 x3 (b3 : u' = u) k3 => by
    subst b2 b3
    cases d with
    | str z =>
      by_cases hz : z.length ≤ LIM
      · simp only [if_pos hz] at k3
        exact ⟨z, b1.str, lim_le hz, okK k3 x3.fh (.str _)⟩
      · simp only [if_neg hz] at k3; exact False.elim k3
    | _ => exact False.elim k3⟩⟩⟩
theorem i_str (h : PE X e (tE C W m)) : PI X tg e (tI C W (iS m)) := pi_wk (pi_str h) fun σ H R ⟨ρ, F, ag, k⟩ => ⟨ρ, F, ag, RK.bind k fun d v F1 H1 x1 b1 k1 => by
  cases d with
  | str z =>
    cases b1
    refine ⟨z, rfl, k1 _ F1 H1 (Xt.refl x1.fh) ⟨fun i H _ hi => ?_, fun i H _ hi => ?_, fun i H y H' d _ hd hy Fa f1 f2 => ?_⟩⟩
    · unfold signsD at hi
      rw [List.length_map, Array.length_toList] at hi
      exact hi
    · unfold signsD at hi
      rw [List.length_map, Array.length_toList] at hi
      exact hi
    · obtain ⟨rfl, c, hc, rfl⟩ := hy
      unfold signsD at hd
      rw [List.getElem?_map, Array.getElem?_toList, hc] at hd
      cases hd
      exact ⟨Fa, Xt.refl f2, .str _⟩
  | _ => exact False.elim k1⟩
theorem x_join {z : Str} {j : Nat} (hK : X.K = C.K) (h : PE X e (tQ C W m)) (hs : starEach [e] X.env = [(false, eval e X.env)] := by rfl) (hbase : attributeBase (.Constant (.str z) j p) "join" X.env (eval (.Constant (.str z) j p) X.env) = eval (.Constant (.str z) j p) X.env := by rfl)
    (hline : (p2.endLine == p3.line) = true := by rfl) : PE X (.Call (.Attribute (.Constant (.str z) j p) "join" p2) [e] [] p3) (tE C W (mJoin z m)) :=
  pe_wk (pe_join pe_str h hs hbase hline) fun σ H Q ⟨ρ, F, ag, k⟩ => ⟨⟨z, rfl⟩, ρ, F, ag, RK.bind k fun d v F1 H1 x1 b1 k1 => by
    cases d with
    | list ds =>
      obtain ⟨a, vs, rfl, h1, a1⟩ := b1.list x1.fh
      cases e1 : strsOf ds with
      | none => simp only [e1] at k1; exact False.elim k1
      | some ys =>
        simp only [e1] at k1
        by_cases hl : (ys.map (·.length)).sum + ys.length * z.length ≤ LIM
        · rw [if_pos hl] at k1
          rw [strsOf_eq e1] at a1
          rw [dpsStrs' a1] at h1
          exact ⟨z, a, ys, rfl, rfl, .inl (hK ▸ h1), by have : LIM = 100000 := rfl; omega, okK k1 x1.fh (.str _)⟩
        · rw [if_neg hl] at k1; exact False.elim k1
    | _ => exact False.elim k1⟩
theorem x_split {z : Str} {j : Nat} {p1 : Pos} (hz : (z.length == 0) = false) (h : PE X e (tQ C W m)) (hs : starEach [.Constant (.str z) j p] X.env = [(false, eval (.Constant (.str z) j p) X.env)] := by rfl) (hbase : attributeBase e "split" X.env (eval e X.env) = eval e X.env := by rfl)
    (hline : (p2.endLine == p3.line) = true := by rfl) : PE X (.Call (.Attribute e "split" p2) [.Constant (.str z) j p] [] p3) (tE C W (mSplit z m)) :=
  pe_wk (pe_split h pe_str hs hbase hline) fun σ H Q ⟨ρ, F, ag, k⟩ => ⟨ρ, F, ag, RK.bind k fun d v F1 H1 x1 b1 k1 => by
    cases d with
    | str a =>
      by_cases hl : a.length ≤ LIM
      · simp only [if_pos hl] at k1
        refine ⟨⟨a, b1.str⟩, a, z, b1.str, rfl, hz, by have : LIM = 100000 := rfl; have := sizeLine_eq; omega, fun q hq => ?_⟩
        have y := Xt.new (o := .lst ((Txt.split a z).map V.str)) x1.fh hq
        exact k1 _ _ _ y (.lst (.inl (.inl upd_same)) (dpsStrs _))
      · simp only [if_neg hl] at k1; exact False.elim k1
    | _ => exact False.elim k1⟩
end
/-- return "text" * int(test), in an except suite -/
theorem s_suRetM {Y : Cx} {a : Addr} {i k : Nat} {z : Str} {e : Expr} {p1 p2 p3 p4 pos : Pos} (hg : Gl Y "int") (hm : Y.mg "int" = none) (h : PE Y e (tIs i a true)) (he : starEach [e] Y.env = (false, eval e Y.env) :: starEach [] Y.env := by rfl) (hpl : (backTo p3 (starEach [] Y.env)).any (·.1) = false := by rfl) :
    PS Y (.Return (some (.BinOp (.Constant (.str z) k p1) .Mult (.Call (.Name "int" p2) [e] [] p3) p4)) pos) (tSu i a (.ret (.str z))) :=
  ps_wk (ps_ret (pe_op op_repS pe_str (pe_callTy call_int1 hg hm (by decide +kernel) (pa_cons h pa_nil he) (by decide) (by decide) he hpl))) fun D σ H ⟨e1, v, hv, q⟩ => by
    have ev : v = .str z := by simp only [vOf, Option.some.injEq] at hv; exact hv.symm
    subst ev
    exact ⟨e1, Or.inr ⟨true, rfl, z, 1, rfl, rfl, Or.inr ⟨rfl, q⟩⟩⟩
end Stm
set_option Elab.async false
set_option linter.all false
set_option maxRecDepth 100000
set_option maxHeartbeats 4000000
namespace Stm
open PySem PySem.Spec PyProof.Rows PySem.Calls L2
/-! ### a list of the def's own is given up: it stays from here on -/
def sFrz (i : Nat) : SM := fun ρ => match ρ[i]? with
  | some (.own ds) => .nx (ρ.set i (.val (.list ds)))
  | _ => .stuck
/-- x.remove(k), a list of ints -/
def sRem (i : Nat) (m : EM) : SM := fun ρ => match ρ[i]? with
  | some (.own ds) => sBind (m ρ) ρ fun d => match d, intsOf ds with
    | .int k, some ns => if k ∈ ns then .nx (ρ.set i (.own ((ns.erase k).map .int))) else .stuck
    | _, _ => .stuck
  | _ => .stuck
theorem first_at {k : Int} : ∀ {ns : List Int}, k ∈ ns → ∃ j : Nat, ns[j]? = some k ∧ (∀ m : Nat, m < j → ns[m]? ≠ some k) ∧ ns.eraseIdx j = ns.erase k
  | [], h => by cases h
  | a :: r, h => by
    by_cases e : a = k
    · subst e
      exact ⟨0, rfl, fun m hm => absurd hm (Nat.not_lt_zero _), by simp⟩
    · obtain ⟨j, h1, h2, h3⟩ := first_at ((List.mem_cons.mp h).resolve_left fun z => e z.symm)
      refine ⟨j + 1, h1, fun m hm => ?_, ?_⟩
      · cases m with
        | zero => intro z; exact e (by simpa using z)
        | succ m => exact h2 m (by omega)
      · rw [List.erase_cons_tail (by simpa using e), List.eraseIdx_cons_succ, h3]
/-- the pairs of two lists, of two tuples -/
def zipD (a b : List PyData) : List PyData := (a.zip b).map fun p => .tuple [p.1, p.2]
def iZip (m : AM) : Rho → Res (List PyData) := fun ρ => (m ρ).bind fun
  | [.list a, .list b] => .ok (zipD a b)
  | [.tuple a, .tuple b] => .ok (zipD a b)
  | _ => .stuck
theorem zipD_len {a b : List PyData} : (zipD a b).length = min a.length b.length := by
  unfold zipD
  rw [List.length_map, List.length_zip]
theorem zipD_get {a b : List PyData} {i : Nat} {d : PyData} (h : (zipD a b)[i]? = some d) : ∃ x y, a[i]? = some x ∧ b[i]? = some y ∧ d = .tuple [x, y] := by
  unfold zipD at h
  rw [List.getElem?_map, List.zip_eq_zipWith, List.getElem?_zipWith] at h
  cases e1 : a[i]? with
  | none => rw [e1] at h; cases h
  | some x =>
    cases e2 : b[i]? with
    | none => rw [e1, e2] at h; cases h
    | some y =>
      rw [e1, e2] at h
      cases h
      exact ⟨x, y, rfl, rfl, rfl⟩
section
variable {X : Cx} {C : Cst} {W : WX} {pos p p1 p2 p3 tpos : Pos} {e e2 : Expr} {m : EM} {ms : AM} {i : Nat} {x : Str} {sts : List Stmt} {mb : SM}
theorem pss_frz (h : PSs X sts (tS C W mb)) : PSs X sts (tS C W (sSeq (sFrz i) mb)) := pss_wk h fun D σ H ⟨ρ, F, ag, k⟩ => by
  unfold sSeq sFrz at k
  split at k
  · rename_i ρ' e0
    revert e0
    split
    · rename_i ds e
      intro e0
      cases e0
      obtain ⟨o, h1, q, vs, rfl, h2, h3, h4, h5⟩ := ag.sl i _ e
      obtain ⟨sF, ag2⟩ := ag.freeze e h1 h2 h3 h4 h5
      exact ⟨_, _, ag2, SK.mono k sF⟩
    · intro e0; cases e0
  · rename_i r hn
    revert k
    split
    · rename_i ds e
      exact (hn _ (by rw [e])).elim
    · exact fun k => False.elim k
theorem s_rem (hK : X.K = C.K) (hi : X.N[i]? = some x) (hv : Vis X.env.scope x) (h : PE X e (tQ C W m)) (hd : (x == ("__debug__" : Str)) = false := by decide) (hcd : (x == ("__classdict__" : Str)) = false := by decide)
    (hbase : attributeBase (.Name x p) "remove" X.env (eval (.Name x p) X.env) = eval (.Name x p) X.env := by rfl)
    (hfew : ((backTo p3 (starEach (e :: []) X.env)).all (fun x => !x.1) && (backToKw p3 (keywordEach [] X.env)).all (fun x => x.1.isSome) && decide ((e :: ([] : List Expr)).length + ([] : List Keyword).length + (if ([] : List Keyword).isEmpty then 0 else 1) < 30)) = true := by rfl)
    (hline : (p2.endLine == p3.line) = true := by rfl) (he : starEach (e :: []) X.env = (false, eval e X.env) :: starEach [] X.env := by rfl) (hpl : (backTo p3 (starEach [] X.env)).any (·.1) = false := by rfl)
    (hs : swapsWith (.Call (.Attribute (.Name x p) "remove" p2) [e] [] p3) none pos.line X.env = pure false := by rfl) :
    PS X (.Expr (.Call (.Attribute (.Name x p) "remove" p2) [e] [] p3) pos) (tS C W (sRem i m)) :=
  ps_wk (ps_expr (pe_bm PySem.F.plainAttrs_list PySem.F.slot_list_remove PySem.F.type_list_remove mt_remove (pe_var hi hv hd hcd) (pa_cons h pa_nil he) hbase hfew hline he hpl) hs) fun D σ H ⟨ρ, F, ag, k⟩ => by
    unfold sRem at k
    split at k
    · rename_i ds e1
      obtain ⟨o, h1, q, vs, rfl, h2, h3, h4, h5⟩ := ag.sl i _ e1
      refine ⟨_, h1, Or.inl ⟨rfl, _, .inl (.inl h2)⟩, ρ, F, ag, SK.bind ag k fun d v F1 H1 x1 b1 k1 => ?_⟩
      split at k1
      · rename_i n ns ei
        by_cases hl : n ∈ ns
        · rw [if_pos hl] at k1
          have ag1 := ag.ext x1
          have g2 := x1.h _ _ h2
          have g3 := x1.n q (by rw [h2]; exact fun z => (nomatch z)) h3
          rw [intsOf_eq ei] at h5
          rw [dpsInts' h5] at g2
          obtain ⟨j, j1, j2, j3⟩ := first_at hl
          refine ⟨q, ns, n, j, rfl, by rw [b1.int], g2, j1, j2, ?_⟩
          rw [j3]
          exact k1 _ F1 _ (Same.refl _) (ag1.change e1 rfl h1 ⟨q, _, rfl, upd_same, g3, h4, dpsInts _⟩ rfl)
        · rw [if_neg hl] at k1; exact False.elim k1
      · exact False.elim k1
    · exact False.elim k
theorem i_zip {elts : List Expr} {kk : Nat} (hK : X.K = C.K) (hg : Gl X "zip") (hm : X.mg "zip" = none) (h : PA X [e, e2] (tAs C W ms)) (hs : starEach [e, e2] X.env = (false, eval e X.env) :: starEach [e2] X.env := by rfl) (hpl : (backTo pos (starEach [e2] X.env)).any (·.1) = false := by rfl) :
    PI X (.Tuple elts kk tpos) (.Call (.Name "zip" p) [e, e2] [] pos) (tI C W (iZip ms)) :=
  pi_wk (RZ.pi_zipA hg hm h hs hpl) fun σ H R ⟨ρ, F, ag, k⟩ => ⟨ρ, F, ag, RK.bind k fun ds vs F1 H1 x1 b1 k1 => by
    split at k1
    · rename_i a b
      cases b1 with
      | cons c1 c2 =>
        cases c2 with
        | cons c2 c3 =>
          cases c3
          cases c1 with
          | @lst p1 v1 _ h1 a1 =>
            cases c2 with
            | @lst p2 v2 _ h2 a2 =>
              have l1 := dpsLen a1
              have l2 := dpsLen a2
              refine ⟨p1, p2, v1, v2, rfl, .inl ⟨hK ▸ x1.fh.seq h1, hK ▸ x1.fh.seq h2, k1 _ F1 H1 (Xt.refl x1.fh) ⟨fun i H e hi => ?_, fun i H e hi => ⟨v1, v2, hK ▸ e.seq h1, hK ▸ e.seq h2, ?_⟩, fun i H x H' d e hd hy Fa f1 f2 => ?_⟩⟩⟩
              · rw [zipD_len] at hi
                obtain ⟨v, g1, _⟩ := dpsGet' a1 (List.getElem?_eq_getElem (i := i) (by omega))
                obtain ⟨w, g2, _⟩ := dpsGet' a2 (List.getElem?_eq_getElem (i := i) (by omega))
                exact ⟨v1, v2, v, w, hK ▸ e.seq h1, hK ▸ e.seq h2, g1, g2⟩
              · rw [zipD_len] at hi
                omega
              · obtain ⟨T, y1, y2, rfl, nT, rfl, f1', f2'⟩ := hy
                obtain ⟨d1, d2, g1, g2, rfl⟩ := zipD_get hd
                obtain ⟨v, e1, e2⟩ := dpsGet' a1 g1
                obtain ⟨w, e3, e4⟩ := dpsGet' a2 g2
                have z1 := f1' v1 (hK ▸ e.seq h1)
                have z2 := f2' v2 (hK ▸ e.seq h2)
                rw [e1] at z1
                rw [e3] at z2
                cases z1; cases z2
                have y := Xt.new (o := .tup [y1, y2]) f2 nT
                exact ⟨_, y, .tup (.inl (.inl upd_same)) (.cons (dpMono (f1.trans y.f) _ _ e2) (.cons (dpMono (f1.trans y.f) _ _ e4) .nil))⟩
    · rename_i a b
      cases b1 with
      | cons c1 c2 =>
        cases c2 with
        | cons c2 c3 =>
          cases c3
          cases c1 with
          | @tup p1 v1 _ h1 a1 =>
            cases c2 with
            | @tup p2 v2 _ h2 a2 =>
              have l1 := dpsLen a1
              have l2 := dpsLen a2
              refine ⟨p1, p2, v1, v2, rfl, .inr ⟨hK ▸ seqT x1.fh h1, hK ▸ seqT x1.fh h2, k1 _ F1 H1 (Xt.refl x1.fh) ⟨fun i H e hi => ?_, fun i H e hi => ⟨v1, v2, hK ▸ seqT e h1, hK ▸ seqT e h2, ?_⟩, fun i H x H' d e hd hy Fa f1 f2 => ?_⟩⟩⟩
              · rw [zipD_len] at hi
                obtain ⟨v, g1, _⟩ := dpsGet' a1 (List.getElem?_eq_getElem (i := i) (by omega))
                obtain ⟨w, g2, _⟩ := dpsGet' a2 (List.getElem?_eq_getElem (i := i) (by omega))
                exact ⟨v1, v2, v, w, hK ▸ seqT e h1, hK ▸ seqT e h2, g1, g2⟩
              · rw [zipD_len] at hi
                omega
              · obtain ⟨T, y1, y2, rfl, nT, rfl, f1', f2'⟩ := hy
                obtain ⟨d1, d2, g1, g2, rfl⟩ := zipD_get hd
                obtain ⟨v, e1, e2⟩ := dpsGet' a1 g1
                obtain ⟨w, e3, e4⟩ := dpsGet' a2 g2
                have z1 := f1' v1 (hK ▸ seqT e h1)
                have z2 := f2' v2 (hK ▸ seqT e h2)
                rw [e1] at z1
                rw [e3] at z2
                cases z1; cases z2
                have y := Xt.new (o := .tup [y1, y2]) f2 nT
                exact ⟨_, y, .tup (.inl (.inl upd_same)) (.cons (dpMono (f1.trans y.f) _ _ e2) (.cons (dpMono (f1.trans y.f) _ _ e4) .nil))⟩
    · exact False.elim k1⟩
end
/-- a def is never called where its function is stuck -/
theorem fn_stuck {P : Program} {w : World} {K : PySem.W.Frag} {mg : Str → Option Value} {base : Heap} {CX : CXT} {cl : Ex → Value} {k : Nat} {f : Addr} {fd : FuncData} {ps : List Str} : FnOk P w K mg base CX k f fd ps (spM K cl ps.length fun _ => .stuck) :=
  ⟨fun _ _ _ _ h => h.1, fun _ _ _ _ _ _ _ _ _ _ _ _ _ h => by obtain ⟨_, _, _, _, _, z⟩ := h; exact False.elim z⟩
end Stm
set_option Elab.async false
set_option linter.all false
set_option maxRecDepth 100000
set_option maxHeartbeats 4000000
/-! sorted(own list, key=def), the keys may hold lists -/
namespace Stm
open PySem PySem.Spec PyProof.Rows PySem.Calls L2 PySem.W
theorem HOk.but {P : Program} {w : World} {H : Hp} {h h' : Heap} {c : Addr} (x : HOk P w H h) (k : ∀ b o, b ≠ c → h.get? b = some o → h'.get? b = some o) (hn : H c = none) : HOk P w H h' := fun b u e => by
  have nit : ∀ b u, H b = some u → b ≠ c := fun b u e z => by rw [z, hn] at e; cases e
  refine (x b u e).stay (fun d v hc q => k d v ?_ q) (fun _ q => q) fun _ _ q => q
  rcases hc with z | z
  · rw [z]; exact nit b u e
  · exact nit d _ z
theorem HOk.but2 {P : Program} {w : World} {H : Hp} {h h' : Heap} {a c : Addr} (x : HOk P w H h) (k : ∀ b o, b ≠ a → b ≠ c → h.get? b = some o → h'.get? b = some o) (hn : H c = none) (ha : H a = none) {o : HO} (new : ObjOk P w (upd H a o) h' a o) : HOk P w (upd H a o) h' := fun b u e => by
  by_cases hb : b = a
  · subst hb; rw [upd_same] at e; cases e; exact new
  · rw [upd_ne hb] at e
    have nit : ∀ b u, H b = some u → b ≠ c ∧ b ≠ a := fun b u e => ⟨fun z => (by rw [z, hn] at e; cases e), fun z => (by rw [z, ha] at e; cases e)⟩
    refine (x b u e).stay (fun d v hc q => k d v ?_ ?_ q) (fun d q => by rw [upd_ne (nit d _ q).2]; exact q) fun d xs q => by rw [upd_ne (nit d _ q).2]; exact q
    · rcases hc with z | z
      · rw [z]; exact (nit b u e).2
      · exact (nit d _ z).2
    · rcases hc with z | z
      · rw [z]; exact (nit b u e).1
      · exact (nit d _ z).1
theorem each_dp {X : Cx} {pins : List (Addr × Obj)} {σ : L2.St} {H F : Hp} {s : Shared} (I : Inv X pins σ H s) : ∀ {vs : List V} {us : List Value} {ds : List PyData}, Vals vs us → DpAll X.K H vs ds → EachIs (fun v d => ∃ as, Reads s.heap v d as) us ds
  | _, _, _, .nil, .nil => .nil
  | _, _, _, .cons r rs, .cons d dss => .cons (Dp.reads I _ _ _ d r) (each_dp (F := F) I rs dss)
/-- items with their keys -/
def zip3 : List V → List PyData → List PyData → List (V × PyData × PyData)
  | v :: vs, d :: ds, k :: ks => (v, d, k) :: zip3 vs ds ks
  | _, _, _ => []
theorem zip3_keys : ∀ {vs : List V} {ds ks : List PyData}, vs.length = ds.length → ks.length = ds.length → (zip3 vs ds ks).map (fun t => t.2.2) = ks
  | [], [], [], _, _ => rfl
  | v :: vs, d :: ds, k :: ks, h1, h2 => by
    simp only [List.length_cons, Nat.add_right_cancel_iff] at h1 h2
    show k :: _ = _
    rw [zip3_keys h1 h2]
theorem zip3_pair : ∀ {vs : List V} {ds ks : List PyData}, vs.length = ds.length → ks.length = ds.length → (zip3 vs ds ks).map (fun t => t.2) = ds.zip ks
  | [], [], [], _, _ => rfl
  | v :: vs, d :: ds, k :: ks, h1, h2 => by
    simp only [List.length_cons, Nat.add_right_cancel_iff] at h1 h2
    show (d, k) :: _ = _
    rw [zip3_pair h1 h2]; rfl
theorem zip3_rel : ∀ {vs : List V} {us : List Value} {ds ks : List PyData}, Vals vs us → vs.length = ds.length → ks.length = ds.length → EachIs (fun (u : Value) (t : V × PyData × PyData) => RelV t.1 u) us (zip3 vs ds ks)
  | _, _, [], [], .nil, _, _ => .nil
  | _, _, d :: ds, k :: ks, .cons r rs, h1, h2 => by
    simp only [List.length_cons, Nat.add_right_cancel_iff] at h1 h2
    exact .cons r (zip3_rel rs h1 h2)
theorem zip3_dp {K : PySem.W.Frag} {F : Hp} : ∀ {vs : List V} {ds ks : List PyData}, DpAll K F vs ds → ∀ t ∈ zip3 vs ds ks, Dp K F t.1 t.2.1
  | _, _, [], _, t, ht => by cases ‹DpAll K F _ _› <;> simp [zip3] at ht
  | _, _, k :: ks, .nil, t, ht => by simp [zip3] at ht
  | _, _, k :: ks, .cons d dss, t, ht => by
    rcases List.mem_cons.mp ht with e | ht
    · rw [e]; exact d
    · exact zip3_dp dss t ht
theorem vals_of_each {us : List Value} {ts : List (V × PyData × PyData)} (h : EachIs (fun (u : Value) (t : V × PyData × PyData) => RelV t.1 u) us ts) : Vals (ts.map (·.1)) us := by
  induction h with
  | nil => exact .nil
  | cons r _ ih => exact .cons r ih
theorem dps_of {K : PySem.W.Frag} {F : Hp} : ∀ {ts : List (V × PyData × PyData)}, (∀ t ∈ ts, Dp K F t.1 t.2.1) → DpAll K F (ts.map (·.1)) (ts.map fun t => t.2.1)
  | [], _ => .nil
  | t :: ts, h => .cons (h t List.mem_cons_self) (dps_of fun q hq => h q (List.mem_cons_of_mem _ hq))
/-- sorted by keys -/
def sortK (ds ks : List PyData) : List PyData := ((ds.zip ks).mergeSort (dataLe false Prod.snd)).map Prod.fst
theorem zip3_sort {vs : List V} {ds ks : List PyData} (h1 : vs.length = ds.length) (h2 : ks.length = ds.length) : ((zip3 vs ds ks).mergeSort (dataLe false fun t => t.2.2)).map (fun t => t.2.1) = sortK ds ks := by
  have e : ((zip3 vs ds ks).mergeSort (dataLe false fun t => t.2.2)).map (fun t => t.2) = (ds.zip ks).mergeSort (dataLe false Prod.snd) := by
    rw [← zip3_pair h1 h2]
    exact List.map_mergeSort fun a _ b _ => rfl
  unfold sortK
  rw [← e, List.map_map]; rfl
section
variable {X : Cx}
theorem sortKey_run {pins : List (Addr × Obj)} {s : Shared} {σ : L2.St} {H F : Hp} {l f : Addr} {vs : List V} {ds ks : List PyData} {j : Nat} {M : DM} {cl : Ex → Value} {fd : FuncData} {p1 : Str} {Q : VK}
    (I : Inv X pins σ H s) (hs : SqL X.K H l vs) (hl : vs.length ≤ 100) (hkp : PySem.W.keepIn X.K (.ref f) = true) (hb : Binds X.K fd [p1] []) (G : FnOk X.prog X.w X.K X.mg X.base (L2.CX X.prog X.w) j f fd [p1] (spM X.K cl 1 M)) (hr : Room (j + 2) X.A)
    (hF : Same F H) (hd : DpAll X.K F vs ds) (hk : ∀ (i : Nat) (d : PyData), ds[i]? = some d → ∃ k, ks[i]? = some k ∧ M [d] = .ok k) (hlen : ks.length = ds.length) (hal : AllAlike ks) (hsk : Sortable ks) (hdep : ∀ k ∈ ks, k.depth ≤ 50)
    (q : ∀ (out : List V) (p : Addr) (F' H' : Hp), Xt F H F' H' → H' p = none → DpAll X.K F' out (sortK ds ks) → Q (.ref p) (upd H' p (.lst out))) :
    wpAny (model X.prog X.w) X.A (call (.builtin "sorted") [.ref l] [(Str.ofString "key", .ref f)]) (EP X pins σ Q) X.xe s := by
  obtain ⟨its, rv, hpl, hz⟩ := I.list hs
  have hvl := rv.length
  have hdl := dpsLen hd
  have hsl := sizeLine_eq
  refine sorted_of_sort (vs := its) hpl.isList (by omega) (ksk_s1 _ _) (fun _ => ksk_l1 _ _) fun E' => ?_
  rw [ksk_t1]
  generalize ha : s.heap.objs.size + 1 = a
  have ho : (copyHeap s.heap its).get? a = some (seqObj "list" its.toArray 0) := by rw [← ha]; exact copyHeap_at s.heap its
  have hasz : s.heap.objs.size ≤ a := by omega
  obtain ⟨e1, ho1⟩ : ∃ e1, ((copyHeap s.heap its).update a (Obj.mapSeq fun _ => (#[] : Array Value))).get? a = some (seqObj "list" #[] e1) := ⟨_, get?_update_seq ho fun _ => #[]⟩
  generalize hkS : (((copyHeap s.heap its).update a (Obj.mapSeq fun _ => (#[] : Array Value))).push (seqObj "tuple" its.toArray 0)).objs.size = kS
  have hkSa : a < kS := by rw [← hkS, size_push', Heap.size_update]; exact Nat.lt_succ_of_lt (Heap.lt_size ho)
  have hka : kS ≠ a := Nat.ne_of_gt hkSa
  have hksz : s.heap.objs.size ≤ kS := by omega
  unfold ksk_tree
  refine wpAny_bind (listItems_at ho rfl ?_)
  refine wpAny_bind (listUpdate_at ho rfl ?_ (by rw [List.size_toArray]; omega) (Nat.zero_le _))
  refine wpAny_bind (seqEpoch_at ho1 rfl ?_)
  refine wpAny_bind (wpAny_newTuple ?_ (by show its.length ≤ _; omega))
  refine wpAny_bind (wpAny_newList ?_ (Nat.zero_le _))
  refine wpAny_holding ?_
  have old : ∀ b o, s.heap.get? b = some o → ((((copyHeap s.heap its).update a (Obj.mapSeq fun _ => (#[] : Array Value))).push (seqObj "tuple" its.toArray 0)).push (seqObj "list" #[] 0)).get? b = some o := fun b o e => by
    have hb : b ≠ a := fun z => by rw [z] at e; exact absurd (Heap.lt_size e) (Nat.not_lt.mpr hasz)
    exact Heap.get?_push_of_some _ (Heap.get?_push_of_some _ ((Heap.get?_update_ne _ _ _ _ hb).trans (copyHeap_old e)))
  have nkS : ((((copyHeap s.heap its).update a (Obj.mapSeq fun _ => (#[] : Array Value))).push (seqObj "tuple" its.toArray 0)).push (seqObj "list" #[] 0)).get? kS = some (seqObj "list" #[] 0) := by rw [← hkS]; exact Heap.get?_push_size _ rfl
  have na : ((((copyHeap s.heap its).update a (Obj.mapSeq fun _ => (#[] : Array Value))).push (seqObj "tuple" its.toArray 0)).push (seqObj "list" #[] 0)).get? a = some (seqObj "list" #[] e1) := Heap.get?_push_of_some _ (Heap.get?_push_of_some _ ho1)
  rw [hkS]
  generalize hh2 : (((copyHeap s.heap its).update a (Obj.mapSeq fun _ => (#[] : Array Value))).push (seqObj "tuple" its.toArray 0)).push (seqObj "list" #[] 0) = h2 at old nkS na ⊢
  have fr : ∀ b, s.heap.objs.size ≤ b → b ∉ frs X.stack := fun b hb z => by
    rcases List.mem_cons.mp (I.stkSub b z) with z | z
    · rw [z] at hb; exact absurd I.lt (Nat.not_lt.mpr hb)
    · exact I.nofs hb z
  unfold ksk_rest
  refine wpAny_bind (wpAny_rule ?_)
  first
    | rw [List.forIn_toArray]
    | (rw [← Array.forIn_toList]; simp only [List.toList_toArray])
    | rw [← Array.forIn_toList]
  refine wpAny_bind (ksk_fold (fun i s' => ∃ H' F' kvs kA e, Inv X pins σ H' s' ∧ Xt F H F' H' ∧ s'.heap.get? kS = some (seqObj "list" kA e) ∧ H' kS = none ∧ s'.heap.get? a = some (seqObj "list" #[] e1) ∧ H' a = none ∧ Vals kvs kA.toList ∧ DpAll X.K F' kvs (ks.take i)) its 0 _
    ⟨H, F, [], #[], 0, I.kept (t' := s.toks) old, Xt.refl hF, nkS, I.hok.fresh hksz, na, I.hok.fresh hasz, .nil, by rw [List.take_zero]; exact .nil⟩ ?step ?done)
  case step =>
    rintro i x s' hx ⟨H', F', kvs, kA, e, I', x1, nk', hk0, na', ha0, rk, dk⟩
    simp only [Nat.zero_add] at dk ⊢
    have hi : i < its.length := (List.getElem?_eq_some_iff.mp hx).1
    obtain ⟨v, hv, rvx⟩ : ∃ v, vs[i]? = some v ∧ RelV v x := by
      have hiv : i < vs.length := by omega
      exact ⟨vs[i], List.getElem?_eq_getElem hiv, by
        obtain ⟨u, hu, r⟩ := rv.get (List.getElem?_eq_getElem hiv)
        rw [hx] at hu; cases hu; exact r⟩
    obtain ⟨d, hdd, dv⟩ := dpsGet hd hv
    obtain ⟨k, hki, hMk⟩ := hk i d hdd
    have hkl : kA.size = i := by
      have h1 := rk.length
      have h2 := dpsLen dk
      have h3 : kA.toList.length = kA.size := Array.length_toList
      rw [List.length_take] at h2
      have h4 : min i ks.length = i := Nat.min_eq_left (by omega)
      rw [h4] at h2
      exact h3.symm.trans (h1.symm.trans h2)
    have hz1 : kA.size ≤ sizeLine := by omega
    have run : wpAny (model X.prog X.w) X.A.in1.in1 (call (.ref f) [x]) (CE X.stack X.prog X.w H' s' fun u H2 => ∃ F2, Xt F' H' F2 H2 ∧ Dp X.K F2 u k) (fun _ _ => False) s' := by
      have b := hb s' [x] I'.kIn rfl
      refine wpAny_call (codeAny_mono (G.run X.A.in1.in1 X.stack s' H' ⟨[x], []⟩ [x] [v] _ (fun _ _ _ => False) ((hr.in1).in1) I'.env0.in1.in1 b (.cons rvx .nil) (⟨rfl, [d], F', x1.fh, .cons (dpMono x1.f _ _ dv) .nil, by rw [hMk]; exact fun u F2 H2 y hd2 => ⟨F2, y, hd2⟩⟩ : spM X.K cl 1 M [v] H' (fun u H2 => ∃ F2, Xt F' H' F2 H2 ∧ Dp X.K F2 u k) fun _ _ _ => False)) fun r s2 hq => ?_)
      cases r with
      | error e =>
        obtain ⟨_, _, _, _, _, _, _, _, _, _, _, _, z⟩ := hq
        exact z
      | ok fl =>
        cases fl with
        | ret u => exact hq
        | next => exact False.elim hq
        | brk => exact False.elim hq
        | cont => exact False.elim hq
    refine wpAny_bind (wpAny_attempt (wpAny_mono run (fun u s2 hce => ?_) fun _ _ hF => hF.elim))
    obtain ⟨kv, H2, os, bare, un, hok, rku, F2, x2, dkv⟩ := hce
    try dsimp only
    have I2 : Inv X pins σ H2 s2 := I'.call' (ch := []) os un hok bare (fun _ z => nomatch z)
    have nk2 : s2.heap.get? kS = some (seqObj "list" kA e) := un.keep _ _ nk' hk0 (fr _ hksz) (by simp)
    have na2 : s2.heap.get? a = some (seqObj "list" #[] e1) := un.keep _ _ na' ha0 (fr _ hasz) (by simp)
    have hk2 : H2 kS = none := un.free _ _ nk' hk0 (by simp)
    have ha2 : H2 a = none := un.free _ _ na' ha0 (by simp)
    have s1 := Heap.SameBut.update s2.heap kS (Obj.mapSeq (·.push u))
    obtain ⟨c2, hc2⟩ : ∃ c2, (s2.heap.update kS (Obj.mapSeq (·.push u))).get? kS = some (seqObj "list" (kA.push u) c2) := ⟨_, get?_update_seq nk2 (·.push u)⟩
    have ek : ks.take (i + 1) = ks.take i ++ [k] := by rw [List.take_add_one, hki]; simp
    have ea : (kA.push u).toList = kA.toList ++ [u] := by simp
    refine wpAny_bind (listUpdate_at nk2 rfl ?_ hz1 (Nat.le_trans (Nat.le_of_eq (Array.size_push ..)) (Nat.succ_le_succ hz1)))
    obtain ⟨f0, f1, f2, f4, f5, f6⟩ := I.fpOk (H' := H2) hksz hk2
    have I3 := I2.turned (t' := s2.toks) (h' := s2.heap.update kS (Obj.mapSeq (·.push u))) (fun b o hb e => (s1.2 b hb).trans e) f0 f1 f4 f5 f6
    exact wpAny_pure ⟨rfl, H2, F2, kvs ++ [kv], kA.push u, c2, I3, x1.trans x2, hc2, hk2, (s1.2 a hka.symm).trans na2, ha2, by rw [ea]; exact rk.append (.cons rku .nil), by rw [ek]; exact dpsApp (dpsMono x2.f _ _ dk) (.cons dkv .nil)⟩
  case done =>
    rintro s' ⟨H', F', kvs, kA, e, I', x1, nk', hk0, na', ha0, rk, dk⟩
    have e3 : ks.take (0 + its.length) = ks := List.take_of_length_le (by omega)
    rw [e3] at dk
    have hk' : EachIs (fun v k => ∃ as, Reads s'.heap v k as) kA.toList ks := each_dp (F := F') I' rk (dpsMono x1.fh _ _ dk)
    have hsz : kA.size = its.length := by
      have h1 := hk'.length
      rw [Array.length_toList] at h1
      omega
    have hun := hr.un
    try dsimp only
    refine wpAny_bind (listItems_at nk' rfl ?_)
    refine keyH_end (κ := dataKind s'.heap ks) (h₁ := s'.heap.hide kS) (fun b o hb e => Heap.of_hide e) (Heap.hide_self _ _) nk' na' hka (SortsAt.data (s := s') hk' hal hsk fun d hd => ?_) hsz (by omega) fun h3 tk3 c k3 n3 => ?_
    · have := hdep d hd
      show X.A.units + 1 + 1 + d.depth < cLine
      omega
    · refine ⟨rfl, ?_⟩
      have ko : KeyedOut false ks its (sortVals (dataKind s'.heap ks) false kA.toList its) := ⟨s'.heap, kA.toList, hal, rfl, hk'⟩
      have hz3 : (zip3 vs ds ks).map (fun t => t.2.2) = ks := zip3_keys hdl hlen
      have eo := keyedOut_each (β := V × PyData × PyData) (bs := zip3 vs ds ks) (fun t => t.2.2) (by rw [hz3]; exact ko) (zip3_rel rv hdl hlen)
      generalize hts : (zip3 vs ds ks).mergeSort (dataLe false fun t => t.2.2) = ts at eo
      have hmem : ∀ t ∈ ts, Dp X.K F' t.1 t.2.1 := fun t ht => zip3_dp (dpsMono x1.f _ _ hd) t (by rw [← hts] at ht; exact (List.mergeSort_perm _ _).mem_iff.mp ht)
      have hdp := dps_of hmem
      have e9 : ts.map (fun t => t.2.1) = sortK ds ks := by rw [← hts]; exact zip3_sort hdl hlen
      rw [e9] at hdp
      have hvo := vals_of_each eo
      have holen : (ts.map (·.1)).length ≤ sizeLine := by
        have h1 := ko.length (by omega)
        have h2 := hvo.length
        omega
      have keep3 : ∀ b o, b ≠ a → b ≠ kS → s'.heap.get? b = some o → h3.get? b = some o := fun b o hb hb2 e => k3 b o hb ((Heap.hide_ne _ hb2).trans e)
      have hok3 : HOk X.prog X.w (upd H' a (.lst (ts.map (·.1)))) h3 := HOk.but2 I'.hok keep3 hk0 ha0 ⟨holen, _, c, hvo, n3⟩
      have un3 : Un (frs X.stack) [a, kS] H' (upd H' a (.lst (ts.map (·.1)))) s'.heap h3 := by
        refine ⟨fun b o e n _ hx => keep3 b o (fun z => hx (by simp [z])) (fun z => hx (by simp [z])) e, fun b o e n _ hx => ⟨o.slots, keep3 b o (fun z => hx (by simp [z])) (fun z => hx (by simp [z])) e⟩, fun b o e n hx => ?_, fun b o e hx => ⟨o, keep3 b o (fun z => hx (by simp [z])) (fun z => hx (by simp [z])) e⟩, fun b xs e => ?_, fun b o u e => ?_, fun b ps e => ⟨#[], ?_⟩⟩
        · rw [upd_ne (fun z => hx (by simp [z]))]; exact n
        · rw [upd_ne (ne_of_none e ha0)]; exact e
        · rw [upd_ne (ne_of_none e ha0)]; exact e
        · rw [upd_ne (ne_of_none e ha0), e]; simp
      have I4 : Inv X pins σ (upd H' a (.lst (ts.map (·.1)))) { s' with heap := h3, toks := tk3 } := I'.call' (ch := [a, kS]) (s' := { s' with heap := h3, toks := tk3 }) rfl un3 hok3 I'.bare (fun b hb => by
        have hbs : s.heap.objs.size ≤ b ∧ H' b = none := by
          simp only [List.mem_cons, List.not_mem_nil, or_false] at hb
          rcases hb with z | z
          · rw [z]; exact ⟨hasz, ha0⟩
          · rw [z]; exact ⟨hksz, hk0⟩
        obtain ⟨f0, f1, f2, f4, f5, f6⟩ := I.fpOk (H' := H') hbs.1 hbs.2
        exact ⟨f4, f1, f5, f6⟩)
      exact ⟨.ref a, _, I4, rfl, q _ a F' H' x1 ha0 hdp⟩
end
def keysM (M : DM) : List PyData → Option (List PyData)
  | [] => some []
  | d :: ds => match M [d] with
    | .ok k => (keysM M ds).map (k :: ·)
    | _ => none
theorem keysM_get {M : DM} : ∀ {ds ks : List PyData}, keysM M ds = some ks → ks.length = ds.length ∧ ∀ (i : Nat) (d : PyData), ds[i]? = some d → ∃ k, ks[i]? = some k ∧ M [d] = .ok k
  | [], ks, h => by
    cases h
    exact ⟨rfl, fun i d e => by simp at e⟩
  | d :: ds, ks, h => by
    unfold keysM at h
    cases hm : M [d] with
    | ok k =>
      rw [hm] at h
      simp only at h
      cases hk : keysM M ds with
      | none => rw [hk] at h; cases h
      | some q =>
        rw [hk] at h
        cases h
        obtain ⟨i1, i2⟩ := keysM_get hk
        refine ⟨by simp [i1], fun i e he => ?_⟩
        cases i with
        | zero =>
          simp only [List.getElem?_cons_zero, Option.some.injEq] at he
          subst he
          exact ⟨k, rfl, hm⟩
        | succ i =>
          simp only [List.getElem?_cons_succ] at he
          obtain ⟨k', h1, h2⟩ := i2 i e he
          exact ⟨k', by simpa using h1, h2⟩
    | exc c => rw [hm] at h; cases h
    | stuck => rw [hm] at h; cases h
def tupNe : PyData → Bool
  | .tuple (_ :: _) => true
  | _ => false
def goodK (ks : List PyData) : Bool := ks.all (fun k => ks.all fun k' => alike k k') && (ks.all tupNe && ks.all fun k => decide (k.depth ≤ 50))
def mSortK (M : DM) (m : EM) : EM := fun ρ => (m ρ).bind fun d => match d with
  | .list ds => match keysM M ds with
    | some ks => if goodK ks = true ∧ ds.length ≤ 100 then .ok (.list (sortK ds ks)) else .stuck
    | none => .stuck
  | _ => .stuck
/-- the key's def, the list -/
def rSortK (X : Cx) (cl : Ex → Value) (j : Nat) (M : DM) : List V → List V → Hp → VK → Prop := fun xs zs H Q => ∃ (l f : Addr) (fd : FuncData) (p1 : Str) (F : Hp) (vs : List V) (ds ks : List PyData), xs = [V.ref l] ∧ zs = [V.ref f] ∧ SqL X.K H l vs ∧ vs.length ≤ 100 ∧ PySem.W.keepIn X.K (.ref f) = true ∧ Binds X.K fd [p1] [] ∧
  FnOk X.prog X.w X.K X.mg X.base (L2.CX X.prog X.w) j f fd [p1] (spM X.K cl 1 M) ∧ Same F H ∧ DpAll X.K F vs ds ∧ (∀ (i : Nat) (d : PyData), ds[i]? = some d → ∃ k, ks[i]? = some k ∧ M [d] = .ok k) ∧ ks.length = ds.length ∧ AllAlike ks ∧ Sortable ks ∧ (∀ k ∈ ks, k.depth ≤ 50) ∧
  ∀ (out : List V) (p : Addr) (F' H' : Hp), Xt F H F' H' → H' p = none → DpAll X.K F' out (sortK ds ks) → Q (.ref p) (upd H' p (.lst out))
theorem cr_sortK {X : Cx} {cl : Ex → Value} {j : Nat} {M : DM} (hr : Room (j + 2) X.A) : CallRK X (.builtin "sorted") [Str.ofString "key"] (rSortK X cl j M) := by
  intro pins s σ H xs zs us ws Q I r rz h
  obtain ⟨l, f, fd, p1, F, vs, ds, ks, rfl, rfl, hs, hl, hkp, hb, G, hF, hd, hk, hlen, hal, hsk, hdep, q⟩ := h
  obtain rfl := Vals.ref1 r
  obtain rfl := Vals.ref1 rz
  exact sortKey_run I hs hl hkp hb G hr hF hd hk hlen hal hsk hdep q
theorem x_sortK {X : Cx} {C : Cst} {W : WX} {e : Expr} {m : EM} {M : DM} {x p1 : Str} {j J : Nat} {p p2 pos kpos : Pos} (hK : X.K = C.K) (c : Cal X.prog X.w X.K X.mg X.base C.cl x j [p1] M) (hr : Room J X.A) (hj : j + 2 ≤ J) (hg : Gl X "sorted") (hm : X.mg "sorted" = none) (hgx : Gl X x) (h : PE X e (tQ C W m))
    (hdx : (x == ("__debug__" : Str)) = false := by decide) (hs : starEach [e] X.env = (false, eval e X.env) :: starEach [] X.env := by rfl)
    (he : backTo pos (starEach [e] X.env) = (false, eval e X.env) :: backTo pos (starEach [] X.env) := by rfl) (hpl : (backTo pos (starEach [e] X.env)).any (·.1) = false := by rfl)
    (hall : (backToKw pos (keywordEach [⟨some (Str.ofString "key"), .Name x p2, kpos⟩] X.env)).all (·.1.isSome) = true := by rfl) (hnone : (backToKw pos (keywordEach [⟨some (Str.ofString "key"), .Name x p2, kpos⟩] X.env)).any (·.1.isNone) = false := by rfl) (hks : (backToKw pos (keywordEach [⟨some (Str.ofString "key"), .Name x p2, kpos⟩] X.env)).filterMap (·.1) = [Str.ofString "key"] := by rfl) :
    PE X (.Call (.Name "sorted" p) [e] [⟨some (Str.ofString "key"), .Name x p2, kpos⟩] pos) (tE C W (mSortK M m)) := by
  obtain ⟨f, fd, hmx, hkp, hb, G⟩ := c.ex
  refine pe_wk (pe_callBK (cr_sortK (cl := C.cl) (j := j) (M := M) (hr.mono hj)) hg hm (by decide +kernel) (pa_cons h pa_nil hs) (pk_cons (pe_glob (v := .ref f) hgx hmx rfl hdx) pk_nil) (by decide) (by decide) he hpl hall hnone hks) fun σ H Q ⟨ρ, F, ag, k⟩ => ⟨ρ, F, ag, RK.bind k fun d v F1 H1 x1 b1 k1 => ?_⟩
  cases d with
  | list ds =>
    obtain ⟨a, vs, rfl, h1, a1⟩ := b1.list x1.fh
    simp only at k1
    cases ek : keysM M ds with
    | none => rw [ek] at k1; exact False.elim k1
    | some ks =>
      rw [ek] at k1
      simp only at k1
      by_cases hgd : goodK ks = true ∧ ds.length ≤ 100
      · rw [if_pos hgd] at k1
        obtain ⟨hgk, hl⟩ := hgd
        unfold goodK at hgk
        simp only [Bool.and_eq_true, List.all_eq_true, decide_eq_true_eq] at hgk
        obtain ⟨g1, g2, g3⟩ := hgk
        obtain ⟨i1, i2⟩ := keysM_get ek
        refine ⟨a, f, fd, p1, F1, vs, ds, ks, rfl, rfl, hK ▸ h1, by rw [dpsLen a1]; exact hl, hkp, hb, G, x1.fh, hK ▸ a1, i2, i1, fun d hd d' hd' => g1 d hd d' hd', .inl fun d hd => ?_, g3, fun out p F' H' y hp hout => ?_⟩
        · have := g2 d hd
          cases d with
          | tuple xs =>
            cases xs with
            | nil => cases this
            | cons a b => exact ⟨a, b, rfl⟩
          | _ => cases this
        · have hout : DpAll C.K F' out (sortK ds ks) := hK ▸ hout
          have z := Xt.new (o := .lst out) y.fh hp
          exact k1 _ _ _ (y.trans z) (.lst (.inl (.inl upd_same)) (dpsMono z.f _ _ hout))
      · rw [if_neg hgd] at k1; exact False.elim k1
  | _ => exact False.elim k1
end Stm
set_option linter.all false
set_option maxRecDepth 100000
namespace Stm
open PySem PySem.Spec PyProof.Rows L2
/-- is_whole -/
def M_is_whole : DM := mFun 0 (sRet (mAndV (mIsi "int" (mVar 0)) (mNotV (mIsi "bool" (mVar 0)))))
/-- between -/
def M_between : DM := mFun 0 (sRet (mAndV (mCall M_is_whole (mCons (mVar 0) mNil)) (mCh dLe dLe (mVar 1) (mVar 0) (mVar 2))))
/-- is_row -/
def M_is_row : DM := mFun 1 (sSeq (sIf (mOr (mNot (mB (mIsi "tuple" (mVar 0)))) (mB (m2 dNe (mCB dLen (mCons (mVar 0) mNil)) (mVar 1)))) (sRet (mC (.bool false))) sNil) (sRet (mCB dAll (mCons (mLc [2] (iA (mVar 0)) (gN 2) mYes (mOrV (m2 dIsN (mVar 2) (mC .none)) (mCall M_between (mCons (mVar 2) (mCons (mC (.int 1)) (mCons (mC (.int 9999)) mNil)))))) mNil))))
/-- cells_of -/
def M_cells_of : DM := mFun 3 (sSeq (sOwnL 1 mNil) (sSeq (sFor (iR1 (mCons (mCB dLen (mCons (mVar 0) mNil)) mNil)) (gN 2) (sExt 1 (mLc [3] (iR1 (mCons (mCB dLen (mCons (m2 dIx (mVar 0) (mVar 2)) mNil)) mNil)) (gN 3) (mB (m2 dIsNotN (m2 dIx (m2 dIx (mVar 0) (mVar 2)) (mVar 3)) (mC .none))) (mTup (mCons (mVar 2) (mCons (mVar 3) mNil)))))) (sRetO 1)))
/-- is_sheet -/
def M_is_sheet : DM := mFun 1 (sSeq (sIf (mOr (mNot (mB (mIsi "tuple" (mVar 0)))) (mOr (mNot (mB (mCh dLe dLe (mC (.int 1)) (mCB dLen (mCons (mVar 0) mNil)) (mC (.int 5))))) (mNot (mB (mIsi "tuple" (m2 dIx (mVar 0) (mC (.int 0)))))))) (sRet (mC (.bool false))) sNil) (sSeq (sIf (mOr (mNot (mB (mCh dLe dLe (mC (.int 1)) (mCB dLen (mCons (m2 dIx (mVar 0) (mC (.int 0))) mNil)) (mC (.int 5))))) (mNot (mB (mCB dAll (mCons (mLc [1] (iA (mVar 0)) (gN 1) mYes (mCall M_is_row (mCons (mVar 1) (mCons (mCB dLen (mCons (m2 dIx (mVar 0) (mC (.int 0))) mNil)) mNil)))) mNil))))) (sRet (mC (.bool false))) sNil) (sRet (mCh dLe dLe (mC (.int 1)) (mCB dLen (mCons (mCall M_cells_of (mCons (mVar 0) mNil)) mNil)) (mC (.int 12))))))
/-- checked -/
def M_checked : DM := mFun 0 (sSeq (sIf (mNot (mB (mCall M_is_sheet (mCons (mVar 0) mNil)))) (sRaise .sheet) sNil) (sRet (mVar 0)))
/-- stamps -/
def M_stamps : DM := mFun 0 (sRet (mCall M_cells_of (mCons (mCall M_checked (mCons (mVar 0) mNil)) mNil)))
/-- need_cell -/
def M_need_cell : DM := mFun 0 (sSeq (sIf (mOr (mNot (mB (mIsi "tuple" (mVar 1)))) (mOr (mB (m2 dNe (mCB dLen (mCons (mVar 1) mNil)) (mC (.int 2)))) (mOr (mNot (mB (mCall M_is_whole (mCons (m2 dIx (mVar 1) (mC (.int 0))) mNil)))) (mNot (mB (mCall M_is_whole (mCons (m2 dIx (mVar 1) (mC (.int 1))) mNil))))))) (sRaise .cell) sNil) (sIf (mB (m2 dNotIn (mVar 1) (mCall M_cells_of (mCons (mVar 0) mNil)))) (sRaise .cell) sNil))
/-- around -/
def M_around : DM := mFun 2 (sSeq (sSet2 1 2 (mVar 0)) (sRet (mLst (mCons (mTup (mCons (m2 dSub (mVar 1) (mC (.int 1))) (mCons (mVar 2) mNil))) (mCons (mTup (mCons (mVar 1) (mCons (m2 dSub (mVar 2) (mC (.int 1))) mNil))) (mCons (mTup (mCons (mVar 1) (mCons (m2 dAdd (mVar 2) (mC (.int 1))) mNil))) (mCons (mTup (mCons (m2 dAdd (mVar 1) (mC (.int 1))) (mCons (mVar 2) mNil))) mNil)))))))
/-- near -/
def M_near : DM := mFun 2 (sSeq (sExpr (mCall M_checked (mCons (mVar 0) mNil))) (sSeq (sExpr (mCall M_need_cell (mCons (mVar 0) (mCons (mVar 1) mNil)))) (sSeq (sSet 2 (mCall M_cells_of (mCons (mVar 0) mNil))) (sRet (mLc [3] (iA (mCall M_around (mCons (mVar 1) mNil))) (gN 3) (mB (m2 dIn (mVar 3) (mVar 2))) (mVar 3))))))
/-- _law_cell_at -/
def M_law_cell_at : DM := mFun 0 (sSeq (sIf (mB (m2 dLt (mVar 1) (mCB dLen (mCons (mVar 0) mNil)))) (sRet (m2 dIx (mVar 0) (mVar 1))) sNil) (sSeq (sIf (mB (m2 dEq (mVar 0) (mLst mNil))) (sRet (mC (.int 0))) sNil) (sRet (m2 dAdd (m2 dMul (m2 dIx (mVar 0) (m2 dMod (mVar 1) (mCB dLen (mCons (mVar 0) mNil)))) (mC (.int 31))) (mVar 1)))))
/-- _law_mixed -/
def M_law_mixed : DM := mFun 1 (sSeq (sSet 3 (m2 dMod (m2 dMul (m2 dAdd (m2 dAdd (mCall M_law_cell_at (mCons (mVar 0) (mCons (mVar 1) mNil))) (m2 dMul (mC (.int 7919)) (mVar 1))) (mC (.int 1))) (mC (.int 48271))) (mC (.int 2147483647)))) (sRet (m2 dMod (m2 dMod (m2 dAdd (m2 dAdd (m2 dMul (mVar 3) (mVar 3)) (m2 dMul (mC (.int 7)) (mVar 3))) (mVar 1)) (mC (.int 2147483629))) (mVar 2))))
/-- _law_sheet -/
def M_law_sheet : DM := mFun 11 (sSeq (sSet 3 (m2 dAdd (mC (.int 1)) (mCall M_law_mixed (mCons (mVar 0) (mCons (mVar 1) (mCons (mC (.int 3)) mNil)))))) (sSeq (sSet 4 (m2 dAdd (mC (.int 1)) (mCall M_law_mixed (mCons (mVar 0) (mCons (m2 dAdd (mVar 1) (mC (.int 1))) (mCons (mC (.int 5)) mNil)))))) (sSeq (sSet 5 (m2 dIx (mLst (mCons (mC (.int 2)) (mCons (mC (.int 5)) (mCons (mC (.int 9)) (mCons (mC (.int 30)) (mCons (mC (.int 9999)) mNil)))))) (mCall M_law_mixed (mCons (mVar 0) (mCons (m2 dAdd (mVar 1) (mC (.int 2))) (mCons (mC (.int 5)) mNil)))))) (sSeq (sSet 6 (mCall M_law_mixed (mCons (mVar 0) (mCons (m2 dAdd (mVar 1) (mC (.int 3))) (mCons (mC (.int 4)) mNil))))) (sSeq (sSet 7 (mVar 2)) (sSeq (sOwnL 8 mNil) (sSeq (sFor (iR1 (mCons (mVar 3) mNil)) (gN 9) (sSeq (sOwnL 10 mNil) (sSeq (sFor (iR1 (mCons (mVar 4) mNil)) (gN 11) (sSeq (sSet 12 (mCall M_law_mixed (mCons (mVar 0) (mCons (m2 dAdd (m2 dAdd (m2 dAdd (mVar 1) (mC (.int 4))) (m2 dMul (mVar 4) (mVar 9))) (mVar 11)) (mCons (m2 dMul (mC (.int 10)) (mVar 5)) mNil))))) (sSeq (sSet 13 (m2 dAdd (mC (.int 1)) (m2 dFdiv (mVar 12) (mC (.int 10))))) (sSeq (sIf (mOr (mB (m2 dEq (mVar 7) (mC (.int 0)))) (mAnd (mB (m2 dLt (m2 dMod (mVar 12) (mC (.int 10))) (mVar 6))) (mOr (mB (m2 dLt (mVar 7) (mVar 2))) (mOr (mB (m2 dLt (m2 dAdd (mVar 9) (mC (.int 1))) (mVar 3))) (mB (m2 dLt (m2 dAdd (mVar 11) (mC (.int 1))) (mVar 4))))))) (sSet 13 (mC .none)) (sSet 7 (m2 dSub (mVar 7) (mC (.int 1))))) (sApp 10 (mVar 13)))))) (sApp 8 (mCB dToTup (mCons (mOwn 10) mNil)))))) (sRet (mCB dToTup (mCons (mOwn 8) mNil))))))))))
/-- _law_cells -/
def M_law_cells : DM := mFun 3 (sSeq (sOwnL 1 mNil) (sSeq (sFor (iR1 (mCons (mCB dLen (mCons (mVar 0) mNil)) mNil)) (gN 2) (sFor (iR1 (mCons (mCB dLen (mCons (m2 dIx (mVar 0) (mVar 2)) mNil)) mNil)) (gN 3) (sIf (mB (m2 dIsNotN (m2 dIx (m2 dIx (mVar 0) (mVar 2)) (mVar 3)) (mC .none))) (sApp 1 (mTup (mCons (mVar 2) (mCons (mVar 3) mNil)))) sNil))) (sRetO 1)))
/-- _law_beside -/
def M_law_beside : DM := mFun 0 (sRet (m2 dEq (m2 dAdd (mCB dAbs (mCons (m2 dSub (m2 dIx (mVar 0) (mC (.int 0))) (m2 dIx (mVar 1) (mC (.int 0)))) mNil)) (mCB dAbs (mCons (m2 dSub (m2 dIx (mVar 0) (mC (.int 1))) (m2 dIx (mVar 1) (mC (.int 1)))) mNil))) (mC (.int 1))))
/-- need_number -/
def M_need_number : DM := mFun 0 (sIf (mNot (mB (mCall M_between (mCons (mVar 0) (mCons (mC (.int 1)) (mCons (mVar 1) mNil)))))) (sRaise .number) sNil)
/-- grown -/
def M_grown : DM := mFun 4 (sSeq (sNewDT 2) (sSeq (sFor (iA (mVar 1)) (gN 3) (sFor (iA (mVar 3)) (gN 4) (sFor (iA (mCall M_around (mCons (mVar 4) mNil))) (gN 5) (sIf (mAnd (mB (m2 dIn (mVar 5) (mVar 0))) (mB (m2 dNotIn (mVar 5) (mVar 3)))) (sPutT 2 (mCB dToTup (mCons (mCB dSorted (mCons (m2 dAdd (mVar 3) (mTup (mCons (mVar 5) mNil))) mNil)) mNil))) sNil)))) (sRet (mCB dSorted (mCons (mDLT 2) mNil)))))
/-- by_sizes -/
def M_by_sizes : DM := mFun 3 (sSeq (sSet 2 (mCall M_cells_of (mCons (mVar 0) mNil))) (sSeq (sOwnL 3 (mCons (mLc [4] (iA (mVar 2)) (gN 4) mYes (mTup (mCons (mVar 4) mNil))) mNil)) (sSeq (sWh 100 (mB (m2 dLt (mCB dLen (mCons (mOwn 3) mNil)) (mCB dMin2 (mCons (mVar 1) (mCons (mCB dLen (mCons (mVar 2) mNil)) mNil))))) (sApp 3 (mCall M_grown (mCons (mVar 2) (mCons (m2 dIx (mOwn 3) (mC (.int (-1)))) mNil))))) (sRetO 3))))
/-- pieces_of -/
def M_pieces_of : DM := mFun 2 (sSeq (sOwnL 2 mNil) (sSeq (sFor (iA (mCall M_by_sizes (mCons (mVar 0) (mCons (mVar 1) mNil)))) (gN 3) (sExt 2 (mVar 3))) (sRetO 2)))
/-- pieces -/
def M_pieces : DM := mFun 0 (sSeq (sExpr (mCall M_checked (mCons (mVar 0) mNil))) (sSeq (sExpr (mCall M_need_number (mCons (mVar 1) (mCons (mC (.int 12)) mNil)))) (sRet (mCall M_pieces_of (mCons (mVar 0) (mCons (mVar 1) mNil))))))
/-- counts -/
def M_counts : DM := mFun 1 (sSeq (sExpr (mCall M_checked (mCons (mVar 0) mNil))) (sRet (mLc [1] (iA (mCall M_by_sizes (mCons (mVar 0) (mCons (mC (.int 12)) mNil)))) (gN 1) mYes (mCB dLen (mCons (mVar 1) mNil)))))
/-- _law_hangs -/
def M_law_hangs : DM := mFun 3 (sSeq (sOwnL 1 (mCons (m2 dIx (mVar 0) (mC (.int 0))) mNil)) (sSeq (sSet 2 (mC (.int 0))) (sSeq (sWh 100 (mB (m2 dLt (mVar 2) (mCB dLen (mCons (mOwn 1) mNil)))) (sSeq (sExt 1 (mLc [3] (iA (mVar 0)) (gN 3) (mAnd (mB (m2 dNotIn (mVar 3) (mOwn 1))) (mB (mCall M_law_beside (mCons (mVar 3) (mCons (m2 dIx (mOwn 1) (mVar 2)) mNil))))) (mVar 3))) (sSet 2 (m2 dAdd (mVar 2) (mC (.int 1)))))) (sRet (m2 dEq (mCB dLen (mCons (mOwn 1) mNil)) (mCB dLen (mCons (mVar 0) mNil)))))))
/-- _law_all -/
def M_law_all : DM := mFun 5 (sSeq (sSet 1 (mLst (mCons (mTup mNil) mNil))) (sSeq (sFor (iA (mCall M_law_cells (mCons (mVar 0) mNil))) (gN 2) (sSet 1 (m2 dAdd (mVar 1) (mLc [4] (iA (mVar 1)) (gN 4) mYes (m2 dAdd (mVar 4) (mTup (mCons (mVar 2) mNil))))))) (sSeq (sSet 3 (mLc [4] (iA (mVar 1)) (gN 4) (mAnd (mB (m2 dNe (mVar 4) (mTup mNil))) (mB (mCall M_law_hangs (mCons (mVar 4) mNil)))) (mTup (mCons (mCB dLen (mCons (mVar 4) mNil)) (mCons (mVar 4) mNil))))) (sRet (mLc [5] (iA (mCB dSorted (mCons (mVar 3) mNil))) (gN 5) mYes (m2 dIx (mVar 5) (mC (.int 1))))))))
/-- is_cell -/
def M_is_cell : DM := mFun 0 (sRet (mAndV (mIsi "tuple" (mVar 0)) (mAndV (m2 dEq (mCB dLen (mCons (mVar 0) mNil)) (mC (.int 2))) (mAndV (mCall M_is_whole (mCons (m2 dIx (mVar 0) (mC (.int 0))) mNil)) (mCall M_is_whole (mCons (m2 dIx (mVar 0) (mC (.int 1))) mNil))))))
/-- is_rising -/
def M_is_rising : DM := mFun 2 (sSeq (sIf (mOr (mNot (mB (mIsi "tuple" (mVar 1)))) (mOr (mB (m2 dEq (mVar 1) (mTup mNil))) (mNot (mB (mCB dAll (mCons (mLc [2] (iA (mVar 1)) (gN 2) mYes (mAndV (mCall M_is_cell (mCons (mVar 2) mNil)) (m2 dIn (mVar 2) (mVar 0)))) mNil)))))) (sRet (mC (.bool false))) sNil) (sRet (mCB dAll (mCons (mLc [3] (iR1 (mCons (m2 dSub (mCB dLen (mCons (mVar 1) mNil)) (mC (.int 1))) mNil)) (gN 3) mYes (m2 dLtT (m2 dIx (mVar 1) (mVar 3)) (m2 dIx (mVar 1) (m2 dAdd (mVar 3) (mC (.int 1)))))) mNil))))
/-- sum_of -/
def M_sum_of : DM := mFun 2 (sRet (mCB dSum (mCons (mLc [2, 3] (iA (mVar 1)) (gN2 2 3) mYes (m2 dIx (m2 dIx (mVar 0) (mVar 2)) (mVar 3))) mNil)))
/-- _law_worth -/
def M_law_worth : DM := mFun 1 (sRet (mCB dSum (mCons (mLc [2] (iA (mVar 1)) (gN 2) mYes (m2 dIx (m2 dIx (mVar 0) (m2 dIx (mVar 2) (mC (.int 0)))) (m2 dIx (mVar 2) (mC (.int 1))))) mNil)))
/-- worths_of -/
def M_worths_of : DM := mFun 2 (sSeq (sNewDI 2) (sSeq (sFor (iA (mCall M_pieces_of (mCons (mVar 0) (mCons (mVar 1) mNil)))) (gN 3) (sPutI 2 (mCall M_sum_of (mCons (mVar 0) (mCons (mVar 3) mNil))))) (sRet (mCB dSorted (mCons (mDLI 2) mNil)))))
/-- worths -/
def M_worths : DM := mFun 0 (sSeq (sExpr (mCall M_checked (mCons (mVar 0) mNil))) (sSeq (sExpr (mCall M_need_number (mCons (mVar 1) (mCons (mC (.int 12)) mNil)))) (sRet (mCall M_worths_of (mCons (mVar 0) (mCons (mVar 1) mNil))))))
/-- missing_of -/
def M_missing_of : DM := mFun 2 (sSeq (sSet 2 (mC (.int 1))) (sSeq (sFor (iA (mCall M_worths_of (mCons (mVar 0) (mCons (mVar 1) mNil)))) (gN 3) (sIf (mB (m2 dEq (mVar 3) (mVar 2))) (sSet 2 (m2 dAdd (mVar 2) (mC (.int 1)))) sNil)) (sRet (mVar 2))))
/-- first_missing -/
def M_first_missing : DM := mFun 0 (sSeq (sExpr (mCall M_checked (mCons (mVar 0) mNil))) (sSeq (sExpr (mCall M_need_number (mCons (mVar 1) (mCons (mC (.int 12)) mNil)))) (sRet (mCall M_missing_of (mCons (mVar 0) (mCons (mVar 1) mNil))))))
/-- _law_worths -/
def M_law_worths : DM := mFun 1 (sRet (mSortSet (mLc [2] (iA (mCall M_law_all (mCons (mVar 0) mNil))) (gN 2) (mB (m2 dLe (mCB dLen (mCons (mVar 2) mNil)) (mVar 1))) (mCall M_law_worth (mCons (mVar 0) (mCons (mVar 2) mNil))))))
/-- _law_missing -/
def M_law_missing : DM := mFun 2 (sSeq (sSet 2 (mCall M_law_worths (mCons (mVar 0) (mCons (mVar 1) mNil)))) (sSeq (sSet 3 (mC (.int 1))) (sSeq (sWh 5000 (mB (m2 dIn (mVar 3) (mVar 2))) (sSet 3 (m2 dAdd (mVar 3) (mC (.int 1))))) (sRet (mVar 3)))))
/-- _law_whole -/
def M_law_whole : DM := mFun 0 (sRet (mAndV (mIsi "int" (mVar 0)) (mNotV (mIsi "bool" (mVar 0)))))
/-- piece_for -/
def M_piece_for : DM := mFun 1 (sSeq (sExpr (mCall M_checked (mCons (mVar 0) mNil))) (sSeq (sIf (mOr (mNot (mB (mCall M_is_whole (mCons (mVar 1) mNil)))) (mB (m2 dLt (mVar 1) (mC (.int 1))))) (sRaise .number) sNil) (sSeq (sFor (iA (mCall M_pieces_of (mCons (mVar 0) (mCons (mC (.int 12)) mNil)))) (gN 2) (sIf (mB (m2 dEq (mCall M_sum_of (mCons (mVar 0) (mCons (mVar 2) mNil))) (mVar 1))) (sRet (mVar 2)) sNil)) (sRet (mC .none)))))
/-- put -/
def M_put : DM := mFun 2 (sSeq (sGrid 3 4 (iA (mVar 0)) (m2 dIx (mVar 1) (mC (.int 0))) (m2 dIx (mVar 1) (mC (.int 1))) (mVar 2)) (sRet (mCB dToTup (mCons (mLc [4] (iA (mVar 3)) (gN 4) mYes (mCB dToTup (mCons (mVar 4) mNil))) mNil))))
/-- needless -/
def M_needless : DM := mFun 3 (sSeq (sExpr (mCall M_checked (mCons (mVar 0) mNil))) (sSeq (sSet 1 (mCall M_cells_of (mCons (mVar 0) mNil))) (sSeq (sSet 2 (mCall M_missing_of (mCons (mVar 0) (mCons (mC (.int 12)) mNil)))) (sRet (mLc [3] (iA (mVar 1)) (gN 3) (mAnd (mB (m2 dGt (mCB dLen (mCons (mVar 1) mNil)) (mC (.int 1)))) (mB (m2 dGe (mCall M_missing_of (mCons (mCall M_put (mCons (mVar 0) (mCons (mVar 3) (mCons (mC .none) mNil)))) (mCons (mC (.int 12)) mNil))) (mVar 2)))) (mVar 3))))))
/-- _law_put -/
def M_law_put : DM := mFun 2 (sSeq (sGrid 3 4 (iA (mVar 0)) (m2 dIx (mVar 1) (mC (.int 0))) (m2 dIx (mVar 1) (mC (.int 1))) (mVar 2)) (sRet (mCB dToTup (mCons (mLc [4] (iA (mVar 3)) (gN 4) mYes (mCB dToTup (mCons (mVar 4) mNil))) mNil))))
/-- changed -/
def M_changed : DM := mFun 0 (sSeq (sExpr (mCall M_checked (mCons (mVar 0) mNil))) (sSeq (sExpr (mCall M_need_cell (mCons (mVar 0) (mCons (mVar 1) mNil)))) (sSeq (sExpr (mCall M_need_number (mCons (mVar 2) (mCons (mC (.int 9999)) mNil)))) (sRet (mCall M_put (mCons (mVar 0) (mCons (mVar 1) (mCons (mVar 2) mNil))))))))
/-- gone_and_come -/
def M_gone_and_come : DM := mFun 8 (sSeq (sExpr (mCall M_checked (mCons (mVar 0) mNil))) (sSeq (sExpr (mCall M_need_number (mCons (mVar 1) (mCons (mC (.int 12)) mNil)))) (sSeq (sExpr (mCall M_need_cell (mCons (mVar 0) (mCons (mVar 2) mNil)))) (sSeq (sExpr (mCall M_need_number (mCons (mVar 3) (mCons (mC (.int 9999)) mNil)))) (sSeq (sSet 4 (m2 dSub (mVar 3) (m2 dIx (m2 dIx (mVar 0) (m2 dIx (mVar 2) (mC (.int 0)))) (m2 dIx (mVar 2) (mC (.int 1)))))) (sSeq (sNewDI 5) (sSeq (sNewDI 6) (sSeq (sNewDI 7) (sSeq (sFor (iA (mCall M_pieces_of (mCons (mVar 0) (mCons (mVar 1) mNil)))) (gN 8) (sSeq (sSet 9 (mCall M_sum_of (mCons (mVar 0) (mCons (mVar 8) mNil)))) (sIf (mB (m2 dIn (mVar 2) (mVar 8))) (sSeq (sPutI 6 (mVar 9)) (sPutI 7 (m2 dAdd (mVar 9) (mVar 4)))) (sPutI 5 (mVar 9))))) (sSeq (sSetLcK 10 6 [9] (gN 9) (mAnd (mB (mInNI 5 (mVar 9))) (mB (mInNI 7 (mVar 9)))) (mVar 9)) (sSeq (sSetLcK 11 7 [9] (gN 9) (mAnd (mB (mInNI 5 (mVar 9))) (mB (mInNI 6 (mVar 9)))) (mVar 9)) (sRet (mTup (mCons (mCB dSorted (mCons (mVar 10) mNil)) (mCons (mCB dSorted (mCons (mVar 11) mNil)) mNil)))))))))))))))
/-- need_wants -/
def M_need_wants : DM := mFun 1 (sSeq (sIf (mOr (mNot (mB (mIsi "list" (mVar 0)))) (mNot (mB (mCh dLe dLe (mC (.int 1)) (mCB dLen (mCons (mVar 0) mNil)) (mC (.int 12)))))) (sRaise .wants) sNil) (sIf (mNot (mB (mCB dAll (mCons (mLc [1] (iA (mVar 0)) (gN 1) mYes (mAndV (mCall M_is_whole (mCons (mVar 1) mNil)) (m2 dGe (mVar 1) (mC (.int 1))))) mNil)))) (sRaise .wants) sNil))
/-- pieces_with -/
def M_pieces_with : DM := mFun 3 (sSeq (sSet 3 (mLst (mCons (mCut (mVar 1) mNoPart (mPart (mC (.int 1)))) mNil))) (sSeq (sOwnL 4 mNil) (sSeq (sWh 100 (mB (m2 dNe (mVar 3) (mLst mNil))) (sSeq (sExt 4 (mLc [5] (iA (mVar 3)) (gN 5) (mB (m2 dIn (mCall M_sum_of (mCons (mVar 0) (mCons (mVar 5) mNil))) (mVar 2))) (mVar 5))) (sSet 3 (mLc [5] (iA (mCall M_grown (mCons (mVar 1) (mCons (mVar 3) mNil)))) (gN 5) (mB (m2 dLe (mCall M_sum_of (mCons (mVar 0) (mCons (mVar 5) mNil))) (mCB dMax (mCons (mVar 2) mNil)))) (mVar 5))))) (sRetO 4))))
/-- inner -/
def M_inner : DM := mFun 2 (sRet (m2 dFdiv (mCB dSum (mCons (mLc [1] (iA (mVar 0)) (gN 1) mYes (mCB dLen (mCons (mLc [2] (iA (mCall M_around (mCons (mVar 1) mNil))) (gN 2) (mB (m2 dIn (mVar 2) (mVar 0))) (mVar 2)) mNil))) mNil)) (mC (.int 2))))
/-- told -/
def M_told : DM := mFun 2 (sSeq (sIf (mB (m2 dIsN (mVar 0) (mC .none))) (sRet (mC .none)) sNil) (sRet (mLc [1, 2] (iA (mCB dSorted (mCons (m2 dIx (mVar 0) (mC (.int 1))) mNil))) (gN2 1 2) mYes (mVar 2))))
/-- _law_parted -/
def M_law_parted : DM := mFun 6 (sSeq (sSet 3 (mCall M_law_all (mCons (mVar 2) mNil))) (sSeq (sSet 4 (mCall M_law_cells (mCons (mVar 2) mNil))) (sSeq (sOwnL 5 mNil) (sSeq (sWh 100 (mB (m2 dNe (mVar 4) (mLst mNil))) (sSeq (sSet 6 (mLc [7] (iA (mVar 3)) (gN 7) (mAnd (mB (m2 dEq (m2 dIx (mVar 7) (mC (.int 0))) (m2 dIx (mVar 4) (mC (.int 0))))) (mB (m2 dEq (mLc [8] (iA (mVar 7)) (gN 8) (mB (m2 dNotIn (mVar 8) (mVar 4))) (mVar 8)) (mLst mNil)))) (mVar 7))) (sSeq (sSet 7 (m2 dIx (mVar 6) (mCall M_law_mixed (mCons (mVar 0) (mCons (m2 dAdd (mVar 1) (mCB dLen (mCons (mOwn 5) mNil))) (mCons (mCB dMin2 (mCons (mCB dLen (mCons (mVar 6) mNil)) (mCons (mC (.int 9)) mNil))) mNil)))))) (sSeq (sApp 5 (mVar 7)) (sSet 4 (mLc [8] (iA (mVar 4)) (gN 8) (mB (m2 dNotIn (mVar 8) (mVar 7))) (mVar 8))))))) (sRetO 5)))))
/-- _law_wants -/
def M_law_wants : DM := mFun 5 (sSeq (sSet 3 (mLc [6] (iA (mCall M_law_parted (mCons (mVar 0) (mCons (mVar 1) (mCons (mVar 2) mNil))))) (gN 6) mYes (mCall M_law_worth (mCons (mVar 2) (mCons (mVar 6) mNil))))) (sSeq (sSet 4 (mCall M_law_mixed (mCons (mVar 0) (mCons (m2 dAdd (mVar 1) (mC (.int 8))) (mCons (mCB dLen (mCons (mVar 3) mNil)) mNil))))) (sSeq (sSet 3 (m2 dAdd (mCut (mVar 3) (mPart (mVar 4)) mNoPart) (mCut (mVar 3) mNoPart (mPart (mVar 4))))) (sSeq (sSet 5 (mCall M_law_mixed (mCons (mVar 0) (mCons (m2 dAdd (mVar 1) (mC (.int 9))) (mCons (mC (.int 4)) mNil))))) (sSeq (sIf (mAnd (mB (m2 dEq (mVar 5) (mC (.int 1)))) (mAnd (mB (m2 dGt (mCB dLen (mCons (mVar 3) mNil)) (mC (.int 1)))) (mB (m2 dGt (m2 dIx (mVar 3) (mC (.int 0))) (mC (.int 1)))))) (sSet 3 (m2 dAdd (mLst (mCons (m2 dSub (m2 dIx (mVar 3) (mC (.int 0))) (mC (.int 1))) (mCons (m2 dAdd (m2 dIx (mVar 3) (mC (.int 1))) (mC (.int 1))) mNil))) (mCut (mVar 3) (mPart (mC (.int 2))) mNoPart))) sNil) (sSeq (sIf (mB (m2 dEq (mVar 5) (mC (.int 2)))) (sSet 3 (mLc [7] (iR1 (mCons (m2 dAdd (mC (.int 1)) (mCall M_law_mixed (mCons (mVar 0) (mCons (m2 dAdd (mVar 1) (mC (.int 15))) (mCons (mC (.int 4)) mNil))))) mNil)) (gN 7) mYes (m2 dAdd (mC (.int 1)) (mCall M_law_mixed (mCons (mVar 0) (mCons (m2 dAdd (m2 dAdd (mVar 1) (mC (.int 10))) (mVar 7)) (mCons (mC (.int 9)) mNil))))))) sNil) (sRet (mVar 3))))))))
/-- reaches -/
def M_reaches : DM := mFun 4 (sSeq (sNewDI 2) (sSeq (sFor (iR1 (mCons (mCB dLen (mCons (mVar 0) mNil)) mNil)) (gN 3) (sSeq (sSet 4 (mC (.int 0))) (sFor (iA (mCut (mVar 0) (mPart (mVar 3)) mNoPart)) (gN 5) (sSeq (sSet 4 (m2 dAdd (mVar 4) (mVar 5))) (sPutI 2 (mVar 4)))))) (sRet (mCB dAll (mCons (mLc [4] (iR2 (mCons (mC (.int 1)) (mCons (m2 dAdd (mVar 1) (mC (.int 1))) mNil))) (gN 4) mYes (mInI 2 (mVar 4))) mNil)))))
/-- rows_of -/
def M_rows_of : DM := mFun 5 (sSeq (sSet 2 (mLst (mCons (mTup mNil) mNil))) (sSeq (sFor (iR1 (mCons (mVar 0) mNil)) (gN 3) (sSeq (sOwnL 4 mNil) (sSeq (sFor (iA (mVar 2)) (gN 5) (sExt 4 (mLc [6] (iR2 (mCons (mC (.int 1)) (mCons (m2 dAdd (mVar 1) (mC (.int 1))) mNil))) (gN 6) mYes (m2 dAdd (mVar 5) (mTup (mCons (mVar 6) mNil)))))) (sMove 2 4)))) (sRet (mVar 2))))
/-- best_strip -/
def M_best_strip : DM := mFun 2 (sSeq (sExpr (mCall M_need_number (mCons (mVar 0) (mCons (mC (.int 4)) mNil)))) (sSeq (sSet 1 (m2 dFdiv (m2 dMul (mVar 0) (m2 dAdd (mVar 0) (mC (.int 1)))) (mC (.int 2)))) (sWh 100 (mB (mC (.bool true))) (sSeq (sFor (iA (mCall M_rows_of (mCons (mVar 0) (mCons (mVar 1) mNil)))) (gN 2) (sIf (mB (mCall M_reaches (mCons (mVar 2) (mCons (mVar 1) mNil)))) (sRet (mTup (mCons (mVar 1) (mCons (mVar 2) mNil)))) sNil)) (sSet 1 (m2 dSub (mVar 1) (mC (.int 1))))))))
/-- _law_reaches -/
def M_law_reaches : DM := mFun 4 (sSeq (sOwnL 2 mNil) (sSeq (sFor (iR1 (mCons (mCB dLen (mCons (mVar 0) mNil)) mNil)) (gN 3) (sExt 2 (mLc [4] (iR2 (mCons (m2 dAdd (mVar 3) (mC (.int 1))) (mCons (m2 dAdd (mCB dLen (mCons (mVar 0) mNil)) (mC (.int 1))) mNil))) (gN 4) mYes (mCB dSumT (mCons (mCut (mVar 0) (mPart (mVar 3)) (mPart (mVar 4))) mNil))))) (sRet (m2 dEq (mLc [5] (iR2 (mCons (mC (.int 1)) (mCons (m2 dAdd (mVar 1) (mC (.int 1))) mNil))) (gN 5) (mB (m2 dNotIn (mVar 5) (mOwn 2))) (mVar 5)) (mLst mNil)))))
/-- _law_rows -/
def M_law_rows : DM := mFun 5 (sSeq (sSet 2 (mLst (mCons (mTup mNil) mNil))) (sSeq (sFor (iR1 (mCons (mVar 0) mNil)) (gN 3) (sSeq (sOwnL 4 mNil) (sSeq (sFor (iA (mVar 2)) (gN 5) (sExt 4 (mLc [6] (iR2 (mCons (mC (.int 1)) (mCons (m2 dAdd (mVar 1) (mC (.int 1))) mNil))) (gN 6) mYes (m2 dAdd (mVar 5) (mTup (mCons (mVar 6) mNil)))))) (sMove 2 4)))) (sRet (mVar 2))))
/-- turned_once -/
def M_turned_once : DM := mFun 2 (sRet (mCB dToTup (mCons (mLc [1] (iR1 (mCons (mCB dLen (mCons (m2 dIx (mVar 0) (mC (.int 0))) mNil)) mNil)) (gN 1) mYes (mCB dToTup (mCons (mLc [2] (iRev (mVar 0)) (gN 2) mYes (m2 dIx (mVar 2) (mVar 1))) mNil))) mNil)))
/-- turned -/
def M_turned : DM := mFun 0 (sRet (mCall M_turned_once (mCons (mCall M_checked (mCons (mVar 0) mNil)) mNil)))
/-- _law_turned -/
def M_law_turned : DM := mFun 3 (sSeq (sOwnL 1 mNil) (sSeq (sFor (iR1 (mCons (mCB dLen (mCons (m2 dIx (mVar 0) (mC (.int 0))) mNil)) mNil)) (gN 2) (sApp 1 (mCB dToTup (mCons (mLc [3] (iR1 (mCons (mCB dLen (mCons (mVar 0) mNil)) mNil)) (gN 3) mYes (m2 dIx (m2 dIx (mVar 0) (m2 dSub (m2 dSub (mCB dLen (mCons (mVar 0) mNil)) (mC (.int 1))) (mVar 3))) (mVar 2))) mNil)))) (sRet (mCB dToTup (mCons (mOwn 1) mNil)))))
/-- _law_with_cell -/
def M_law_with_cell : DM := mFun 0 (sSeq (sIf (mB (m2 dEq (mVar 0) (mC (.int 0)))) (sRet (mCall M_near (mCons (mVar 1) (mCons (mVar 2) mNil)))) sNil) (sSeq (sIf (mB (m2 dEq (mVar 0) (mC (.int 1)))) (sRet (mCall M_changed (mCons (mVar 1) (mCons (mVar 2) (mCons (mVar 3) mNil))))) sNil) (sRet (mCall M_gone_and_come (mCons (mVar 1) (mCons (mC (.int 12)) (mCons (mVar 2) (mCons (mVar 3) mNil))))))))
/-- _law_with_worth -/
def M_law_with_worth : DM := mFun 0 (sSeq (sIf (mB (m2 dEq (mVar 0) (mC (.int 0)))) (sRet (mCall M_changed (mCons (mVar 1) (mCons (mVar 2) (mCons (mVar 3) mNil))))) sNil) (sRet (mCall M_gone_and_come (mCons (mVar 1) (mCons (mC (.int 3)) (mCons (mVar 2) (mCons (mVar 3) mNil)))))))
end Stm
set_option linter.all false
set_option maxRecDepth 100000
namespace Stm
open PySem PySem.Spec PyProof.Rows L2
/-- hangs -/
def M_hangs : DM := mFun 3 (sSeq (sNewD1T 1 (m2 dIx (mVar 0) (mC (.int 0)))) (sSeq (sOwnL 2 (mCons (m2 dIx (mVar 0) (mC (.int 0))) mNil)) (sSeq (sWh 100 (mB (m2 dNe (mOwn 2) (mLst mNil))) (sForPop 2 M_around (gN 3) (sIf (mAnd (mB (m2 dIn (mVar 3) (mVar 0))) (mB (mInNT 1 (mVar 3)))) (sSeq (sPutT 1 (mVar 3)) (sApp 2 (mVar 3))) sNil))) (sRet (m2 dEq (mDNT 1) (mCB dLen (mCons (mVar 0) mNil)))))))
/-- is_one -/
def M_is_one : DM := mFun 0 (sRet (mAndV (mCall M_is_rising (mCons (mCall M_cells_of (mCons (mVar 0) mNil)) (mCons (mVar 1) mNil))) (mCall M_hangs (mCons (mVar 1) mNil))))
/-- is_piece -/
def M_is_piece : DM := mFun 0 (sSeq (sExpr (mCall M_checked (mCons (mVar 0) mNil))) (sRet (mCall M_is_one (mCons (mVar 0) (mCons (mVar 1) mNil)))))
/-- worth -/
def M_worth : DM := mFun 0 (sSeq (sExpr (mCall M_checked (mCons (mVar 0) mNil))) (sSeq (sIf (mNot (mB (mCall M_is_one (mCons (mVar 0) (mCons (mVar 1) mNil))))) (sRaise .piece) sNil) (sRet (mCall M_sum_of (mCons (mVar 0) (mCons (mVar 1) mNil))))))
/-- _law_inner -/
def M_law_inner : DM := mFun 3 (sSeq (sSet 1 (mC (.int 0))) (sSeq (sFor (iA (mVar 0)) (gN 2) (sFor (iA (mVar 0)) (gN 3) (sSet 1 (m2 dAdd (mVar 1) (mCB dToIntA (mCons (mAndV (m2 dLtT (mVar 2) (mVar 3)) (mCall M_law_beside (mCons (mVar 2) (mCons (mVar 3) mNil)))) mNil)))))) (sRet (mVar 1))))
/-- tears -/
def M_tears : DM := mFun 2 (sSeq (sExpr (mCall M_checked (mCons (mVar 0) mNil))) (sSeq (sIf (mOr (mNot (mB (mIsi "list" (mVar 1)))) (mNot (mB (mCB dAll (mCons (mLc [3] (iA (mVar 1)) (gN 3) mYes (mCall M_is_one (mCons (mVar 0) (mCons (mVar 3) mNil)))) mNil))))) (sRaise .piece) sNil) (sSeq (sOwnL 2 mNil) (sSeq (sFor (iA (mVar 1)) (gN 3) (sExt 2 (mCB dToList (mCons (mVar 3) mNil)))) (sSeq (sIf (mB (m2 dNe (mCB dSorted (mCons (mOwn 2) mNil)) (mCall M_cells_of (mCons (mVar 0) mNil)))) (sRaise .piece) sNil) (sRet (m2 dSub (mCall M_inner (mCons (mCall M_cells_of (mCons (mVar 0) mNil)) mNil)) (mCB dSum (mCons (mLc [3] (iA (mVar 1)) (gN 3) mYes (mCall M_inner (mCons (mVar 3) mNil))) mNil)))))))))
/-- mirrored_once -/
def M_mirrored_once : DM := mFun 1 (sRet (mCB dToTup (mCons (mLc [1] (iA (mVar 0)) (gN 1) mYes (mRevS (mVar 1))) mNil)))
/-- mirrored -/
def M_mirrored : DM := mFun 0 (sRet (mCall M_mirrored_once (mCons (mCall M_checked (mCons (mVar 0) mNil)) mNil)))
/-- _law_mirrored -/
def M_law_mirrored : DM := mFun 1 (sRet (mCB dToTup (mCons (mLc [1] (iA (mVar 0)) (gN 1) mYes (mRevS (mVar 1))) mNil)))
/-- _law_eight -/
def M_law_eight : DM := mFun 2 (sSeq (sOwnL 1 mNil) (sSeq (sFor (iR1 (mCons (mC (.int 4)) mNil)) (gN 2) (sSeq (sExt 1 (mLst (mCons (mVar 0) (mCons (mCall M_law_mirrored (mCons (mVar 0) mNil)) mNil)))) (sSet 0 (mCall M_law_turned (mCons (mVar 0) mNil))))) (sRetO 1)))
/-- place_text -/
def M_place_text : DM := mFun 0 (sSeq (sIf (mB (m2 dIsN (mVar 0) (mC .none))) (sRet (mC (.str "."))) sNil) (sRet (mCB dStr (mCons (mVar 0) mNil))))
/-- shown -/
def M_shown : DM := mFun 2 (sSeq (sExpr (mCall M_checked (mCons (mVar 0) mNil))) (sRet (mJoin "" (mLc [1] (iA (mVar 0)) (gN 1) mYes (m2 dAdd (mJoin " " (mLc [2] (iA (mVar 1)) (gN 2) mYes (mCall M_place_text (mCons (mVar 2) mNil)))) (mC (.str "\n")))))))
/-- place_of -/
def M_place_of : DM := mFun 1 (sSeq (sIf (mB (m2 dEq (mVar 0) (mC (.str ".")))) (sRet (mC .none)) sNil) (sSeq (sIf (mOr (mNot (mB (mCh dLe dLe (mC (.int 1)) (mCB dLen (mCons (mVar 0) mNil)) (mC (.int 4))))) (mOr (mNot (mB (mCB dAll (mCons (mLc [1] (iS (mVar 0)) (gN 1) mYes (m2 dInS (mVar 1) (mC (.str "0123456789")))) mNil)))) (mB (m2 dEq (m2 dIxS (mVar 0) (mC (.int 0))) (mC (.str "0")))))) (sRaise .text) sNil) (sRet (mCB dToIntA (mCons (mVar 0) mNil)))))
/-- read -/
def M_read : DM := mFun 4 (sSeq (sIf (mNot (mB (mIsi "str" (mVar 0)))) (sRaise .text) sNil) (sSeq (sSet 1 (mSplit "\n" (mVar 0))) (sSeq (sIf (mB (m2 dNe (m2 dIx (mVar 1) (mC (.int (-1)))) (mC (.str "")))) (sRaise .text) sNil) (sSeq (sOwnL 2 mNil) (sSeq (sFor (iA (mCut (mVar 1) mNoPart (mPart (mC (.int (-1)))))) (gN 3) (sApp 2 (mCB dToTup (mCons (mLc [4] (iA (mSplit " " (mVar 3))) (gN 4) mYes (mCall M_place_of (mCons (mVar 4) mNil))) mNil)))) (sSeq (sIf (mNot (mB (mCall M_is_sheet (mCons (mCB dToTup (mCons (mOwn 2) mNil)) mNil)))) (sRaise .text) sNil) (sRet (mCB dToTup (mCons (mOwn 2) mNil)))))))))
/-- _law_written -/
def M_law_written : DM := mFun 4 (sSeq (sOwnL 1 mNil) (sSeq (sFor (iA (mVar 0)) (gN 2) (sApp 1 (mJoin " " (mLc [3] (iA (mVar 2)) (gN 3) mYes (m2 dIx (mLst (mCons (mCB dStr (mCons (mVar 3) mNil)) (mCons (mC (.str ".")) mNil))) (mCB dToIntA (mCons (m2 dIsN (mVar 3) (mC .none)) mNil))))))) (sRet (mJoin "" (mLc [4] (iL (mOwn 1)) (gN 4) mYes (m2 dAdd (mVar 4) (mC (.str "\n"))))))))
/-- _law_row -/
def M_law_row : DM := mFun 3 (sSeq (sOwnL 1 mNil) (sSeq (sFor (iA (mSplit " " (mVar 0))) (gN 2) (sIf (mB (m2 dEq (mVar 2) (mC (.str ".")))) (sApp 1 (mC .none)) (sIf (mOr (mB (m2 dEq (mVar 2) (mC (.str "")))) (mOr (mB (m2 dGt (mCB dLen (mCons (mVar 2) mNil)) (mC (.int 4)))) (mOr (mB (m2 dEq (m2 dIxS (mVar 2) (mC (.int 0))) (mC (.str "0")))) (mB (m2 dNe (mLc [3] (iS (mVar 2)) (gN 3) (mB (m2 dNotInS (mVar 3) (mC (.str "0123456789")))) (mVar 3)) (mLst mNil)))))) (sRet (mC .none)) (sApp 1 (mCB dToIntA (mCons (mVar 2) mNil)))))) (sRet (mCB dToTup (mCons (mOwn 1) mNil)))))
/-- _law_due -/
def M_law_due : DM := mFun 3 (sSeq (sIf (mOr (mNot (mB (mIsi "str" (mVar 0)))) (mB (m2 dNe (mCutS (mVar 0) (mPart (mC (.int (-1)))) mNoPart) (mC (.str "\n"))))) (sRet (mC .none)) sNil) (sSeq (sSet 1 (mLc [2] (iA (mSplit "\n" (mCutS (mVar 0) mNoPart (mPart (mC (.int (-1))))))) (gN 2) mYes (mCall M_law_row (mCons (mVar 2) mNil)))) (sSeq (sIf (mOr (mB (m2 dIn (mC .none) (mVar 1))) (mOr (mB (m2 dGt (mCB dLen (mCons (mVar 1) mNil)) (mC (.int 5)))) (mOr (mB (m2 dGt (mCB dLen (mCons (m2 dIx (mVar 1) (mC (.int 0))) mNil)) (mC (.int 5)))) (mB (m2 dNe (mLc [3] (iA (mVar 1)) (gN 3) (mB (m2 dNe (mCB dLen (mCons (mVar 3) mNil)) (mCB dLen (mCons (m2 dIx (mVar 1) (mC (.int 0))) mNil)))) (mVar 3)) (mLst mNil)))))) (sRet (mC .none)) sNil) (sSeq (sIf (mNot (mB (mCh dLe dLe (mC (.int 1)) (mCB dLen (mCons (mCall M_law_cells (mCons (mVar 1) mNil)) mNil)) (mC (.int 12))))) (sRet (mC .none)) sNil) (sRet (mCB dToTup (mCons (mVar 1) mNil)))))))
end Stm
set_option linter.all false
set_option maxRecDepth 100000
namespace Stm
open PySem PySem.Spec PyProof.Rows L2
/-- best_plan -/
def M_best_planF (M_best_plan : DM) : DM := mFun 9 (sSeq (sIf (mB (m2 dEq (mVar 1) (mTup mNil))) (sRet (m2 dIx (mLst (mCons (mTup (mCons (mC (.int 0)) (mCons (mLst mNil) mNil))) (mCons (mC .none) mNil))) (mCB dToIntA (mCons (m2 dNe (mVar 2) (mLst mNil)) mNil)))) sNil) (sSeq (sIf (mB (m2 dEq (mVar 2) (mLst mNil))) (sRet (mC .none)) sNil) (sSeq (sSet 3 (mC .none)) (sSeq (sFor (iA (mCall M_pieces_with (mCons (mVar 0) (mCons (mVar 1) (mCons (mLc [8, 9] (iA (mVar 2)) (gN2 8 9) mYes (mVar 8)) mNil))))) (gN 4) (sSeq (sSet 5 (m2 dIx (mLc [10] (iA (mVar 2)) (gN 10) (mB (m2 dEq (m2 dIx (mVar 10) (mC (.int 0))) (mCall M_sum_of (mCons (mVar 0) (mCons (mVar 4) mNil))))) (mVar 10)) (mC (.int 0)))) (sSeq (sSet 6 (mCB dToTup (mCons (mLc [11] (iA (mVar 1)) (gN 11) (mB (m2 dNotIn (mVar 11) (mVar 4))) (mVar 11)) mNil))) (sSeq (sSet 7 (mCall M_best_plan (mCons (mVar 0) (mCons (mVar 6) (mCons (mLc [10] (iA (mVar 2)) (gN 10) (mB (m2 dNe (mVar 10) (mVar 5))) (mVar 10)) mNil))))) (sIf (mAnd (mB (m2 dIsNotN (mVar 7) (mC .none))) (mOr (mB (m2 dIsN (mVar 3) (mC .none))) (mB (m2 dGt (m2 dAdd (m2 dIx (mVar 7) (mC (.int 0))) (mCall M_inner (mCons (mVar 4) mNil))) (m2 dIx (mVar 3) (mC (.int 0))))))) (sSet 3 (mTup (mCons (m2 dAdd (m2 dIx (mVar 7) (mC (.int 0))) (mCall M_inner (mCons (mVar 4) mNil))) (mCons (m2 dAdd (mLst (mCons (mTup (mCons (m2 dIx (mVar 5) (mC (.int 1))) (mCons (mVar 4) mNil))) mNil)) (m2 dIx (mVar 7) (mC (.int 1)))) mNil)))) sNil))))) (sRet (mVar 3))))))
def M_best_planN : Nat → DM
  | 0 => fun _ => .stuck
  | n + 1 => M_best_planF (M_best_planN n)
def M_best_plan : DM := M_best_planN 13
/-- plan_for -/
def M_plan_for : DM := mFun 3 (sSeq (sSet 2 (mCB dToTup (mCons (mCall M_cells_of (mCons (mVar 0) mNil)) mNil))) (sSeq (sIf (mOr (mB (m2 dNe (mCB dSum (mCons (mVar 1) mNil)) (mCall M_sum_of (mCons (mVar 0) (mCons (mVar 2) mNil))))) (mB (m2 dGt (mCB dLen (mCons (mVar 1) mNil)) (mCB dLen (mCons (mVar 2) mNil))))) (sRet (mC .none)) sNil) (sRet (mCall M_best_plan (mCons (mVar 0) (mCons (mVar 2) (mCons (mLc [3, 4] (iEn (mCons (mVar 1) mNil)) (gN2 3 4) mYes (mTup (mCons (mVar 4) (mCons (mVar 3) mNil)))) mNil)))))))
/-- torn -/
def M_torn : DM := mFun 0 (sSeq (sExpr (mCall M_checked (mCons (mVar 0) mNil))) (sSeq (sExpr (mCall M_need_wants (mCons (mVar 1) mNil))) (sRet (mCall M_told (mCons (mCall M_plan_for (mCons (mVar 0) (mCons (mVar 1) mNil))) mNil)))))
/-- _law_best -/
def M_law_bestF (M_law_best : DM) : DM := mFun 7 (sSeq (sIf (mB (m2 dEq (mVar 2) (mTup mNil))) (sRet (m2 dIx (mLst (mCons (mC (.int 0)) (mCons (mC .none) mNil))) (mCB dToIntA (mCons (m2 dNe (mVar 3) (mLst mNil)) mNil)))) sNil) (sSeq (sSet 4 (mC .none)) (sSeq (sFor (iA (mVar 1)) (gN 5) (sSeq (sSet 6 (mCall M_law_worth (mCons (mVar 0) (mCons (mVar 5) mNil)))) (sIf (mAnd (mB (m2 dEq (m2 dIx (mVar 5) (mC (.int 0))) (m2 dIx (mVar 2) (mC (.int 0))))) (mAnd (mB (m2 dIn (mVar 6) (mVar 3))) (mB (m2 dEq (mLc [10] (iA (mVar 5)) (gN 10) (mB (m2 dNotIn (mVar 10) (mVar 2))) (mVar 10)) (mLst mNil))))) (sSeq (sOwnC 7 (mVar 3)) (sSeq (sRem 7 (mVar 6)) (sSeq (sFrz 7) (sSeq (sSet 8 (mCB dToTup (mCons (mLc [10] (iA (mVar 2)) (gN 10) (mB (m2 dNotIn (mVar 10) (mVar 5))) (mVar 10)) mNil))) (sSeq (sSet 9 (mCall M_law_best (mCons (mVar 0) (mCons (mVar 1) (mCons (mVar 8) (mCons (mVar 7) mNil)))))) (sIf (mAnd (mB (m2 dIsNotN (mVar 9) (mC .none))) (mOr (mB (m2 dIsN (mVar 4) (mC .none))) (mB (m2 dGt (m2 dAdd (mVar 9) (mCall M_law_inner (mCons (mVar 5) mNil))) (mVar 4))))) (sSet 4 (m2 dAdd (mVar 9) (mCall M_law_inner (mCons (mVar 5) mNil)))) sNil)))))) sNil))) (sRet (mVar 4)))))
def M_law_bestN : Nat → DM
  | 0 => fun _ => .stuck
  | n + 1 => M_law_bestF (M_law_bestN n)
def M_law_best : DM := M_law_bestN 13
/-- fewest_tears -/
def M_fewest_tears : DM := mFun 1 (sSeq (sExpr (mCall M_checked (mCons (mVar 0) mNil))) (sSeq (sExpr (mCall M_need_wants (mCons (mVar 1) mNil))) (sSeq (sSet 2 (mCall M_plan_for (mCons (mVar 0) (mCons (mVar 1) mNil)))) (sSeq (sIf (mB (m2 dIsN (mVar 2) (mC .none))) (sRet (mC .none)) sNil) (sRet (m2 dSub (mCall M_inner (mCons (mCall M_cells_of (mCons (mVar 0) mNil)) mNil)) (m2 dIx (mVar 2) (mC (.int 0)))))))))
/-- fair -/
def M_fair : DM := mFun 1 (sSeq (sExpr (mCall M_checked (mCons (mVar 0) mNil))) (sSeq (sExpr (mCall M_need_number (mCons (mVar 1) (mCons (mC (.int 12)) mNil)))) (sSeq (sSet 2 (mCall M_sum_of (mCons (mVar 0) (mCons (mCall M_cells_of (mCons (mVar 0) mNil)) mNil)))) (sSeq (sIf (mB (m2 dGt (m2 dMod (mVar 2) (mVar 1)) (mC (.int 0)))) (sRet (mC .none)) sNil) (sRet (mCall M_told (mCons (mCall M_plan_for (mCons (mVar 0) (mCons (mRepL (m2 dFdiv (mVar 2) (mVar 1)) (mVar 1)) mNil))) mNil)))))))
end Stm
set_option Elab.async false
set_option linter.all false
set_option maxRecDepth 100000
set_option maxHeartbeats 4000000
namespace Stm
open PySem PySem.Spec PyProof.Rows L2

/-! ### plain: data that are equal as they look -/
mutual
def pl : PyData → Bool
  | .none => true
  | .int _ => true
  | .str x => PyData.strOk x
  | .list ds => plAll ds
  | .tuple ds => plAll ds
  | _ => false
def plAll : List PyData → Bool
  | [] => true
  | d :: ds => pl d && plAll ds
end
mutual
theorem pl_lay : ∀ d : PyData, pl d = true → d.canLay0 = true
  | .none, _ => by simp [PyData.canLay0]
  | .int _, _ => by simp [PyData.canLay0]
  | .str x, h => by simpa [PyData.canLay0, pl] using h
  | .list ds, h => by
    simp only [PyData.canLay0]
    exact plAll_lay ds (by simpa [pl] using h)
  | .tuple ds, h => by
    simp only [PyData.canLay0]
    exact plAll_lay ds (by simpa [pl] using h)
  | .bool _, h => by simp [pl] at h
  | .dict _, h => by simp [pl] at h
theorem plAll_lay : ∀ ds : List PyData, plAll ds = true → PyData.canLayAll0 ds = true
  | [], _ => by simp [PyData.canLayAll0]
  | d :: ds, h => by
    simp only [plAll, Bool.and_eq_true] at h
    simp only [PyData.canLayAll0, Bool.and_eq_true]
    exact ⟨pl_lay d h.1, plAll_lay ds h.2⟩
end
mutual
theorem eqv_pl : ∀ d e : PyData, pl d = true → pl e = true → (PyData.eqv d e = true ↔ d = e)
  | .none, e, _, he => by cases e <;> simp [PyData.eqv, pl] at *
  | .int i, e, _, he => by cases e <;> simp [PyData.eqv, pl] at *
  | .str x, e, _, he => by cases e <;> simp [PyData.eqv, pl] at *
  | .list ds, e, h, he => by
    cases e with
    | list es =>
      simp only [pl] at h he
      simp only [PyData.eqv]
      rw [eqvAll_pl ds es h he]
      exact ⟨fun z => by rw [z], fun z => by injection z⟩
    | _ => simp [PyData.eqv, pl] at *
  | .tuple ds, e, h, he => by
    cases e with
    | tuple es =>
      simp only [pl] at h he
      simp only [PyData.eqv]
      rw [eqvAll_pl ds es h he]
      exact ⟨fun z => by rw [z], fun z => by injection z⟩
    | _ => simp [PyData.eqv, pl] at *
  | .bool _, _, h, _ => by simp [pl] at h
  | .dict _, _, h, _ => by simp [pl] at h
theorem eqvAll_pl : ∀ ds es : List PyData, plAll ds = true → plAll es = true → (PyData.eqvAll ds es = true ↔ ds = es)
  | [], [], _, _ => by simp [PyData.eqvAll]
  | [], _ :: _, _, _ => by simp [PyData.eqvAll]
  | _ :: _, [], _, _ => by simp [PyData.eqvAll]
  | d :: ds, e :: es, h, he => by
    simp only [plAll, Bool.and_eq_true] at h he
    simp only [PyData.eqvAll, Bool.and_eq_true]
    rw [eqv_pl d e h.1 he.1, eqvAll_pl ds es h.2 he.2]
    exact ⟨fun z => by rw [z.1, z.2], fun z => by injection z with z1 z2; exact ⟨z1, z2⟩⟩
end
theorem plAll_iff {ds : List PyData} : plAll ds = true ↔ ∀ d ∈ ds, pl d = true := by
  induction ds with
  | nil => simp [plAll]
  | cons d ds ih => simp only [plAll, Bool.and_eq_true, ih, List.mem_cons, forall_eq_or_imp]
theorem depthAll_le {n : Nat} : ∀ {ds : List PyData}, (∀ d ∈ ds, d.depth ≤ n) → PyData.depthAll ds ≤ n
  | [], _ => by simp [PyData.depthAll]
  | d :: ds, h => by
    simp only [PyData.depthAll]
    exact Nat.max_le.mpr ⟨h d List.mem_cons_self, depthAll_le fun e he => h e (List.mem_cons_of_mem _ he)⟩

/-- a faithful encoding, of depth n at the most -/
structure Enc {α : Type} (enc : α → PyData) (n : Nat) : Prop where
  pl : ∀ a, pl (enc a) = true
  dp : ∀ a, (enc a).depth ≤ n
  inj : ∀ a b, enc a = enc b → a = b
theorem Enc.int : Enc PyData.int 0 := ⟨fun _ => by simp [Stm.pl], fun _ => by simp [PyData.depth], fun _ _ h => by injection h⟩
theorem Enc.map_inj {α : Type} {enc : α → PyData} {n : Nat} (h : Enc enc n) : ∀ {xs ys : List α}, xs.map enc = ys.map enc → xs = ys
  | [], [], _ => rfl
  | [], _ :: _, e => by cases e
  | _ :: _, [], e => by cases e
  | x :: xs, y :: ys, e => by
    simp only [List.map_cons, List.cons.injEq] at e
    rw [h.inj _ _ e.1, Enc.map_inj h e.2]
theorem Enc.plAll {α : Type} {enc : α → PyData} {n : Nat} (h : Enc enc n) (xs : List α) : plAll (xs.map enc) = true := plAll_iff.mpr fun d hd => by
  obtain ⟨a, _, rfl⟩ := List.mem_map.mp hd
  exact h.pl a
theorem Enc.depthAll {α : Type} {enc : α → PyData} {n : Nat} (h : Enc enc n) (xs : List α) : PyData.depthAll (xs.map enc) ≤ n := depthAll_le fun d hd => by
  obtain ⟨a, _, rfl⟩ := List.mem_map.mp hd
  exact h.dp a
theorem Enc.list {α : Type} {enc : α → PyData} {n : Nat} (h : Enc enc n) : Enc (fun xs : List α => PyData.list (xs.map enc)) (n + 1) :=
  ⟨fun xs => by simp only [Stm.pl]; exact h.plAll xs, fun xs => by simp only [PyData.depth]; exact Nat.succ_le_succ (h.depthAll xs), fun xs ys e => by injection e with e; exact h.map_inj e⟩
theorem Enc.tuple {α : Type} {enc : α → PyData} {n : Nat} (h : Enc enc n) : Enc (fun xs : List α => PyData.tuple (xs.map enc)) (n + 1) :=
  ⟨fun xs => by simp only [Stm.pl]; exact h.plAll xs, fun xs => by simp only [PyData.depth]; exact Nat.succ_le_succ (h.depthAll xs), fun xs ys e => by injection e with e; exact h.map_inj e⟩
theorem Enc.shp {α : Type} {enc : α → PyData} {n : Nat} (h : Enc enc n) (hn : n ≤ 64) (a : α) : shp (enc a) = true := by
  show ((enc a).canLay0 && decide ((enc a).depth ≤ 64)) = true
  rw [pl_lay _ (h.pl a), Bool.true_and]
  exact decide_eq_true (Nat.le_trans (h.dp a) hn)
theorem Enc.eqv {α : Type} [DecidableEq α] {enc : α → PyData} {n : Nat} (h : Enc enc n) (a b : α) : PyData.eqv (enc a) (enc b) = decide (a = b) := by
  have e := eqv_pl (enc a) (enc b) (h.pl a) (h.pl b)
  by_cases q : a = b
  · rw [decide_eq_true q]; exact e.mpr (by rw [q])
  · rw [decide_eq_false q]
    cases z : PyData.eqv (enc a) (enc b) with
    | false => rfl
    | true => exact absurd (h.inj _ _ (e.mp z)) q
theorem Enc.dEq {α : Type} [DecidableEq α] {enc : α → PyData} {n : Nat} (h : Enc enc n) (hn : n ≤ 64) (a b : α) : dEq (enc a) (enc b) = .ok (.bool (decide (a = b))) := by
  unfold Stm.dEq
  rw [if_pos ⟨h.shp hn a, h.shp hn b⟩, h.eqv]
theorem Enc.dNe {α : Type} [DecidableEq α] {enc : α → PyData} {n : Nat} (h : Enc enc n) (hn : n ≤ 64) (a b : α) : dNe (enc a) (enc b) = .ok (.bool (!decide (a = b))) := by
  unfold Stm.dNe
  rw [if_pos ⟨h.shp hn a, h.shp hn b⟩, h.eqv]
theorem Enc.any {α : Type} [DecidableEq α] {enc : α → PyData} {n : Nat} (h : Enc enc n) (a : α) (xs : List α) : ((xs.map enc).any fun z => PyData.eqv z (enc a)) = decide (a ∈ xs) := by
  induction xs with
  | nil => rfl
  | cons x xs ih =>
    rw [List.map_cons, List.any_cons, ih, h.eqv]
    by_cases e : x = a
    · subst e; simp
    · have e2 : ¬ a = x := fun z => e z.symm
      simp [e, e2]
theorem Enc.dIn {α : Type} [DecidableEq α] {enc : α → PyData} {n : Nat} (h : Enc enc n) (hn : n + 1 ≤ 64) (a : α) (xs : List α) : dIn (enc a) (.list (xs.map enc)) = .ok (.bool (decide (a ∈ xs))) := by
  unfold Stm.dIn
  simp only
  rw [if_pos ⟨h.shp (by omega) a, h.list.shp hn xs⟩, h.any]
theorem Enc.dInT {α : Type} [DecidableEq α] {enc : α → PyData} {n : Nat} (h : Enc enc n) (hn : n + 1 ≤ 64) (a : α) (xs : List α) : Stm.dIn (enc a) (.tuple (xs.map enc)) = .ok (.bool (decide (a ∈ xs))) := by
  unfold Stm.dIn
  simp only
  rw [if_pos ⟨h.shp (by omega) a, h.tuple.shp hn xs⟩, h.any]
theorem Enc.dNotIn {α : Type} [DecidableEq α] {enc : α → PyData} {n : Nat} (h : Enc enc n) (hn : n + 1 ≤ 64) (a : α) (xs : List α) : dNotIn (enc a) (.list (xs.map enc)) = .ok (.bool (!decide (a ∈ xs))) := by
  unfold Stm.dNotIn
  simp only
  rw [if_pos ⟨h.shp (by omega) a, h.list.shp hn xs⟩, h.any]
theorem Enc.dNotInT {α : Type} [DecidableEq α] {enc : α → PyData} {n : Nat} (h : Enc enc n) (hn : n + 1 ≤ 64) (a : α) (xs : List α) : Stm.dNotIn (enc a) (.tuple (xs.map enc)) = .ok (.bool (!decide (a ∈ xs))) := by
  unfold Stm.dNotIn
  simp only
  rw [if_pos ⟨h.shp (by omega) a, h.tuple.shp hn xs⟩, h.any]

/-! ### cells, pieces, sheets -/
abbrev Cell := Int × Int
def eC (c : Cell) : PyData := .tuple [.int c.1, .int c.2]
def eP (p : List Cell) : PyData := .tuple (p.map eC)
def eL (p : List Cell) : PyData := .list (p.map eC)
def eO : Option Int → PyData
  | none => .none
  | some i => .int i
def eRow (r : List (Option Int)) : PyData := .tuple (r.map eO)
abbrev Sheet := List (List (Option Int))
def eS (s : Sheet) : PyData := .tuple (s.map eRow)
def eI (ns : List Int) : PyData := .list (ns.map .int)
theorem encC : Enc eC 1 := ⟨fun c => by simp [eC, pl, plAll], fun c => by simp [eC, PyData.depth, PyData.depthAll], fun a b h => by
  unfold eC at h
  injection h with h
  simp only [List.cons.injEq, PyData.int.injEq, and_true] at h
  exact Prod.ext h.1 h.2⟩
theorem encO : Enc eO 0 := ⟨fun c => by cases c <;> simp [eO, pl], fun c => by cases c <;> simp [eO, PyData.depth], fun a b h => by
  cases a <;> cases b <;> simp [eO] at h ⊢
  exact h⟩
theorem encP : Enc eP 2 := encC.tuple
theorem encL : Enc eL 2 := encC.list
theorem encRow : Enc eRow 1 := encO.tuple
theorem encS : Enc eS 2 := encRow.tuple
theorem encI : Enc eI 1 := Enc.int.list

/-! ### small rules -/
theorem dIx_nat {ds : List PyData} {j : Nat} {d : PyData} (h : ds[j]? = some d) : dIx (.list ds) (.int j) = .ok d := by
  unfold dIx
  simp only
  rw [atI_nat h]
theorem dIx_natT {ds : List PyData} {j : Nat} {d : PyData} (h : ds[j]? = some d) : dIx (.tuple ds) (.int j) = .ok d := by
  unfold dIx
  simp only
  rw [atI_nat h]
theorem dIx_int {ds : List PyData} {i : Int} {d : PyData} (h0 : 0 ≤ i) (h : ds[i.toNat]? = some d) : dIx (.list ds) (.int i) = .ok d := by
  have e : i = ((i.toNat : Nat) : Int) := (Int.toNat_of_nonneg h0).symm
  rw [e]; exact dIx_nat h
theorem dIx_intT {ds : List PyData} {i : Int} {d : PyData} (h0 : 0 ≤ i) (h : ds[i.toNat]? = some d) : dIx (.tuple ds) (.int i) = .ok d := by
  have e : i = ((i.toNat : Nat) : Int) := (Int.toNat_of_nonneg h0).symm
  rw [e]; exact dIx_natT h
theorem dIx_last {ds : List PyData} {d : PyData} : dIx (.list (ds ++ [d])) (.int (-1)) = .ok d := by
  unfold dIx
  simp only
  rw [atI_last]

/-! ### loops and comprehensions over encoded lists -/
/-- one turn -/
def turn1 (t : TgM) (mb : SM) (d : PyData) (ρ : Rho) : SRes := match t d ρ with
  | none => .stuck
  | some ρ1 => mb ρ1
theorem forGo_cons {t : TgM} {mb : SM} {d : PyData} {ds : List PyData} {ρ : Rho} : forGo t mb (d :: ds) ρ = match turn1 t mb d ρ with | .nx ρ2 => forGo t mb ds ρ2 | r => r := by
  rw [forGo, turn1]
  cases t d ρ with
  | none => rfl
  | some ρ1 => rfl
/-- the state as a function of what has been walked -/
theorem for_pre {α J : Type} {enc : α → PyData} {t : TgM} {mb : SM} {xs : List α} (E : List α → J → Rho) (h : ∀ pre x post j, xs = pre ++ x :: post → ∃ j', turn1 t mb (enc x) (E pre j) = .nx (E (pre ++ [x]) j')) :
    ∀ j, ∃ j', forGo t mb (xs.map enc) (E [] j) = .nx (E xs j') := by
  have go : ∀ post pre, xs = pre ++ post → ∀ j, ∃ j', forGo t mb (post.map enc) (E pre j) = .nx (E xs j') := by
    intro post
    induction post with
    | nil => intro pre e j; rw [List.append_nil] at e; exact ⟨j, by rw [e]; rfl⟩
    | cons x post ih =>
      intro pre e j
      obtain ⟨j1, e1⟩ := h pre x post j e
      obtain ⟨j2, e2⟩ := ih (pre ++ [x]) (by rw [e, List.append_assoc]; rfl) j1
      refine ⟨j2, ?_⟩
      rw [List.map_cons, forGo_cons, e1]
      exact e2
  exact fun j => go xs [] rfl j
/-- the first item that ends the loop -/
theorem for_find {α J : Type} {enc : α → PyData} {t : TgM} {mb : SM} (p : α → Bool) (f : α → PyData) (E : J → Rho) : ∀ (xs : List α), (∀ x ∈ xs, ∀ j, (p x = false → ∃ j', turn1 t mb (enc x) (E j) = .nx (E j')) ∧ (p x = true → turn1 t mb (enc x) (E j) = .rt (f x))) →
    ∀ j, match xs.find? p with
      | some x => forGo t mb (xs.map enc) (E j) = .rt (f x)
      | none => ∃ j', forGo t mb (xs.map enc) (E j) = .nx (E j')
  | [], _, j => ⟨j, rfl⟩
  | x :: xs, h, j => by
    rw [List.find?_cons]
    cases hp : p x with
    | true =>
      simp only [List.map_cons]
      rw [forGo_cons, (h x List.mem_cons_self j).2 hp]
    | false =>
      obtain ⟨j1, e1⟩ := (h x List.mem_cons_self j).1 hp
      have ih := for_find p f E xs (fun y hy => h y (List.mem_cons_of_mem _ hy)) j1
      simp only [List.map_cons]
      rw [forGo_cons, e1]
      exact ih
theorem lc_map {α : Type} {enc : α → PyData} {t : TgM} {mt : TM} {me : EM} {ρ : Rho} (p : α → Bool) (f : α → PyData) : ∀ (xs : List α), (∀ x ∈ xs, ∃ ρ1, t (enc x) ρ = some ρ1 ∧ mt ρ1 = .ok (p x) ∧ (p x = true → me ρ1 = .ok (f x))) →
    lcGo t mt me ρ (xs.map enc) = .ok ((xs.filter p).map f)
  | [], _ => rfl
  | x :: xs, h => by
    obtain ⟨ρ1, e1, e2, e3⟩ := h x List.mem_cons_self
    have ih := lc_map p f xs fun y hy => h y (List.mem_cons_of_mem _ hy)
    rw [List.map_cons, lcGo, e1]
    simp only [e2, Res.bindN]
    cases hp : p x with
    | true =>
      rw [if_pos rfl, e3 hp, List.filter_cons_of_pos hp, ih]
      rfl
    | false =>
      rw [if_neg Bool.false_ne_true, List.filter_cons_of_neg (by rw [hp]; exact Bool.false_ne_true), ih]
theorem lc_all {α : Type} {enc : α → PyData} {t : TgM} {me : EM} {ρ : Rho} (f : α → PyData) (xs : List α) (h : ∀ x ∈ xs, ∃ ρ1, t (enc x) ρ = some ρ1 ∧ me ρ1 = .ok (f x)) : lcGo t mYes me ρ (xs.map enc) = .ok (xs.map f) := by
  have := lc_map (enc := enc) (t := t) (mt := mYes) (me := me) (ρ := ρ) (fun _ => true) f xs fun x hx => let ⟨ρ1, e1, e2⟩ := h x hx; ⟨ρ1, e1, rfl, fun _ => e2⟩
  rw [this, List.filter_eq_self.mpr fun _ _ => rfl]
theorem mLc_ok {vs : List Nat} {mi : Rho → Res (List PyData)} {t : TgM} {mt : TM} {me : EM} {ρ : Rho} {ds es : List PyData} (h1 : mi ρ = .ok ds) (h2 : ds.length ≤ LIM) (h3 : lcGo t mt me (wipeR ρ vs) ds = .ok es) : mLc vs mi t mt me ρ = .ok (.list es) := by
  unfold mLc
  rw [h1]
  show (if ds.length ≤ LIM then _ else _) = _
  rw [if_pos h2, h3]
  rfl
theorem sFor_ok {mi : Rho → Res (List PyData)} {t : TgM} {mb : SM} {ρ : Rho} {ds : List PyData} (h1 : mi ρ = .ok ds) : sFor mi t mb ρ = forGo t mb ds ρ := by
  unfold sFor
  rw [h1]; rfl
/-- what is in a range -/
theorem intD_eq {n : Nat} : intD 0 n = ((List.range n).map fun (i : Nat) => (i : Int)).map .int := by
  unfold intD
  rw [List.map_map]
  refine List.map_congr_left fun a _ => ?_
  show PyData.int (0 + (a : Int)) = _
  rw [Int.zero_add]; rfl
theorem intD_nat {n : Nat} : intD 0 n = (List.range n).map fun (i : Nat) => PyData.int (i : Int) := by
  unfold intD
  refine List.map_congr_left fun a _ => ?_
  rw [Int.zero_add]
theorem rng1_nat {n : Nat} (h : n ≤ LIM) : rng1 [.int (n : Int)] = .ok ((List.range n).map fun (i : Nat) => PyData.int (i : Int)) := by
  unfold rng1
  have h2 : n ≤ 100000 := h
  have el : (LIM : Int) = 100000 := rfl
  simp only
  rw [if_pos (by rw [el]; omega), Int.toNat_natCast, intD_nat]

/-! ### steps -/
theorem seq_nx {a b : SM} {ρ ρ' : Rho} (h : a ρ = .nx ρ') : sSeq a b ρ = b ρ' := by unfold sSeq; rw [h]
theorem seq_rt {a b : SM} {ρ : Rho} {d : PyData} (h : a ρ = .rt d) : sSeq a b ρ = .rt d := by unfold sSeq; rw [h]
theorem seq_exc {a b : SM} {ρ ρ' : Rho} {c : Ex} (h : a ρ = .exc c ρ') : sSeq a b ρ = .exc c ρ' := by unfold sSeq; rw [h]
theorem set_ok {i : Nat} {m : EM} {ρ : Rho} {d : PyData} (h : m ρ = .ok d) : sSet i m ρ = .nx (ρ.set i (.val d)) := by unfold sSet; rw [h]; rfl
theorem expr_ok {m : EM} {ρ : Rho} {d : PyData} (h : m ρ = .ok d) : sExpr m ρ = .nx ρ := by unfold sExpr; rw [h]; rfl
theorem ret_ok {m : EM} {ρ : Rho} {d : PyData} (h : m ρ = .ok d) : sRet m ρ = .rt d := by unfold sRet; rw [h]; rfl
theorem if_t {c : TM} {a b : SM} {ρ : Rho} (h : c ρ = .ok true) : sIf c a b ρ = a ρ := by unfold sIf; rw [h]; rfl
theorem if_f {c : TM} {a b : SM} {ρ : Rho} (h : c ρ = .ok false) : sIf c a b ρ = b ρ := by unfold sIf; rw [h]; rfl
theorem call_ok {M : DM} {r : AM} {ρ : Rho} {ds : List PyData} (h : r ρ = .ok ds) : mCall M r ρ = M ds := by unfold mCall; rw [h]; rfl
theorem cb_ok {f : List PyData → Res PyData} {r : AM} {ρ : Rho} {ds : List PyData} (h : r ρ = .ok ds) : mCB f r ρ = f ds := by unfold mCB; rw [h]; rfl
theorem fun_rt {n : Nat} {m : SM} {ds : List PyData} {d : PyData} (h : m (ds.map Sl.val ++ List.replicate n Sl.un) = .rt d) : mFun n m ds = .ok d := by unfold mFun; rw [h]; rfl
theorem fun_exc {n : Nat} {m : SM} {ds : List PyData} {c : Ex} {ρ' : Rho} (h : m (ds.map Sl.val ++ List.replicate n Sl.un) = .exc c ρ') : mFun n m ds = .exc c := by unfold mFun; rw [h]; rfl
theorem t_b {m : EM} {ρ : Rho} {b : Bool} (h : m ρ = .ok (.bool b)) : mB m ρ = .ok b := by unfold mB; rw [h]; rfl
theorem t_not {a : TM} {ρ : Rho} {x : Bool} (h : a ρ = .ok x) : mNot a ρ = .ok (!x) := by unfold mNot; rw [h]; rfl
theorem t_and {a b : TM} {ρ : Rho} {x y : Bool} (h : a ρ = .ok x) (g : b ρ = .ok y) : mAnd a b ρ = .ok (x && y) := by
  unfold mAnd
  rw [h]
  cases x with
  | true => exact g
  | false => rfl
theorem t_or {a b : TM} {ρ : Rho} {x y : Bool} (h : a ρ = .ok x) (g : b ρ = .ok y) : mOr a b ρ = .ok (x || y) := by
  unfold mOr
  rw [h]
  cases x with
  | true => rfl
  | false => exact g
theorem v_and {a b : EM} {ρ : Rho} {x y : Bool} (h : a ρ = .ok (.bool x)) (g : b ρ = .ok (.bool y)) : mAndV a b ρ = .ok (.bool (x && y)) := by
  unfold mAndV
  rw [h]
  cases x with
  | true => exact g
  | false => rfl
theorem v_or {a b : EM} {ρ : Rho} {x y : Bool} (h : a ρ = .ok (.bool x)) (g : b ρ = .ok (.bool y)) : mOrV a b ρ = .ok (.bool (x || y)) := by
  unfold mOrV
  rw [h]
  cases x with
  | true => rfl
  | false => exact g
theorem v_not {a : EM} {ρ : Rho} {x : Bool} (h : a ρ = .ok (.bool x)) : mNotV a ρ = .ok (.bool (!x)) := by unfold mNotV; rw [h]; rfl
theorem m2_ok {f : DF} {a b : EM} {ρ : Rho} {x y z : PyData} (h : a ρ = .ok x) (g : b ρ = .ok y) (e : f x y = .ok z) : m2 f a b ρ = .ok z := by simp only [m2, Res.bind, h, g, e]
theorem cons_ok {a : EM} {r : AM} {ρ : Rho} {x : PyData} {xs : List PyData} (h : a ρ = .ok x) (g : r ρ = .ok xs) : mCons a r ρ = .ok (x :: xs) := by simp only [mCons, Res.bind, h, g]
theorem nil_ok {ρ : Rho} : mNil ρ = .ok [] := rfl
theorem ch_t {f g : DF} {a b c : EM} {ρ : Rho} {x y z r : PyData} (ha : a ρ = .ok x) (hb : b ρ = .ok y) (e1 : f x y = .ok (.bool true)) (hc : c ρ = .ok z) (e2 : g y z = .ok r) : mCh f g a b c ρ = .ok r := by
  simp only [mCh, Res.bind, ha, hb, e1, toB, hc, e2, if_true]
theorem ch_f {f g : DF} {a b c : EM} {ρ : Rho} {x y : PyData} (ha : a ρ = .ok x) (hb : b ρ = .ok y) (e1 : f x y = .ok (.bool false)) : mCh f g a b c ρ = .ok (.bool false) := by
  simp only [mCh, Res.bind, ha, hb, e1, toB, Bool.false_eq_true, if_false]
/-- bounds of ints -/
theorem ch_int {p q : Int → Int → Bool} {a b c : EM} {ρ : Rho} {i j k : Int} (ha : a ρ = .ok (.int i)) (hb : b ρ = .ok (.int j)) (hc : c ρ = .ok (.int k)) : mCh (dInt p) (dInt q) a b c ρ = .ok (.bool (p i j && q j k)) := by
  cases h : p i j with
  | true => exact (ch_t ha hb (by show Res.ok (PyData.bool (p i j)) = _; rw [h]) hc rfl).trans (by rw [Bool.true_and])
  | false => exact (ch_f ha hb (by show Res.ok (PyData.bool (p i j)) = _; rw [h])).trans (by rw [Bool.false_and])
theorem wh_t {c : TM} {mb : SM} {n : Nat} {ρ ρ2 : Rho} (h : c ρ = .ok true) (h2 : mb ρ = .nx ρ2) : whGo c mb (n + 1) ρ = whGo c mb n ρ2 := by
  rw [whGo, h]
  simp only [sBind, if_true, h2]
theorem wh_f {c : TM} {mb : SM} {n : Nat} {ρ : Rho} (h : c ρ = .ok false) : whGo c mb (n + 1) ρ = .nx ρ := by
  rw [whGo, h]
  simp only [sBind, Bool.false_eq_true, if_false]
theorem iR1_ok {ms : AM} {ρ : Rho} {ds es : List PyData} (h : ms ρ = .ok ds) (g : rng1 ds = .ok es) : iR1 ms ρ = .ok es := by
  simp only [iR1, Res.bind, h, g]
theorem iR2_ok {ms : AM} {ρ : Rho} {ds es : List PyData} (h : ms ρ = .ok ds) (g : rng2 ds = .ok es) : iR2 ms ρ = .ok es := by
  simp only [iR2, Res.bind, h, g]
end Stm
set_option Elab.async false
set_option linter.all false
set_option maxRecDepth 100000
set_option maxHeartbeats 4000000
namespace Stm
open PySem PySem.Spec PyProof.Rows L2
local macro_rules | `(tactic| walk_at "ev") => `(tactic| simp only [mFun, sSeq, sIf, sBind, mB, m2, mVar, mOwn, mC, mCB, mCall, mCons, mNil, mTup, mLst, Res.bind, dLen, dInt, toB, sRet, sSet, sNil, sExpr, sRaise, sRetO, dAdd, dSub, outR, mAnd, mOr, mNot, mAndV, mOrV, mNotV, mCh, mIsi, isT, tyOf, sOwnL, LIM, List.map_cons, List.map_nil, List.cons_append, List.nil_append, List.replicate, List.getElem?_cons_zero, List.getElem?_cons_succ, List.set_cons_zero, List.set_cons_succ, List.length_map, List.length_cons, List.length_nil, if_true, if_false, decide_eq_true_eq, Bool.false_eq_true, Bool.true_and, Bool.and_true, Bool.not_true, Bool.not_false, ite_true, ite_false, Nat.zero_le, decide_true, decide_false, Nat.reduceAdd, Nat.reduceLeDiff, *])
theorem mul_r {i j : Int} (h : -(2 ^ 64) < j ∧ j < 2 ^ 64) : dMul (.int i) (.int j) = .ok (.int (i * j)) := by
  unfold dMul
  simp only
  rw [if_pos (CMul.ok (.inr h))]
theorem mul_l {i j : Int} (h : -(2 ^ 64) < i ∧ i < 2 ^ 64) : dMul (.int i) (.int j) = .ok (.int (i * j)) := by
  unfold dMul
  simp only
  rw [if_pos (CMul.ok (.inl h))]
theorem mod_pos {i j : Int} (h : 0 < j) : dMod (.int i) (.int j) = .ok (.int (i % j)) := by
  unfold dMod
  simp only
  rw [if_pos (by omega), Int.fmod_eq_emod_of_nonneg i (by omega)]
theorem fdiv_pos {i j : Int} (h : 0 < j) (h2 : j < 1073741824) : dFdiv (.int i) (.int j) = .ok (.int (i / j)) := by
  unfold dFdiv
  simp only
  rw [if_pos (by omega), Int.fdiv_eq_ediv_of_nonneg i (by omega)]
theorem cell_at_ok (ns : List Int) (k : Int) (hk : 0 ≤ k) : ∃ x : Int, M_law_cell_at [eI ns, .int k] = .ok (.int x) := by
  unfold M_law_cell_at
  by_cases h : k < (ns.length : Int)
  · refine ⟨ns.getD k.toNat 0, ?_⟩
    have h2 : dIx (eI ns) (.int k) = .ok (.int (ns.getD k.toNat 0)) := dIx_int hk (by
      have hl : k.toNat < ns.length := by omega
      rw [List.getElem?_map, List.getElem?_eq_getElem hl, List.getD_eq_getElem?_getD, List.getElem?_eq_getElem hl]; rfl)
    unfold eI at h2 ⊢
    walk_at "ev"
  · have h3 := encI.dEq (by omega) ns []
    cases ns with
    | nil =>
      refine ⟨0, ?_⟩
      unfold eI at h3 ⊢
      simp only [List.map_nil, decide_true] at h3
      have h0 : ¬ k < ((0 : Nat) : Int) := by simp only [List.length_nil] at h; exact h
      clear h
      walk_at "ev"
    | cons a r =>
      have hm : 0 < ((a :: r).length : Int) := by simp only [List.length_cons]; omega
      have hj := Int.emod_nonneg k (Int.ne_of_gt hm)
      have hj2 := Int.emod_lt_of_pos k hm
      have hl : (k % ((a :: r).length : Int)).toNat < (a :: r).length := by omega
      refine ⟨(a :: r).getD (k % ((a :: r).length : Int)).toNat 0 * 31 + k, ?_⟩
      have h2 : dIx (eI (a :: r)) (.int (k % ((a :: r).length : Int))) = .ok (.int ((a :: r).getD (k % ((a :: r).length : Int)).toNat 0)) := dIx_int hj (by
        rw [List.getElem?_map, List.getElem?_eq_getElem hl, List.getD_eq_getElem?_getD, List.getElem?_eq_getElem hl]; rfl)
      have h4 : dMod (.int k) (.int ((a :: r).length : Int)) = .ok (.int (k % ((a :: r).length : Int))) := mod_pos hm
      have h5 : dMul (.int ((a :: r).getD (k % ((a :: r).length : Int)).toNat 0)) (.int 31) = .ok (.int ((a :: r).getD (k % ((a :: r).length : Int)).toNat 0 * 31)) := mul_r ⟨by decide, by decide⟩
      generalize (a :: r).getD (k % ((a :: r).length : Int)).toNat 0 = y at *
      have e0 : decide ((a :: r : List Int) = []) = false := decide_eq_false (by simp)
      rw [e0] at h3
      generalize hns : (a :: r) = ns at *
      unfold eI at h2 h3 ⊢
      have e1 : (List.map PyData.int ([] : List Int)) = [] := rfl
      rw [e1] at h3
      walk_at "ev"
theorem mixed_ok (ns : List Int) (k many : Int) (hk : 0 ≤ k) (hm : 0 < many) : ∃ v : Int, M_law_mixed [eI ns, .int k, .int many] = .ok (.int v) ∧ 0 ≤ v ∧ v < many := by
  obtain ⟨x, hx⟩ := cell_at_ok ns k hk
  have h1 : dMul (.int 7919) (.int k) = .ok (.int (7919 * k)) := mul_l ⟨by decide, by decide⟩
  have h2 : dMul (.int (x + 7919 * k + 1)) (.int 48271) = .ok (.int ((x + 7919 * k + 1) * 48271)) := mul_r ⟨by decide, by decide⟩
  have h3 : dMod (.int ((x + 7919 * k + 1) * 48271)) (.int 2147483647) = .ok (.int ((x + 7919 * k + 1) * 48271 % 2147483647)) := mod_pos (by decide)
  have b1 := Int.emod_nonneg ((x + 7919 * k + 1) * 48271) (b := 2147483647) (by decide)
  have b2 := Int.emod_lt_of_pos ((x + 7919 * k + 1) * 48271) (b := 2147483647) (by decide)
  generalize (x + 7919 * k + 1) * 48271 % 2147483647 = y at *
  have h4 : dMul (.int y) (.int y) = .ok (.int (y * y)) := mul_r ⟨by omega, by omega⟩
  have h5 : dMul (.int 7) (.int y) = .ok (.int (7 * y)) := mul_r ⟨by omega, by omega⟩
  have h6 : dMod (.int (y * y + 7 * y + k)) (.int 2147483629) = .ok (.int ((y * y + 7 * y + k) % 2147483629)) := mod_pos (by decide)
  have h7 : dMod (.int ((y * y + 7 * y + k) % 2147483629)) (.int many) = .ok (.int ((y * y + 7 * y + k) % 2147483629 % many)) := mod_pos hm
  refine ⟨(y * y + 7 * y + k) % 2147483629 % many, ?_, Int.emod_nonneg _ (by omega), Int.emod_lt_of_pos _ hm⟩
  unfold M_law_mixed
  walk_at "ev"
end Stm
set_option Elab.async false
set_option linter.all false
set_option maxRecDepth 100000
set_option maxHeartbeats 4000000
namespace Stm
open PySem PySem.Spec PyProof.Rows L2
local macro_rules | `(tactic| walk_at "ev") => `(tactic| simp only [mFun, sSeq, sIf, sBind, mB, m2, mVar, mOwn, mC, mCB, mCall, mCons, mNil, mTup, mLst, Res.bind, dLen, dInt, toB, sRet, sSet, sNil, sExpr, sRaise, sRetO, dAdd, dSub, outR, mAnd, mOr, mNot, mAndV, mOrV, mNotV, mCh, mIsi, isT, tyOf, sOwnL, LIM, List.map_cons, List.map_nil, List.cons_append, List.nil_append, List.replicate, List.getElem?_cons_zero, List.getElem?_cons_succ, List.set_cons_zero, List.set_cons_succ, List.length_map, List.length_cons, List.length_nil, if_true, if_false, decide_eq_true_eq, Bool.false_eq_true, Bool.true_and, Bool.and_true, Bool.not_true, Bool.not_false, ite_true, ite_false, Nat.zero_le, decide_true, decide_false, Nat.reduceAdd, Nat.reduceLeDiff, *])
theorem for_inv {α J : Type} {enc : α → PyData} {t : TgM} {mb : SM} {xs : List α} (E : J → Rho) (I : List α → J → Prop) (h : ∀ pre x post j, xs = pre ++ x :: post → I pre j → ∃ j', turn1 t mb (enc x) (E j) = .nx (E j') ∧ I (pre ++ [x]) j') :
    ∀ j, I [] j → ∃ j', forGo t mb (xs.map enc) (E j) = .nx (E j') ∧ I xs j' := by
  have go : ∀ post pre, xs = pre ++ post → ∀ j, I pre j → ∃ j', forGo t mb (post.map enc) (E j) = .nx (E j') ∧ I xs j' := by
    intro post
    induction post with
    | nil => intro pre e j hj; rw [List.append_nil] at e; exact ⟨j, rfl, by rw [e]; exact hj⟩
    | cons x post ih =>
      intro pre e j hj
      obtain ⟨j1, e1, i1⟩ := h pre x post j e hj
      obtain ⟨j2, e2, i2⟩ := ih (pre ++ [x]) (by rw [e, List.append_assoc]; rfl) j1 i1
      refine ⟨j2, ?_, i2⟩
      rw [List.map_cons, forGo_cons, e1]
      exact e2
  exact fun j hj => go xs [] rfl j hj
def cntR (r : List (Option Int)) : Nat := r.countP (·.isSome)
def stampsN (s : Sheet) : Nat := (s.map cntR).sum
structure Valid (s : Sheet) : Prop where
  rows : 1 ≤ s.length ∧ s.length ≤ 5
  cols : ∃ w, 1 ≤ w ∧ w ≤ 5 ∧ ∀ r ∈ s, r.length = w
  worth : ∀ r ∈ s, ∀ v, some v ∈ r → 1 ≤ v ∧ v ≤ 9999
  cnt : 1 ≤ stampsN s ∧ stampsN s ≤ 12
structure GoodS (s : Sheet) (m : Nat) : Prop where
  rows : 1 ≤ s.length ∧ s.length ≤ 3
  cols : ∃ w, 1 ≤ w ∧ w ≤ 5 ∧ ∀ r ∈ s, r.length = w
  worth : ∀ r ∈ s, ∀ v, some v ∈ r → 1 ≤ v ∧ v ≤ 9999
  cnt : 1 ≤ stampsN s ∧ stampsN s ≤ m
theorem GoodS.valid {s : Sheet} {m : Nat} (h : GoodS s m) (hm : m ≤ 12) : Valid s := ⟨⟨h.rows.1, by have := h.rows.2; omega⟩, h.cols, h.worth, ⟨h.cnt.1, Nat.le_trans h.cnt.2 hm⟩⟩
theorem app_ok {i : Nat} {m : EM} {ρ : Rho} {ds : List PyData} {d : PyData} (h : ρ[i]? = some (.own ds)) (hm : m ρ = .ok d) (hl : ds.length < LIM) : sApp i m ρ = .nx (ρ.set i (.own (ds ++ [d]))) := by
  unfold sApp
  simp only [h, hm, sBind]
  rw [if_pos hl]
/-- the body of the inner loop of the law's sheet -/
abbrev shIn : SM := (sSeq (sSet 12 (mCall M_law_mixed (mCons (mVar 0) (mCons (m2 dAdd (m2 dAdd (m2 dAdd (mVar 1) (mC (.int 4))) (m2 dMul (mVar 4) (mVar 9))) (mVar 11)) (mCons (m2 dMul (mC (.int 10)) (mVar 5)) mNil))))) (sSeq (sSet 13 (m2 dAdd (mC (.int 1)) (m2 dFdiv (mVar 12) (mC (.int 10))))) (sSeq (sIf (mOr (mB (m2 dEq (mVar 7) (mC (.int 0)))) (mAnd (mB (m2 dLt (m2 dMod (mVar 12) (mC (.int 10))) (mVar 6))) (mOr (mB (m2 dLt (mVar 7) (mVar 2))) (mOr (mB (m2 dLt (m2 dAdd (mVar 9) (mC (.int 1))) (mVar 3))) (mB (m2 dLt (m2 dAdd (mVar 11) (mC (.int 1))) (mVar 4))))))) (sSet 13 (mC .none)) (sSet 7 (m2 dSub (mVar 7) (mC (.int 1))))) (sApp 10 (mVar 13)))))
abbrev shE (ns : List Int) (at_ most rows cols top holes left : Int) (made : List PyData) (row : Int) (pl : List (Option Int)) (a b c : Sl) : Rho :=
  [.val (eI ns), .val (.int at_), .val (.int most), .val (.int rows), .val (.int cols), .val (.int top), .val (.int holes), .val (.int left), .own made, .val (.int row), .own (pl.map eO), a, b, c]
theorem sh_turn (ns : List Int) (at_ most rows cols top holes left : Int) (made : List PyData) (row : Int) (pl : List (Option Int)) (a b c : Sl) (col : Int) (h0 : 0 ≤ at_) (h1 : 0 ≤ row) (h2 : 0 ≤ col) (hc : 0 ≤ cols ∧ cols ≤ 5) (ht : 1 ≤ top ∧ top ≤ 9999) (hl : 0 ≤ left) (hp : pl.length < 100) :
    ∃ (o : Option Int) (b' c' : Sl), turn1 (gN 11) shIn (.int col) (shE ns at_ most rows cols top holes left made row pl a b c) = .nx (shE ns at_ most rows cols top holes (if o.isSome then left - 1 else left) made row (pl ++ [o]) (.val (.int col)) b' c') ∧
      (∀ v, o = some v → 1 ≤ v ∧ v ≤ 9999 ∧ left ≠ 0) ∧ (o = none → left = 0 ∨ left < most ∨ row + 1 < rows ∨ col + 1 < cols) := by
  have hcr : 0 ≤ cols * row := Int.mul_nonneg hc.1 h1
  obtain ⟨v, hv, v1, v2⟩ := mixed_ok ns (at_ + 4 + cols * row + col) (10 * top) (by omega) (by omega)
  have e1 : dMul (.int cols) (.int row) = .ok (.int (cols * row)) := mul_l ⟨by omega, by omega⟩
  have e2 : dMul (.int 10) (.int top) = .ok (.int (10 * top)) := mul_l ⟨by decide, by decide⟩
  have e3 : dFdiv (.int v) (.int 10) = .ok (.int (v / 10)) := fdiv_pos (by decide) (by decide)
  have e4 : dMod (.int v) (.int 10) = .ok (.int (v % 10)) := mod_pos (by decide)
  have e5 : dEq (.int left) (.int 0) = .ok (.bool (decide (left = 0))) := Enc.int.dEq (by omega) left 0
  have hlim : (pl.map eO).length < LIM := by rw [List.length_map]; exact Nat.lt_trans hp (by decide)
  have hg : ∀ s : Sl, (shE ns at_ most rows cols top holes left made row pl a b c).set 11 s = shE ns at_ most rows cols top holes left made row pl s b c := fun _ => rfl
  have ht1 : gN 11 (.int col) (shE ns at_ most rows cols top holes left made row pl a b c) = some (shE ns at_ most rows cols top holes left made row pl (.val (.int col)) b c) := rfl
  unfold turn1
  rw [ht1]
  show ∃ o b' c', shIn (shE ns at_ most rows cols top holes left made row pl (.val (.int col)) b c) = _ ∧ _
  have s1 : (sSet 12 (mCall M_law_mixed (mCons (mVar 0) (mCons (m2 dAdd (m2 dAdd (m2 dAdd (mVar 1) (mC (.int 4))) (m2 dMul (mVar 4) (mVar 9))) (mVar 11)) (mCons (m2 dMul (mC (.int 10)) (mVar 5)) mNil))))) (shE ns at_ most rows cols top holes left made row pl (.val (.int col)) b c) = .nx (shE ns at_ most rows cols top holes left made row pl (.val (.int col)) (.val (.int v)) c) := by
    refine (set_ok (d := .int v) ?_).trans rfl
    refine (call_ok (ds := [eI ns, .int (at_ + 4 + cols * row + col), .int (10 * top)]) ?_).trans hv
    walk_at "ev"
  have s2 : (sSet 13 (m2 dAdd (mC (.int 1)) (m2 dFdiv (mVar 12) (mC (.int 10))))) (shE ns at_ most rows cols top holes left made row pl (.val (.int col)) (.val (.int v)) c) = .nx (shE ns at_ most rows cols top holes left made row pl (.val (.int col)) (.val (.int v)) (.val (.int (1 + v / 10)))) := by
    refine (set_ok (d := .int (1 + v / 10)) ?_).trans rfl
    walk_at "ev"
  have hcond : (mOr (mB (m2 dEq (mVar 7) (mC (.int 0)))) (mAnd (mB (m2 dLt (m2 dMod (mVar 12) (mC (.int 10))) (mVar 6))) (mOr (mB (m2 dLt (mVar 7) (mVar 2))) (mOr (mB (m2 dLt (m2 dAdd (mVar 9) (mC (.int 1))) (mVar 3))) (mB (m2 dLt (m2 dAdd (mVar 11) (mC (.int 1))) (mVar 4))))))) (shE ns at_ most rows cols top holes left made row pl (.val (.int col)) (.val (.int v)) (.val (.int (1 + v / 10)))) =
      .ok (decide (left = 0 ∨ (v % 10 < holes ∧ (left < most ∨ row + 1 < rows ∨ col + 1 < cols)))) := by
    refine (t_or (t_b (m2_ok rfl rfl e5)) (t_and (t_b (m2_ok (m2_ok rfl rfl e4) rfl rfl)) (t_or (t_b (m2_ok rfl rfl rfl)) (t_or (t_b (m2_ok (m2_ok rfl rfl rfl) rfl rfl)) (t_b (m2_ok (m2_ok rfl rfl rfl) rfl rfl)))))).trans ?_
    congr 1
    simp only [Bool.decide_or, Bool.decide_and]
  by_cases hc2 : left = 0 ∨ (v % 10 < holes ∧ (left < most ∨ row + 1 < rows ∨ col + 1 < cols))
  · rw [decide_eq_true hc2] at hcond
    refine ⟨none, .val (.int v), .val .none, ?_, (fun v h => nomatch h), fun _ => ?_⟩
    · refine (seq_nx s1).trans ((seq_nx s2).trans ((seq_nx (ρ' := shE ns at_ most rows cols top holes left made row pl (.val (.int col)) (.val (.int v)) (.val .none)) ((if_t hcond).trans rfl)).trans ?_))
      refine (app_ok (ds := pl.map eO) (d := .none) rfl rfl hlim).trans ?_
      rw [show pl.map eO ++ [PyData.none] = (pl ++ [none]).map eO from by rw [List.map_append]; rfl]
      rfl
    · rcases hc2 with h | h
      · exact .inl h
      · exact .inr h.2
  · rw [decide_eq_false hc2] at hcond
    refine ⟨some (1 + v / 10), .val (.int v), .val (.int (1 + v / 10)), ?_, fun w h => ?_, (fun h => nomatch h)⟩
    · refine (seq_nx s1).trans ((seq_nx s2).trans ((seq_nx (ρ' := shE ns at_ most rows cols top holes (left - 1) made row pl (.val (.int col)) (.val (.int v)) (.val (.int (1 + v / 10)))) ((if_f hcond).trans ?_)).trans ?_))
      · walk_at "ev"
      refine (app_ok (ds := pl.map eO) (d := .int (1 + v / 10)) rfl rfl hlim).trans ?_
      rw [show pl.map eO ++ [PyData.int (1 + v / 10)] = (pl ++ [some (1 + v / 10)]).map eO from by rw [List.map_append]; rfl]
      rfl
    · cases h
      exact ⟨by omega, by omega, fun z => hc2 (.inl z)⟩
def WOk (pl : List (Option Int)) : Prop := ∀ v, some v ∈ pl → 1 ≤ v ∧ v ≤ 9999
theorem cntR_app (pl : List (Option Int)) (o : Option Int) : cntR (pl ++ [o]) = cntR pl + if o.isSome then 1 else 0 := by
  unfold cntR
  rw [List.countP_append]
  cases o <;> simp
theorem sh_inner (ns : List Int) (at_ most rows : Int) (cn : Nat) (top holes left : Int) (made : List PyData) (row : Int) (a b c : Sl) (h0 : 0 ≤ at_) (h1 : 0 ≤ row) (hc : 1 ≤ cn ∧ cn ≤ 5) (ht : 1 ≤ top ∧ top ≤ 9999) (hl : 0 ≤ left) (hm : 1 ≤ most) (hlm : left ≤ most) :
    ∃ (left' : Int) (pl : List (Option Int)) (a' b' c' : Sl), forGo (gN 11) shIn ((List.range cn).map fun (i : Nat) => PyData.int (i : Int)) (shE ns at_ most rows cn top holes left made row [] a b c) = .nx (shE ns at_ most rows cn top holes left' made row pl a' b' c') ∧
      pl.length = cn ∧ WOk pl ∧ left' + cntR pl = left ∧ 0 ≤ left' ∧ (rows ≤ row + 1 → left' < most) := by
  have := for_inv (enc := fun (i : Nat) => PyData.int (i : Int)) (t := gN 11) (mb := shIn) (xs := List.range cn) (J := Int × List (Option Int) × Sl × Sl × Sl)
    (fun j => shE ns at_ most rows cn top holes j.1 made row j.2.1 j.2.2.1 j.2.2.2.1 j.2.2.2.2)
    (fun pre j => j.2.1.length = pre.length ∧ WOk j.2.1 ∧ j.1 + cntR j.2.1 = left ∧ 0 ≤ j.1 ∧ (rows ≤ row + 1 → pre.length = cn → j.1 < most)) ?_ (left, [], a, b, c) ?_
  · obtain ⟨⟨l', pl, a', b', c'⟩, e, i1, i2, i3, i4, i5⟩ := this
    rw [List.length_range] at i1
    exact ⟨l', pl, a', b', c', e, i1, i2, i3, i4, fun h => i5 h List.length_range⟩
  · rintro pre x post ⟨l, pl, a1, b1, c1⟩ exs ⟨i1, i2, i3, i4, i5⟩
    simp only at i1 i2 i3 i4 i5 ⊢
    have hx : x = pre.length ∧ pre.length < cn := by
      have h3 : (List.range cn)[pre.length]? = some x := by rw [exs, List.getElem?_append_right (Nat.le_refl _), Nat.sub_self]; rfl
      have h4 : pre.length < cn := by
        have := (List.getElem?_eq_some_iff.mp h3).1
        rwa [List.length_range] at this
      rw [List.getElem?_range h4] at h3
      injection h3 with h3
      exact ⟨h3.symm, h4⟩
    obtain ⟨o, b2, c2, e, w1, w2⟩ := sh_turn ns at_ most rows cn top holes l made row pl a1 b1 c1 (x : Int) h0 h1 (by omega) ⟨by omega, by omega⟩ ht i4 (by omega)
    refine ⟨(if o.isSome then l - 1 else l, pl ++ [o], .val (.int (x : Int)), b2, c2), e, ?_⟩
    simp only
    refine ⟨by rw [List.length_append, List.length_append, i1]; rfl, ?_, ?_, ?_, ?_⟩
    · intro v hv
      rcases List.mem_append.mp hv with h | h
      · exact i2 v h
      · have := w1 v (List.mem_singleton.mp h).symm
        exact ⟨this.1, this.2.1⟩
    · rw [cntR_app]
      cases o with
      | none => simpa using i3
      | some v => simp; omega
    · cases o with
      | none => exact i4
      | some v => have := (w1 v rfl).2.2; simp; omega
    · intro hr hlast
      cases o with
      | none =>
        simp
        have hlast' : pre.length + 1 = cn := by simpa using hlast
        rcases w2 rfl with h | h | h | h
        · omega
        · exact h
        · omega
        · omega
      | some v => simp; omega
  · refine ⟨rfl, fun v hv => (nomatch hv), ?_, hl, fun _ h => ?_⟩
    · simp [cntR]
    · simp at h; omega
abbrev shOut : SM := (sSeq (sOwnL 10 mNil) (sSeq (sFor (iR1 (mCons (mVar 4) mNil)) (gN 11) shIn) (sApp 8 (mCB dToTup (mCons (mOwn 10) mNil)))))
abbrev shF (ns : List Int) (at_ most rows cols top holes left : Int) (made : Sheet) (a b c d e : Sl) : Rho :=
  [.val (eI ns), .val (.int at_), .val (.int most), .val (.int rows), .val (.int cols), .val (.int top), .val (.int holes), .val (.int left), .own (made.map eRow), a, b, c, d, e]
theorem sh_rows (ns : List Int) (at_ most : Int) (rn cn : Nat) (top holes : Int) (a b c d e : Sl) (h0 : 0 ≤ at_) (hr : 1 ≤ rn ∧ rn ≤ 3) (hc : 1 ≤ cn ∧ cn ≤ 5) (ht : 1 ≤ top ∧ top ≤ 9999) (hm : 1 ≤ most) :
    ∃ (left' : Int) (s : Sheet) (a' b' c' d' e' : Sl), forGo (gN 9) shOut ((List.range rn).map fun (i : Nat) => PyData.int (i : Int)) (shF ns at_ most rn cn top holes most [] a b c d e) = .nx (shF ns at_ most rn cn top holes left' s a' b' c' d' e') ∧
      s.length = rn ∧ (∀ r ∈ s, r.length = cn) ∧ (∀ r ∈ s, WOk r) ∧ left' + stampsN s = most ∧ 0 ≤ left' ∧ left' < most := by
  have := for_inv (enc := fun (i : Nat) => PyData.int (i : Int)) (t := gN 9) (mb := shOut) (xs := List.range rn) (J := Int × Sheet × Sl × Sl × Sl × Sl × Sl)
    (fun j => shF ns at_ most rn cn top holes j.1 j.2.1 j.2.2.1 j.2.2.2.1 j.2.2.2.2.1 j.2.2.2.2.2.1 j.2.2.2.2.2.2)
    (fun pre j => j.2.1.length = pre.length ∧ (∀ r ∈ j.2.1, r.length = cn) ∧ (∀ r ∈ j.2.1, WOk r) ∧ j.1 + stampsN j.2.1 = most ∧ 0 ≤ j.1 ∧ (pre.length = rn → j.1 < most)) ?_ (most, [], a, b, c, d, e) ?_
  · obtain ⟨⟨l', s, a', b', c', d', e'⟩, e, i1, i2, i3, i4, i5, i6⟩ := this
    rw [List.length_range] at i1
    exact ⟨l', s, a', b', c', d', e', e, i1, i2, i3, i4, i5, i6 List.length_range⟩
  · rintro pre x post ⟨l, s, a1, b1, c1, d1, e1⟩ exs ⟨i1, i2, i3, i4, i5, i6⟩
    simp only at i1 i2 i3 i4 i5 i6 ⊢
    have hx : x = pre.length ∧ pre.length < rn := by
      have h3 : (List.range rn)[pre.length]? = some x := by rw [exs, List.getElem?_append_right (Nat.le_refl _), Nat.sub_self]; rfl
      have h4 : pre.length < rn := by
        have := (List.getElem?_eq_some_iff.mp h3).1
        rwa [List.length_range] at this
      rw [List.getElem?_range h4] at h3
      injection h3 with h3
      exact ⟨h3.symm, h4⟩
    obtain ⟨l', pl, a2, b2, c2, e, w1, w2, w3, w4, w5⟩ := sh_inner ns at_ most rn cn top holes l (s.map eRow) (x : Int) c1 d1 e1 h0 (by omega) hc ht i5 hm (by omega)
    refine ⟨(l', s ++ [pl], .val (.int (x : Int)), .own (pl.map eO), a2, b2, c2), ?_, ?_⟩
    · simp only
      have hsl : (s.map eRow).length < LIM := by rw [List.length_map, i1]; exact Nat.lt_of_lt_of_le hx.2 (Nat.le_trans hr.2 (by decide))
      have hpl : (pl.map eO).length ≤ LIM := by rw [List.length_map, w1]; exact Nat.le_trans hc.2 (by decide)
      have t1 : gN 9 (.int (x : Int)) (shF ns at_ most rn cn top holes l s a1 b1 c1 d1 e1) = some (shF ns at_ most rn cn top holes l s (.val (.int (x : Int))) b1 c1 d1 e1) := rfl
      unfold turn1
      rw [t1]
      refine (seq_nx (ρ' := shE ns at_ most rn cn top holes l (s.map eRow) (x : Int) [] c1 d1 e1) rfl).trans ?_
      refine (seq_nx (ρ' := shE ns at_ most rn cn top holes l' (s.map eRow) (x : Int) pl a2 b2 c2) ?_).trans ?_
      · refine (sFor_ok (ds := (List.range cn).map fun (i : Nat) => PyData.int (i : Int)) ?_).trans e
        exact iR1_ok (ds := [.int (cn : Int)]) rfl (rng1_nat (Nat.le_trans hc.2 (by decide)))
      · refine (app_ok (ds := s.map eRow) (d := eRow pl) rfl ?_ hsl).trans ?_
        · refine (cb_ok (ds := [.list (pl.map eO)]) ?_).trans ?_
          · unfold mCons mOwn; rfl
          · rfl
        · rw [show s.map eRow ++ [eRow pl] = (s ++ [pl]).map eRow from by rw [List.map_append]; rfl]
          rfl
    · simp only
      have hst : stampsN (s ++ [pl]) = stampsN s + cntR pl := by unfold stampsN; rw [List.map_append, List.sum_append]; simp
      refine ⟨by rw [List.length_append, List.length_append, i1]; rfl, ?_, ?_, by rw [hst]; omega, w4, fun h => w5 ?_⟩
      · intro r h
        rcases List.mem_append.mp h with h | h
        · exact i2 r h
        · rw [List.mem_singleton.mp h]; exact w1
      · intro r h
        rcases List.mem_append.mp h with h | h
        · exact i3 r h
        · rw [List.mem_singleton.mp h]; exact w2
      · have : pre.length + 1 = rn := by simpa using h
        omega
  · refine ⟨rfl, fun r hr => (nomatch hr), fun r hr => (nomatch hr), ?_, by omega, fun h => ?_⟩
    · simp [stampsN]
    · simp at h; omega
theorem law_sheet_ok (ns : List Int) (at_ : Int) (most : Nat) (h0 : 0 ≤ at_) (hm : 1 ≤ most) : ∃ s, M_law_sheet [eI ns, .int at_, .int (most : Int)] = .ok (eS s) ∧ GoodS s most := by
  obtain ⟨r, hr, r1, r2⟩ := mixed_ok ns at_ 3 h0 (by omega)
  obtain ⟨c, hc, c1, c2⟩ := mixed_ok ns (at_ + 1) 5 (by omega) (by omega)
  obtain ⟨t, ht, t1, t2⟩ := mixed_ok ns (at_ + 2) 5 (by omega) (by omega)
  obtain ⟨o, ho, o1, o2⟩ := mixed_ok ns (at_ + 3) 4 (by omega) (by omega)
  obtain ⟨rn, rfl⟩ : ∃ n : Nat, r = n := ⟨r.toNat, by omega⟩
  obtain ⟨cn, rfl⟩ : ∃ n : Nat, c = n := ⟨c.toNat, by omega⟩
  have htop : ∃ top : Int, dIx (.list [.int 2, .int 5, .int 9, .int 30, .int 9999]) (.int t) = .ok (.int top) ∧ 1 ≤ top ∧ top ≤ 9999 := by
    obtain h | h | h | h | h : t = 0 ∨ t = 1 ∨ t = 2 ∨ t = 3 ∨ t = 4 := by omega
    all_goals subst h
    · exact ⟨2, rfl, by omega, by omega⟩
    · exact ⟨5, rfl, by omega, by omega⟩
    · exact ⟨9, rfl, by omega, by omega⟩
    · exact ⟨30, rfl, by omega, by omega⟩
    · exact ⟨9999, rfl, by omega, by omega⟩
  obtain ⟨top, etop, tp1, tp2⟩ := htop
  obtain ⟨left', s, a', b', c', d', e', e, i1, i2, i3, i4, i5, i6⟩ := sh_rows ns at_ most (rn + 1) (cn + 1) top o .un .un .un .un .un h0 ⟨by omega, by omega⟩ ⟨by omega, by omega⟩ ⟨tp1, tp2⟩ (by omega)
  have hrl : rn + 1 ≤ LIM := Nat.le_trans (show rn + 1 ≤ 5 by omega) (show 5 ≤ LIM by decide)
  refine ⟨s, ?_, ⟨⟨by omega, by omega⟩, ⟨cn + 1, by omega, by omega, i2⟩, i3, ⟨by omega, by omega⟩⟩⟩
  refine fun_rt ?_
  have z (d : PyData) : PyData.int d.depth = PyData.int d.depth := rfl
  refine (seq_nx (ρ' := [.val (eI ns), .val (.int at_), .val (.int most), .val (.int ((rn + 1 : Nat) : Int)), .un, .un, .un, .un, .un, .un, .un, .un, .un, .un]) ?_).trans ?_
  · refine (set_ok (d := .int ((rn + 1 : Nat) : Int)) (m2_ok rfl ((call_ok (ds := [eI ns, .int at_, .int 3]) rfl).trans hr) ?_)).trans rfl
    show Res.ok (PyData.int (1 + (rn : Int))) = _
    rw [Int.natCast_add, Int.add_comm]; rfl
  refine (seq_nx (ρ' := [.val (eI ns), .val (.int at_), .val (.int most), .val (.int ((rn + 1 : Nat) : Int)), .val (.int ((cn + 1 : Nat) : Int)), .un, .un, .un, .un, .un, .un, .un, .un, .un]) ?_).trans ?_
  · refine (set_ok (d := .int ((cn + 1 : Nat) : Int)) (m2_ok rfl ((call_ok (ds := [eI ns, .int (at_ + 1), .int 5]) rfl).trans hc) ?_)).trans rfl
    show Res.ok (PyData.int (1 + (cn : Int))) = _
    rw [Int.natCast_add, Int.add_comm]; rfl
  refine (seq_nx (ρ' := [.val (eI ns), .val (.int at_), .val (.int most), .val (.int ((rn + 1 : Nat) : Int)), .val (.int ((cn + 1 : Nat) : Int)), .val (.int top), .un, .un, .un, .un, .un, .un, .un, .un]) ?_).trans ?_
  · exact (set_ok (d := .int top) (m2_ok (x := .list [.int 2, .int 5, .int 9, .int 30, .int 9999]) rfl ((call_ok (ds := [eI ns, .int (at_ + 2), .int 5]) rfl).trans ht) etop)).trans rfl
  refine (seq_nx (ρ' := [.val (eI ns), .val (.int at_), .val (.int most), .val (.int ((rn + 1 : Nat) : Int)), .val (.int ((cn + 1 : Nat) : Int)), .val (.int top), .val (.int o), .un, .un, .un, .un, .un, .un, .un]) ?_).trans ?_
  · exact (set_ok (d := .int o) ((call_ok (ds := [eI ns, .int (at_ + 3), .int 4]) rfl).trans ho)).trans rfl
  refine (seq_nx (ρ' := [.val (eI ns), .val (.int at_), .val (.int most), .val (.int ((rn + 1 : Nat) : Int)), .val (.int ((cn + 1 : Nat) : Int)), .val (.int top), .val (.int o), .val (.int most), .un, .un, .un, .un, .un, .un]) rfl).trans ?_
  refine (seq_nx (ρ' := shF ns at_ most (rn + 1 : Nat) (cn + 1 : Nat) top o most [] .un .un .un .un .un) rfl).trans ?_
  refine (seq_nx (ρ' := shF ns at_ most (rn + 1 : Nat) (cn + 1 : Nat) top o left' s a' b' c' d' e') ?_).trans ?_
  · refine (sFor_ok (ds := (List.range (rn + 1)).map fun (i : Nat) => PyData.int (i : Int)) ?_).trans e
    exact iR1_ok (ds := [.int ((rn + 1 : Nat) : Int)]) rfl (rng1_nat hrl)
  · refine ret_ok ((cb_ok (ds := [.list (s.map eRow)]) rfl).trans ?_)
    have hpl : (s.map eRow).length ≤ LIM := by rw [List.length_map, i1]; exact Nat.le_trans (show rn + 1 ≤ 5 by omega) (by decide)
    rfl
end Stm
set_option Elab.async false
set_option linter.all false
set_option maxRecDepth 100000
set_option maxHeartbeats 4000000
namespace Stm
open PySem PySem.Spec PyProof.Rows L2
theorem ext_ok {i : Nat} {m : EM} {ρ : Rho} {ds es : List PyData} (h : ρ[i]? = some (.own ds)) (hm : m ρ = .ok (.list es)) (hl : ds.length + es.length ≤ LIM) : sExt i m ρ = .nx (ρ.set i (.own (ds ++ es))) := by
  unfold sExt
  simp only [h, hm, sBind]
  rw [if_pos hl]
theorem ownL_ok {i : Nat} {m : AM} {ρ : Rho} {ds : List PyData} (hm : m ρ = .ok ds) (hl : ds.length ≤ LIM) : sOwnL i m ρ = .nx (ρ.set i (.own ds)) := by
  unfold sOwnL
  simp only [hm, sBind]
  rw [if_pos hl]
theorem bools_map {α : Type} (p : α → Bool) : ∀ xs : List α, boolsOf (xs.map fun x => PyData.bool (p x)) = some (xs.map p)
  | [] => rfl
  | x :: xs => by
    rw [List.map_cons, boolsOf, bools_map p xs]; rfl
theorem ints_map {α : Type} (p : α → Int) : ∀ xs : List α, intsOf (xs.map fun x => PyData.int (p x)) = some (xs.map p)
  | [] => rfl
  | x :: xs => by
    rw [List.map_cons, intsOf, ints_map p xs]; rfl
theorem all_ok {α : Type} {enc : α → PyData} {vs : List Nat} {mi : Rho → Res (List PyData)} {t : TgM} {me : EM} {ρ : Rho} (p : α → Bool) (xs : List α) (hi : mi ρ = .ok (xs.map enc)) (hl : xs.length ≤ LIM) (h : ∀ x ∈ xs, ∃ ρ1, t (enc x) (wipeR ρ vs) = some ρ1 ∧ me ρ1 = .ok (.bool (p x))) :
    mCB dAll (mCons (mLc vs mi t mYes me) mNil) ρ = .ok (.bool (xs.all p)) := by
  refine (cb_ok (ds := [.list (xs.map fun x => PyData.bool (p x))]) (cons_ok (mLc_ok hi (by rw [List.length_map]; exact hl) (lc_all _ xs h)) rfl)).trans ?_
  unfold dAll
  simp only [bools_map]
  rw [List.all_map]; rfl
theorem sum_ok {α : Type} {enc : α → PyData} {vs : List Nat} {mi : Rho → Res (List PyData)} {t : TgM} {me : EM} {ρ : Rho} (p : α → Int) (xs : List α) (hi : mi ρ = .ok (xs.map enc)) (hl : xs.length ≤ LIM) (h : ∀ x ∈ xs, ∃ ρ1, t (enc x) (wipeR ρ vs) = some ρ1 ∧ me ρ1 = .ok (.int (p x))) :
    mCB dSum (mCons (mLc vs mi t mYes me) mNil) ρ = .ok (.int (xs.map p).sum) := by
  refine (cb_ok (ds := [.list (xs.map fun x => PyData.int (p x))]) (cons_ok (mLc_ok hi (by rw [List.length_map]; exact hl) (lc_all _ xs h)) rfl)).trans ?_
  unfold dSum
  simp only [ints_map]
theorem iA_list {m : EM} {ρ : Rho} {ds : List PyData} (h : m ρ = .ok (.list ds)) : iA m ρ = .ok ds := by simp only [iA, Res.bind, h, itemsA]
theorem iA_tuple {m : EM} {ρ : Rho} {ds : List PyData} (h : m ρ = .ok (.tuple ds)) : iA m ρ = .ok ds := by simp only [iA, Res.bind, h, itemsA]

/-! ### rows and cells -/
def rowOf (s : Sheet) (i : Nat) : List (Option Int) := s.getD i []
theorem ix_row {s : Sheet} {i : Nat} (h : i < s.length) : dIx (eS s) (.int (i : Int)) = .ok (eRow (rowOf s i)) := dIx_natT (by
  rw [List.getElem?_map, List.getElem?_eq_getElem h]
  unfold rowOf
  rw [List.getD_eq_getElem?_getD, List.getElem?_eq_getElem h]; rfl)
theorem ix_O {r : List (Option Int)} {j : Nat} (h : j < r.length) : dIx (eRow r) (.int (j : Int)) = .ok (eO (r.getD j none)) := dIx_natT (by
  rw [List.getElem?_map, List.getElem?_eq_getElem h]
  rw [List.getD_eq_getElem?_getD, List.getElem?_eq_getElem h]; rfl)
theorem isn_O (o : Option Int) : dIsNotN (eO o) .none = .ok (.bool o.isSome) := by cases o <;> rfl
theorem rowOf_mem {s : Sheet} {i : Nat} (h : i < s.length) : rowOf s i ∈ s := by
  unfold rowOf
  rw [List.getD_eq_getElem?_getD, List.getElem?_eq_getElem h]
  exact List.getElem_mem h
def rowCells (i : Nat) (r : List (Option Int)) : List Cell := ((List.range r.length).filter fun j => (r.getD j none).isSome).map fun (j : Nat) => ((i : Int), (j : Int))
def cellsOf (s : Sheet) : List Cell := (List.range s.length).flatMap fun i => rowCells i (rowOf s i)
/-- small enough for all that is done here -/
structure Fit (s : Sheet) : Prop where
  rows : s.length ≤ 5
  cols : ∀ r ∈ s, r.length ≤ 5
theorem Valid.fit {s : Sheet} (h : Valid s) : Fit s := ⟨h.rows.2, fun r hr => by obtain ⟨w, _, w2, e⟩ := h.cols; rw [e r hr]; exact w2⟩
theorem rowCells_len (i : Nat) (r : List (Option Int)) : (rowCells i r).length ≤ r.length := by
  unfold rowCells
  rw [List.length_map]
  exact Nat.le_trans (List.length_filter_le _ _) (Nat.le_of_eq List.length_range)
theorem pre_len {s : Sheet} (f : Fit s) {pre post : List Nat} (e : List.range s.length = pre ++ post) : (pre.flatMap fun i => rowCells i (rowOf s i)).length ≤ 25 := by
  have h1 : ∀ (l : List Nat), (∀ i ∈ l, i < s.length) → (l.flatMap fun i => rowCells i (rowOf s i)).length ≤ 5 * l.length := by
    intro l
    induction l with
    | nil => intro _; simp
    | cons a l ih =>
      intro h
      rw [List.flatMap_cons, List.length_append, List.length_cons]
      have := ih fun i hi => h i (List.mem_cons_of_mem _ hi)
      have h2 := Nat.le_trans (rowCells_len a (rowOf s a)) (f.cols _ (rowOf_mem (h a List.mem_cons_self)))
      omega
  have h2 := h1 pre fun i hi => by
    have : i ∈ List.range s.length := by rw [e]; exact List.mem_append_left _ hi
    exact List.mem_range.mp this
  have h3 : pre.length ≤ s.length := by
    have := congrArg List.length e
    rw [List.length_range, List.length_append] at this
    omega
  have := f.rows
  omega
theorem cells_len {s : Sheet} (f : Fit s) : (cellsOf s).length ≤ 25 := pre_len f (post := []) (by rw [List.append_nil])
theorem range_split {n : Nat} {pre post : List Nat} {x : Nat} (e : List.range n = pre ++ x :: post) : x = pre.length ∧ x < n := by
  have h3 : (List.range n)[pre.length]? = some x := by rw [e, List.getElem?_append_right (Nat.le_refl _), Nat.sub_self]; rfl
  have h4 : pre.length < n := by
    have := (List.getElem?_eq_some_iff.mp h3).1
    rwa [List.length_range] at this
  rw [List.getElem?_range h4] at h3
  injection h3 with h3
  exact ⟨h3.symm, h3 ▸ h4⟩
abbrev eN : Nat → PyData := fun i => .int (i : Int)
theorem rng_len_tuple {m : EM} {ρ : Rho} {ds : List PyData} (h : m ρ = .ok (.tuple ds)) (hl : ds.length ≤ LIM) : iR1 (mCons (mCB dLen (mCons m mNil)) mNil) ρ = .ok ((List.range ds.length).map eN) :=
  iR1_ok (cons_ok ((cb_ok (cons_ok h rfl)).trans rfl) rfl) (rng1_nat hl)
theorem rng_len_list {m : EM} {ρ : Rho} {ds : List PyData} (h : m ρ = .ok (.list ds)) (hl : ds.length ≤ LIM) : iR1 (mCons (mCB dLen (mCons m mNil)) mNil) ρ = .ok ((List.range ds.length).map eN) :=
  iR1_ok (cons_ok ((cb_ok (cons_ok h rfl)).trans rfl) rfl) (rng1_nat hl)
theorem lim5 {n : Nat} (h : n ≤ 5) : n ≤ LIM := Nat.le_trans h (by decide)
theorem lim100 {n : Nat} (h : n ≤ 100) : n ≤ LIM := Nat.le_trans h (by decide)
theorem cells_ok {s : Sheet} (f : Fit s) : M_cells_of [eS s] = .ok (eL (cellsOf s)) := by
  refine fun_rt ?_
  refine (seq_nx (ρ' := [.val (eS s), .own [], .un, .un]) rfl).trans ?_
  have key := for_pre (enc := eN) (t := gN 2) (mb := (sExt 1 (mLc [3] (iR1 (mCons (mCB dLen (mCons (m2 dIx (mVar 0) (mVar 2)) mNil)) mNil)) (gN 3) (mB (m2 dIsNotN (m2 dIx (m2 dIx (mVar 0) (mVar 2)) (mVar 3)) (mC .none))) (mTup (mCons (mVar 2) (mCons (mVar 3) mNil))))))
    (xs := List.range s.length) (J := Sl) (fun pre j => [.val (eS s), .own ((pre.flatMap fun i => rowCells i (rowOf s i)).map eC), j, .un]) (fun pre x post j e => by
      obtain ⟨_, hx⟩ := range_split e
      refine ⟨.val (eN x), ?_⟩
      unfold turn1
      have ht : gN 2 (eN x) [.val (eS s), .own ((pre.flatMap fun i => rowCells i (rowOf s i)).map eC), j, .un] = some [.val (eS s), .own ((pre.flatMap fun i => rowCells i (rowOf s i)).map eC), .val (eN x), .un] := rfl
      rw [ht]
      simp only
      have hrow : m2 dIx (mVar 0) (mVar 2) [.val (eS s), .own ((pre.flatMap fun i => rowCells i (rowOf s i)).map eC), .val (eN x), .un] = .ok (eRow (rowOf s x)) := m2_ok rfl rfl (ix_row hx)
      have hlen : (rowOf s x).length ≤ 5 := f.cols _ (rowOf_mem hx)
      have h1 := rng_len_tuple (m := m2 dIx (mVar 0) (mVar 2)) hrow (by rw [List.length_map]; exact lim5 hlen)
      rw [List.length_map] at h1
      refine (ext_ok (ds := (pre.flatMap fun i => rowCells i (rowOf s i)).map eC) (es := (rowCells x (rowOf s x)).map eC) rfl ?_ ?_).trans ?_
      · have h2 := lc_map (enc := eN) (t := gN 3) (mt := (mB (m2 dIsNotN (m2 dIx (m2 dIx (mVar 0) (mVar 2)) (mVar 3)) (mC .none)))) (me := (mTup (mCons (mVar 2) (mCons (mVar 3) mNil)))) (ρ := [.val (eS s), .own ((pre.flatMap fun i => rowCells i (rowOf s i)).map eC), .val (eN x), .un])
          (fun j => ((rowOf s x).getD j none).isSome) (fun (j : Nat) => eC ((x : Int), (j : Int))) (List.range (rowOf s x).length) (fun k hk => by
            refine ⟨[.val (eS s), .own ((pre.flatMap fun i => rowCells i (rowOf s i)).map eC), .val (eN x), .val (eN k)], rfl, ?_, fun _ => rfl⟩
            exact t_b (m2_ok (m2_ok (m2_ok rfl rfl (ix_row hx)) rfl (ix_O (List.mem_range.mp hk))) rfl (isn_O _)))
        refine (mLc_ok h1 (by rw [List.length_map, List.length_range]; exact lim5 hlen) h2).trans ?_
        unfold rowCells
        rw [List.map_map]; rfl
      · rw [List.length_map, List.length_map]
        have := pre_len f e
        have h3 := rowCells_len x (rowOf s x)
        exact lim100 (by omega)
      · rw [← List.map_append]
        rw [List.flatMap_append]
        simp only [List.flatMap_cons, List.flatMap_nil, List.append_nil]
        rfl) .un
  obtain ⟨j', e⟩ := key
  refine (seq_nx (ρ' := [.val (eS s), .own ((cellsOf s).map eC), j', .un]) ((sFor_ok (rng_len_tuple (ds := s.map eRow) rfl (by rw [List.length_map]; exact lim5 f.rows))).trans ?_)).trans rfl
  rw [List.length_map]
  exact e
theorem law_cells_ok {s : Sheet} (f : Fit s) : M_law_cells [eS s] = .ok (eL (cellsOf s)) := by
  refine fun_rt ?_
  refine (seq_nx (ρ' := [.val (eS s), .own [], .un, .un]) rfl).trans ?_
  have key := for_pre (enc := eN) (t := gN 2) (mb := (sFor (iR1 (mCons (mCB dLen (mCons (m2 dIx (mVar 0) (mVar 2)) mNil)) mNil)) (gN 3) (sIf (mB (m2 dIsNotN (m2 dIx (m2 dIx (mVar 0) (mVar 2)) (mVar 3)) (mC .none))) (sApp 1 (mTup (mCons (mVar 2) (mCons (mVar 3) mNil)))) sNil)))
    (xs := List.range s.length) (J := Sl × Sl) (fun pre j => [.val (eS s), .own ((pre.flatMap fun i => rowCells i (rowOf s i)).map eC), j.1, j.2]) (fun pre x post j e => by
      obtain ⟨_, hx⟩ := range_split e
      obtain ⟨j1, j2⟩ := j
      have hlen : (rowOf s x).length ≤ 5 := f.cols _ (rowOf_mem hx)
      have hpre := pre_len f e
      generalize hpp : (pre.flatMap fun i => rowCells i (rowOf s i)) = pp at *
      have key2 := for_pre (enc := eN) (t := gN 3) (mb := (sIf (mB (m2 dIsNotN (m2 dIx (m2 dIx (mVar 0) (mVar 2)) (mVar 3)) (mC .none))) (sApp 1 (mTup (mCons (mVar 2) (mCons (mVar 3) mNil)))) sNil))
        (xs := List.range (rowOf s x).length) (J := Sl) (fun pre2 j => [.val (eS s), .own ((pp ++ (pre2.filter fun j => ((rowOf s x).getD j none).isSome).map fun (j : Nat) => ((x : Int), (j : Int))).map eC), .val (eN x), j]) (fun pre2 k post2 j e2 => by
          obtain ⟨hk1, hk⟩ := range_split e2
          refine ⟨.val (eN k), ?_⟩
          unfold turn1
          generalize hqq : (pp ++ (pre2.filter fun j => ((rowOf s x).getD j none).isSome).map fun (j : Nat) => ((x : Int), (j : Int))) = qq
          have hq : qq.length < LIM := by
            rw [← hqq, List.length_append, List.length_map]
            have := List.length_filter_le (fun j => ((rowOf s x).getD j none).isSome) pre2
            exact Nat.lt_of_lt_of_le (show _ < 100 by omega) (by decide)
          have ht : gN 3 (eN k) [.val (eS s), .own (qq.map eC), .val (eN x), j] = some [.val (eS s), .own (qq.map eC), .val (eN x), .val (eN k)] := rfl
          rw [ht]
          simp only
          have hc : (mB (m2 dIsNotN (m2 dIx (m2 dIx (mVar 0) (mVar 2)) (mVar 3)) (mC .none))) [.val (eS s), .own (qq.map eC), .val (eN x), .val (eN k)] = .ok ((rowOf s x).getD k none).isSome := t_b (m2_ok (m2_ok (m2_ok rfl rfl (ix_row hx)) rfl (ix_O hk)) rfl (isn_O _))
          have hcat : pp ++ ((pre2 ++ [k]).filter fun j => ((rowOf s x).getD j none).isSome).map (fun (j : Nat) => ((x : Int), (j : Int))) = qq ++ ([k].filter fun j => ((rowOf s x).getD j none).isSome).map (fun (j : Nat) => ((x : Int), (j : Int))) := by
            rw [List.filter_append, List.map_append, ← List.append_assoc, hqq]
          rw [hcat]
          cases hb : ((rowOf s x).getD k none).isSome with
          | true =>
            rw [hb] at hc
            refine (if_t hc).trans ((app_ok (ds := qq.map eC) (d := eC ((x : Int), (k : Int))) rfl rfl (by rw [List.length_map]; exact hq)).trans ?_)
            rw [List.filter_cons_of_pos (by exact hb)]
            simp only [List.filter_nil, List.map_append, List.map_cons, List.map_nil]
            rfl
          | false =>
            rw [hb] at hc
            refine (if_f hc).trans ?_
            rw [List.filter_cons_of_neg (by rw [hb]; exact Bool.false_ne_true)]
            simp only [List.filter_nil, List.map_nil, List.append_nil]
            rfl) j2
      obtain ⟨j', e'⟩ := key2
      refine ⟨(.val (eN x), j'), ?_⟩
      unfold turn1
      have ht : gN 2 (eN x) [.val (eS s), .own (pp.map eC), j1, j2] = some [.val (eS s), .own (pp.map eC), .val (eN x), j2] := rfl
      rw [ht]
      simp only
      have hrow : m2 dIx (mVar 0) (mVar 2) [.val (eS s), .own (pp.map eC), .val (eN x), j2] = .ok (eRow (rowOf s x)) := m2_ok rfl rfl (ix_row hx)
      have h1 := rng_len_tuple (m := m2 dIx (mVar 0) (mVar 2)) hrow (by rw [List.length_map]; exact lim5 hlen)
      rw [List.length_map] at h1
      refine (sFor_ok h1).trans ?_
      simp only [List.filter_nil, List.map_nil, List.append_nil] at e'
      rw [e', List.flatMap_append, hpp]
      simp only [List.flatMap_cons, List.flatMap_nil, List.append_nil]
      rfl) (.un, .un)
  obtain ⟨j', e⟩ := key
  refine (seq_nx (ρ' := [.val (eS s), .own ((cellsOf s).map eC), j'.1, j'.2]) ((sFor_ok (rng_len_tuple (ds := s.map eRow) rfl (by rw [List.length_map]; exact lim5 f.rows))).trans ?_)).trans rfl
  rw [List.length_map]
  exact e
theorem rowCells_cnt (i : Nat) (r : List (Option Int)) : (rowCells i r).length = cntR r := by
  unfold rowCells cntR
  rw [List.length_map, ← List.countP_eq_length_filter]
  have h : r = (List.range r.length).map fun j => r.getD j none := List.ext_getElem (by simp) fun j h1 h2 => by
    simp only [List.getElem_map, List.getElem_range]
    rw [List.getD_eq_getElem?_getD, List.getElem?_eq_getElem h1]; rfl
  conv => rhs; rw [h]
  rw [List.countP_map]; rfl
theorem cells_cnt (s : Sheet) : (cellsOf s).length = stampsN s := by
  unfold cellsOf stampsN
  rw [List.length_flatMap]
  congr 1
  refine List.ext_getElem (by simp) fun i h1 h2 => ?_
  simp only [List.getElem_map, List.getElem_range]
  rw [rowCells_cnt]
  have : i < s.length := by simpa using h1
  unfold rowOf
  rw [List.getD_eq_getElem?_getD, List.getElem?_eq_getElem this]; rfl
end Stm
set_option Elab.async false
set_option linter.all false
set_option maxRecDepth 100000
set_option maxHeartbeats 4000000
namespace Stm
open PySem PySem.Spec PyProof.Rows L2
theorem fun_nx {n : Nat} {m : SM} {ds : List PyData} {ρ' : Rho} (h : m (ds.map Sl.val ++ List.replicate n Sl.un) = .nx ρ') : mFun n m ds = .ok .none := by unfold mFun; rw [h]; rfl
theorem is_whole_int (i : Int) : M_is_whole [.int i] = .ok (.bool true) := rfl
theorem is_whole_none : M_is_whole [.none] = .ok (.bool false) := rfl
theorem between_ok (i lo hi : Int) : M_between [.int i, .int lo, .int hi] = .ok (.bool (decide (lo ≤ i) && decide (i ≤ hi))) := by
  refine fun_rt (ret_ok ((v_and (x := true) (y := decide (lo ≤ i) && decide (i ≤ hi)) rfl ?_).trans ?_))
  · exact ch_int rfl rfl rfl
  · rfl
theorem need_number_ok (i hi : Int) (h1 : 1 ≤ i) (h2 : i ≤ hi) : M_need_number [.int i, .int hi] = .ok .none := by
  have h := between_ok i 1 hi
  rw [decide_eq_true h1, decide_eq_true h2] at h
  refine fun_nx (ρ' := [.val (.int i), .val (.int hi)]) ?_
  exact (if_f (t_not (x := true) (t_b ((call_ok (ds := [.int i, .int 1, .int hi]) rfl).trans h)))).trans rfl
theorem is_row_ok {r : List (Option Int)} {w : Nat} (h : r.length = w) (hw : WOk r) (hl : w ≤ 5) : M_is_row [eRow r, .int (w : Int)] = .ok (.bool true) := by
  refine fun_rt ?_
  refine (seq_nx (ρ' := [.val (eRow r), .val (.int (w : Int)), .un]) ?_).trans ?_
  · refine (if_f ?_).trans rfl
    refine (t_or (x := false) (y := false) rfl (t_b (m2_ok (x := .int (w : Int)) ((cb_ok (ds := [eRow r]) rfl).trans ?_) rfl ?_))).trans rfl
    · show Res.ok (PyData.int ((r.map eO).length : Int)) = _
      rw [List.length_map, h]
    · rw [Enc.int.dNe (by omega), decide_eq_true rfl]; rfl
  · refine ret_ok ((all_ok (enc := eO) (fun _ => true) r (iA_tuple rfl) (by rw [h]; exact lim5 hl) (fun o ho => ⟨[.val (eRow r), .val (.int (w : Int)), .val (eO o)], rfl, ?_⟩)).trans ?_)
    · cases o with
      | none => rfl
      | some v =>
        have hv := hw v ho
        refine (v_or (x := false) (y := true) rfl ?_).trans rfl
        refine (call_ok (ds := [.int v, .int 1, .int 9999]) rfl).trans ?_
        rw [between_ok, decide_eq_true hv.1, decide_eq_true hv.2]; rfl
    · rw [List.all_eq_true.mpr fun _ _ => rfl]
theorem Valid.pos {s : Sheet} (v : Valid s) : 0 < s.length := v.rows.1
theorem is_sheet_ok {s : Sheet} (v : Valid s) : M_is_sheet [eS s] = .ok (.bool true) := by
  obtain ⟨w, w1, w2, hw⟩ := v.cols
  have hr0 : (rowOf s 0).length = w := hw _ (rowOf_mem v.pos)
  have h0 : ∀ ρ : Rho, ρ[0]? = some (.val (eS s)) → m2 dIx (mVar 0) (mC (.int 0)) ρ = .ok (eRow (rowOf s 0)) := fun ρ h => m2_ok (x := eS s) (by unfold mVar; rw [h]) rfl (ix_row (i := 0) v.pos)
  have hl0 : ∀ ρ : Rho, ρ[0]? = some (.val (eS s)) → mCB dLen (mCons (m2 dIx (mVar 0) (mC (.int 0))) mNil) ρ = .ok (.int (w : Int)) := fun ρ h => (cb_ok (cons_ok (h0 ρ h) rfl)).trans (by
    show Res.ok (PyData.int (((rowOf s 0).map eO).length : Int)) = _
    rw [List.length_map, hr0])
  refine fun_rt ?_
  refine (seq_nx (ρ' := [.val (eS s), .un]) ?_).trans ((seq_nx (ρ' := [.val (eS s), .un]) ?_).trans ?_)
  · refine (if_f ?_).trans rfl
    refine (t_or (x := false) (y := false) rfl (t_or (x := false) (y := false) (t_not (x := true) (t_b ?_)) (t_not (x := true) (t_b ?_)))).trans rfl
    · refine (ch_int (i := 1) (j := (s.length : Int)) (k := 5) rfl ((cb_ok (ds := [eS s]) rfl).trans ?_) rfl).trans ?_
      · show Res.ok (PyData.int ((s.map eRow).length : Int)) = _
        rw [List.length_map]
      · have := v.rows
        simp only [decide_eq_true_eq, show ((1 : Int) ≤ s.length) from by omega, show ((s.length : Int) ≤ 5) from by omega, decide_true, Bool.and_true]
    · unfold mIsi
      rw [h0 _ rfl]; rfl
  · refine (if_f ?_).trans rfl
    refine (t_or (x := false) (y := false) (t_not (x := true) (t_b ?_)) (t_not (x := true) (t_b ?_))).trans rfl
    · refine (ch_int (i := 1) (j := (w : Int)) (k := 5) rfl (hl0 _ rfl) rfl).trans ?_
      simp only [decide_eq_true_eq, show ((1 : Int) ≤ w) from by omega, show ((w : Int) ≤ 5) from by omega, decide_true, Bool.and_true]
    · refine ((all_ok (enc := eRow) (fun _ => true) s (iA_tuple rfl) (lim5 v.rows.2) (fun r hr => ⟨[.val (eS s), .val (eRow r)], rfl, ?_⟩)).trans ?_)
      · refine (call_ok (ds := [eRow r, .int (w : Int)]) (cons_ok rfl (cons_ok (hl0 _ rfl) rfl))).trans (is_row_ok (hw r hr) (v.worth r hr) w2)
      · rw [List.all_eq_true.mpr fun _ _ => rfl]
  · refine ret_ok ((ch_int (i := 1) (j := (stampsN s : Int)) (k := 12) rfl ((cb_ok (ds := [eL (cellsOf s)]) (cons_ok ((call_ok (ds := [eS s]) rfl).trans (cells_ok v.fit)) rfl)).trans ?_) rfl).trans ?_)
    · show Res.ok (PyData.int (((cellsOf s).map eC).length : Int)) = _
      rw [List.length_map, cells_cnt]
    · have := v.cnt
      simp only [decide_eq_true_eq, show ((1 : Int) ≤ stampsN s) from by omega, show ((stampsN s : Int) ≤ 12) from by omega, decide_true, Bool.and_true]
theorem checked_ok {s : Sheet} (v : Valid s) : M_checked [eS s] = .ok (eS s) := by
  refine fun_rt ((seq_nx (ρ' := [.val (eS s)]) ?_).trans rfl)
  exact (if_f (t_not (x := true) (t_b ((call_ok (ds := [eS s]) rfl).trans (is_sheet_ok v))))).trans rfl
theorem around_ok (c : Cell) : M_around [eC c] = .ok (eL [(c.1 - 1, c.2), (c.1, c.2 - 1), (c.1, c.2 + 1), (c.1 + 1, c.2)]) := rfl
end Stm
set_option Elab.async false
set_option linter.all false
set_option maxRecDepth 100000
set_option maxHeartbeats 4000000
namespace Stm
open PySem PySem.Spec PyProof.Rows L2
/-! ### the order -/
abbrev clt (c d : Cell) : Prop := c.1 < d.1 ∨ (c.1 = d.1 ∧ c.2 < d.2)
abbrev cle (c d : Cell) : Bool := decide (c.1 < d.1 ∨ (c.1 = d.1 ∧ c.2 ≤ d.2))
theorem dle_lex (a b : PyData) : dle a b = !lexLt itemOrd (PySem.W.keyToks b) (PySem.W.keyToks a) := rfl
theorem dle_total : PySem.W.TotalLe dle := PySem.W.sortLe_total _ _ _
theorem tot_of {α : Type} (enc : α → PyData) : PySem.W.TotalLe fun a b => dle (enc a) (enc b) := ⟨fun a b c h1 h2 => dle_total.trans _ _ _ h1 h2, fun a b => dle_total.total _ _⟩
theorem dle_anti {a b : PyData} (h1 : dle a b = true) (h2 : dle b a = true) : PySem.W.keyToks a = PySem.W.keyToks b := by
  rw [dle_lex, Bool.not_eq_true'] at h1 h2
  exact lex_total (O := itemOrd) _ _ h2 h1
theorem toks_cell (c : Cell) : PySem.W.keyToks (eC c) = [.inl 1, .inl c.1, .inl 1, .inl c.2, .inl 0] := by
  unfold eC
  simp only [PySem.W.keyToks, PySem.W.keyToksAll, List.cons_append, List.nil_append]
theorem toks_cell_inj {c d : Cell} (h : PySem.W.keyToks (eC c) = PySem.W.keyToks (eC d)) : c = d := by
  rw [toks_cell, toks_cell] at h
  simp only [List.cons.injEq, Sum.inl.injEq, and_true, true_and] at h
  exact Prod.ext h.1 h.2
theorem blt_int (a b : Int) : itemOrd.blt (.inl a) (.inl b) = decide (a < b) := rfl
theorem it_int (a b : Int) : itemLt (.inl a) (.inl b) = decide (a < b) := rfl
theorem dle_cell (c d : Cell) : dle (eC c) (eC d) = cle c d := by
  rw [dle_lex, toks_cell, toks_cell]
  have e : lexLt itemOrd [] [] = false := rfl
  simp only [lex_cons (O := itemOrd), it_int, e]
  unfold cle
  rw [Bool.eq_iff_iff]
  simp only [Bool.not_eq_true', Bool.or_eq_false_iff, Bool.and_eq_false_iff, decide_eq_false_iff_not, Bool.not_eq_false', decide_eq_true_eq, Bool.not_eq_true, Int.lt_irrefl, not_false_eq_true, true_and, false_or, and_true, or_true]
  obtain ⟨a, b⟩ := c
  obtain ⟨a', b'⟩ := d
  simp only
  constructor
  · intro h
    omega
  · intro h
    omega
theorem toks_piece_inj : ∀ {p q : List Cell}, PySem.W.keyToksAll (p.map eC) = PySem.W.keyToksAll (q.map eC) → p = q
  | [], [], _ => rfl
  | [], d :: q, h => by simp [PySem.W.keyToksAll] at h
  | c :: p, [], h => by simp [PySem.W.keyToksAll] at h
  | c :: p, d :: q, h => by
    simp only [List.map_cons, PySem.W.keyToksAll, toks_cell, List.cons_append, List.nil_append, List.cons.injEq, Sum.inl.injEq, true_and] at h
    obtain ⟨h1, h2, h3⟩ := h
    rw [toks_piece_inj h3, Prod.ext h1 h2]
theorem piece_anti {p q : List Cell} (h1 : dle (eP p) (eP q) = true) (h2 : dle (eP q) (eP p) = true) : p = q := by
  have := dle_anti h1 h2
  unfold eP at this
  simp only [PySem.W.keyToks] at this
  exact toks_piece_inj this
theorem cell_anti {p q : Cell} (h1 : dle (eC p) (eC q) = true) (h2 : dle (eC q) (eC p) = true) : p = q := toks_cell_inj (dle_anti h1 h2)
def eLP (p : List Cell) : PyData := .tuple [.int p.length, eP p]
theorem alike_cell (c d : Cell) : PySem.W.alike (eC c) (eC d) = true := by
  unfold eC
  simp [PySem.W.alike, PySem.W.alikeAll]
theorem alike_all {α : Type} {enc : α → PyData} (h : ∀ a b, PySem.W.alike (enc a) (enc b) = true) : ∀ xs ys : List α, PySem.W.alikeAll (xs.map enc) (ys.map enc) = true
  | [], _ => by simp [PySem.W.alikeAll]
  | _ :: _, [] => by simp [PySem.W.alikeAll]
  | x :: xs, y :: ys => by simp only [List.map_cons, PySem.W.alikeAll, h, alike_all h xs ys, Bool.and_self]
theorem alike_piece (p q : List Cell) : PySem.W.alike (eP p) (eP q) = true := by
  unfold eP
  simp only [PySem.W.alike]
  exact alike_all alike_cell p q
theorem alike_LP (p q : List Cell) : PySem.W.alike (eLP p) (eLP q) = true := by
  have := alike_piece p q
  unfold eLP
  simp [PySem.W.alike, PySem.W.alikeAll, this]
theorem toks_LP (p : List Cell) : PySem.W.keyToks (eLP p) = .inl 1 :: .inl (p.length : Int) :: .inl 1 :: (PySem.W.keyToks (eP p) ++ [.inl 0]) := by
  unfold eLP
  simp only [PySem.W.keyToks, PySem.W.keyToksAll, List.cons_append, List.nil_append]
theorem dle_LP_lt {p q : List Cell} (h : p.length < q.length) : dle (eLP p) (eLP q) = true := by
  rw [dle_lex, toks_LP, toks_LP, lex_self (O := itemOrd), lex_diff (O := itemOrd) (by intro e; injection e with e; omega), blt_int]
  rw [decide_eq_false (by omega)]; rfl
theorem dle_LP_eq {p q : List Cell} (h : p.length = q.length) : dle (eLP p) (eLP q) = dle (eP p) (eP q) := by
  rw [dle_lex, dle_lex, toks_LP, toks_LP, lex_self (O := itemOrd), h, lex_self (O := itemOrd), lex_self (O := itemOrd)]
  congr 1
  have t := PySem.W.toks_eqv (eP q) (eP p) (alike_piece q p)
  cases e : PyData.eqv (eP q) (eP p) with
  | true =>
    rw [t.1 e]
    rw [lex_irrefl (O := itemOrd), lex_irrefl (O := itemOrd)]
  | false =>
    rw [t.2 e]
theorem LP_anti {p q : List Cell} (h1 : dle (eLP p) (eLP q) = true) (h2 : dle (eLP q) (eLP p) = true) : p = q := by
  by_cases h : p.length = q.length
  · rw [dle_LP_eq h] at h1
    rw [dle_LP_eq h.symm] at h2
    exact piece_anti h1 h2
  · have := dle_anti h1 h2
    rw [toks_LP, toks_LP] at this
    simp only [List.cons.injEq, Sum.inl.injEq, true_and] at this
    exact absurd (by omega) h
theorem sorted_uniq {α : Type} {enc : α → PyData} (anti : ∀ a b, dle (enc a) (enc b) = true → dle (enc b) (enc a) = true → a = b) {l m : List α} (hm : m.Pairwise fun a b => dle (enc a) (enc b) = true) (hn : m.Nodup) (hl : l.Nodup) (mem : ∀ a, a ∈ m ↔ a ∈ l) :
    m = l.mergeSort fun a b => dle (enc a) (enc b) := by
  have hs := PySem.W.sort_pairwise (tot_of enc) l
  exact List.Perm.eq_of_pairwise (le := fun a b => dle (enc a) (enc b) = true) (fun a b _ _ h1 h2 => anti a b h1 h2) hm hs (((List.perm_ext_iff_of_nodup hn hl).mpr mem).trans (List.mergeSort_perm l _).symm)
theorem sorted_enc {α : Type} {enc : α → PyData} (ha : ∀ a b, PySem.W.alike (enc a) (enc b) = true) (ht : (∀ a, tupB (enc a) = true) ∨ ∀ a, otherB (enc a) = true) (hd : ∀ a, (enc a).depth ≤ 50) (xs : List α) (hl : xs.length ≤ LIM) :
    dSorted [.list (xs.map enc)] = .ok (.list ((xs.mergeSort fun a b => dle (enc a) (enc b)).map enc)) ∧ dSorted [.tuple (xs.map enc)] = .ok (.list ((xs.mergeSort fun a b => dle (enc a) (enc b)).map enc)) := by
  have hb : sortB (xs.map enc) = true ∧ (xs.map enc).length ≤ LIM := by
    refine ⟨?_, by rw [List.length_map]; exact hl⟩
    unfold sortB alikeB
    simp only [Bool.and_eq_true, Bool.or_eq_true, List.all_eq_true, List.mem_map, forall_exists_index, and_imp, forall_apply_eq_imp_iff₂, decide_eq_true_eq]
    exact ⟨⟨fun a _ b _ => ha a b, ht.imp (fun h a _ => h a) (fun h a _ => h a)⟩, fun a _ => hd a⟩
  have e := PySem.W.sort_maps (r := fun a b => dle (enc a) (enc b)) (s := dle) enc (l := xs) fun a _ b _ => rfl
  unfold dSorted
  simp only [if_pos hb, e, and_self]
theorem cells_sort (xs : List Cell) (hl : xs.length ≤ LIM) : dSorted [.list (xs.map eC)] = .ok (.list ((xs.mergeSort fun a b => dle (eC a) (eC b)).map eC)) ∧ dSorted [.tuple (xs.map eC)] = .ok (.list ((xs.mergeSort fun a b => dle (eC a) (eC b)).map eC)) :=
  sorted_enc alike_cell (.inl fun c => by unfold eC tupB; rfl) (fun c => Nat.le_trans (encC.dp c) (by decide)) xs hl

/-! ### pieces -/
/-- a piece of K: its cells upwards -/
structure Pc (K p : List Cell) : Prop where
  up : p.Pairwise clt
  sub : ∀ c ∈ p, c ∈ K
abbrev csort (p : List Cell) : List Cell := p.mergeSort fun a b => dle (eC a) (eC b)
theorem csort_perm (p : List Cell) : (csort p).Perm p := List.mergeSort_perm p _
theorem clt_irr (c : Cell) : ¬ clt c c := by unfold clt; omega
theorem clt_tr {a b c : Cell} (h : clt a b) (g : clt b c) : clt a c := by unfold clt at *; omega
theorem clt_ne {c d : Cell} (h : clt c d) : c ≠ d := fun e => clt_irr c (by rw [← e] at h; exact h)
theorem up_nodup {p : List Cell} (h : p.Pairwise clt) : p.Nodup := h.imp fun g => clt_ne g
theorem csort_up {p : List Cell} (h : p.Nodup) : (csort p).Pairwise clt := by
  have h1 := PySem.W.sort_pairwise (tot_of eC) p
  have h2 : (csort p).Nodup := (csort_perm p).symm.nodup h
  refine (List.pairwise_iff_forall_sublist.mpr fun {a b} hs => ?_)
  have q1 := List.pairwise_iff_forall_sublist.mp h1 hs
  have q2 := List.pairwise_iff_forall_sublist.mp h2 hs
  rw [dle_cell] at q1
  have q3 := of_decide_eq_true q1
  unfold clt
  have : ¬ (a.1 = b.1 ∧ a.2 = b.2) := fun e => q2 (Prod.ext e.1 e.2)
  omega
theorem up_uniq {p q : List Cell} (hp : p.Pairwise clt) (hq : q.Pairwise clt) (h : p.Perm q) : p = q :=
  List.Perm.eq_of_pairwise (le := clt) (fun a b _ _ h1 h2 => absurd (clt_tr h1 h2) (clt_irr a)) hp hq h
theorem csort_pc {K p : List Cell} {d : Cell} (h : Pc K p) (hd : d ∈ K) (hn : d ∉ p) : Pc K (csort (p ++ [d])) := by
  refine ⟨csort_up ?_, fun c hc => ?_⟩
  · refine List.nodup_append.mpr ⟨up_nodup h.up, by simp, fun a ha b hb e => ?_⟩
    rw [List.mem_singleton.mp hb] at e
    exact hn (e ▸ ha)
  · rcases List.mem_append.mp ((csort_perm _).mem_iff.mp hc) with h2 | h2
    · exact h.sub c h2
    · rw [List.mem_singleton.mp h2]; exact hd
/-- all of K's pieces, the empty one with them -/
def subs (K : List Cell) : List (List Cell) := K.foldl (fun m c => m ++ m.map (· ++ [c])) [[]]
theorem subs_snoc (K : List Cell) (c : Cell) : subs (K ++ [c]) = subs K ++ (subs K).map (· ++ [c]) := by unfold subs; rw [List.foldl_append]; rfl
theorem snoc_ind {α : Type} {P : List α → Prop} (h0 : P []) (h1 : ∀ l a, P l → P (l ++ [a])) : ∀ l, P l := by
  have : ∀ n (l : List α), l.length = n → P l := by
    intro n
    induction n with
    | zero => intro l h; rw [List.length_eq_zero_iff.mp h]; exact h0
    | succ n ih =>
      intro l h
      have hne : l ≠ [] := by intro e; rw [e] at h; cases h
      rw [← List.dropLast_concat_getLast hne]
      exact h1 _ _ (ih _ (by rw [List.length_dropLast, h]; rfl))
  exact fun l => this _ l rfl
theorem subs_len : ∀ K : List Cell, (subs K).length = 2 ^ K.length := snoc_ind rfl fun K c ih => by
  rw [subs_snoc, List.length_append, List.length_map, ih, List.length_append, List.length_singleton, Nat.pow_succ]; omega
theorem pair_app {K : List Cell} {c : Cell} (h : (K ++ [c]).Pairwise clt) : K.Pairwise clt ∧ ∀ a ∈ K, clt a c := by
  rw [List.pairwise_append] at h
  exact ⟨h.1, fun a ha => h.2.2 a ha c (List.mem_singleton.mpr rfl)⟩
theorem subs_mem : ∀ K : List Cell, K.Pairwise clt → ∀ p, p ∈ subs K ↔ Pc K p := snoc_ind (P := fun K => K.Pairwise clt → ∀ p, p ∈ subs K ↔ Pc K p) (fun _ p => by
    constructor
    · intro h
      have : p = [] := by simpa [subs] using h
      subst this
      exact ⟨List.Pairwise.nil, fun c hc => hc⟩
    · intro h
      cases p with
      | nil => simp [subs]
      | cons c p => exact absurd (h.sub c List.mem_cons_self) (by simp)) fun K c ih hK p => by
  obtain ⟨h1, h2⟩ := pair_app hK
  rw [subs_snoc, List.mem_append, ih h1, List.mem_map]
  constructor
  · rintro (h | ⟨q, hq, rfl⟩)
    · exact ⟨h.up, fun d hd => List.mem_append_left _ (h.sub d hd)⟩
    · have hq := (ih h1 q).mp hq
      refine ⟨List.pairwise_append.mpr ⟨hq.up, List.pairwise_singleton _ _, fun a ha b hb => ?_⟩, fun d hd => ?_⟩
      · rw [List.mem_singleton.mp hb]; exact h2 a (hq.sub a ha)
      · rcases List.mem_append.mp hd with h | h
        · exact List.mem_append_left _ (hq.sub d h)
        · exact List.mem_append_right _ h
  · intro h
    by_cases hc : c ∈ p
    · refine .inr ?_
      obtain ⟨a, b, rfl⟩ := List.append_of_mem hc
      have hb : b = [] := by
        cases b with
        | nil => rfl
        | cons d b =>
          exfalso
          have h3 : clt c d := by
            have := (List.pairwise_append.mp h.up).2.1
            rw [List.pairwise_cons] at this
            exact this.1 d List.mem_cons_self
          have h4 := h.sub d (by simp)
          rcases List.mem_append.mp h4 with h5 | h5
          · exact clt_irr _ (clt_tr h3 (h2 d h5))
          · rw [List.mem_singleton.mp h5] at h3; exact clt_irr _ h3
      subst hb
      obtain ⟨g1, g2⟩ := pair_app h.up
      refine ⟨a, (ih h1 a).mpr ⟨g1, fun d hd => ?_⟩, rfl⟩
      rcases List.mem_append.mp (h.sub d (List.mem_append_left _ hd)) with h5 | h5
      · exact h5
      · have := g2 d hd
        rw [List.mem_singleton.mp h5] at this
        exact absurd this (clt_irr _)
    · refine .inl ⟨h.up, fun d hd => ?_⟩
      rcases List.mem_append.mp (h.sub d hd) with h5 | h5
      · exact h5
      · rw [List.mem_singleton.mp h5] at hd; exact absurd hd hc
theorem subs_nodup : ∀ K : List Cell, K.Pairwise clt → (subs K).Nodup := snoc_ind (P := fun K => K.Pairwise clt → (subs K).Nodup) (fun _ => by simp [subs]) fun K c ih hK => by
  obtain ⟨h1, h2⟩ := pair_app hK
  rw [subs_snoc]
  refine List.nodup_append.mpr ⟨ih h1, ?_, fun a ha b hb e => ?_⟩
  · refine List.Pairwise.map _ (fun a b hne e => hne (List.append_cancel_right e)) (ih h1)
  · obtain ⟨q, hq, rfl⟩ := List.mem_map.mp hb
    have := ((subs_mem K h1 a).mp ha).sub c (by rw [e]; simp)
    exact clt_irr _ (h2 c this)
theorem pcs_len {K : List Cell} (hK : K.Pairwise clt) (hl : K.length ≤ 12) {xs : List (List Cell)} (hn : xs.Nodup) (h : ∀ p ∈ xs, Pc K p) : xs.length ≤ 4096 := by
  refine Nat.le_trans (hn.length_le_of_subset (l₂ := subs K) fun p hp => (subs_mem K hK p).mpr (h p hp)) ?_
  rw [subs_len]
  exact Nat.pow_le_pow_right (by omega) hl
end Stm
set_option Elab.async false
set_option linter.all false
set_option maxRecDepth 100000
set_option maxHeartbeats 4000000
namespace Stm
open PySem PySem.Spec PyProof.Rows L2
/-! ### pieces as keys -/
def nkC (c : Cell) : NestedKey := .tup [.num c.1, .num c.2]
def nkP (p : List Cell) : NestedKey := .tup (p.map nkC)
theorem keyOf_cell (c : Cell) : keyOf (eC c) = some (nkC c) := by
  unfold eC nkC
  simp [keyOf, keysOf]
theorem keysOf_cells : ∀ p : List Cell, keysOf (p.map eC) = some (p.map nkC)
  | [] => by simp [keysOf]
  | c :: p => by simp only [List.map_cons, keysOf, keyOf_cell, keysOf_cells p]; rfl
theorem keyOf_piece (p : List Cell) : keyOf (eP p) = some (nkP p) := by
  unfold eP nkP
  simp only [keyOf, keysOf_cells]; rfl
theorem nkP_data (p : List Cell) : (nkP p).data = eP p := keyOf_data _ _ (keyOf_piece p)
theorem nkP_inj {p q : List Cell} (h : nkP p = nkP q) : p = q := encP.inj _ _ (by rw [← nkP_data, ← nkP_data, h])
theorem nk_depthAll : ∀ p : List Cell, NestedKey.depthAll (p.map nkC) ≤ 2
  | [] => by simp [NestedKey.depthAll]
  | c :: p => by
    have := nk_depthAll p
    simp [List.map_cons, NestedKey.depthAll, nkC, NestedKey.depth, this]
    omega
theorem nkP_depth (p : List Cell) : (nkP p).depth ≤ 8 := by
  have := nk_depthAll p
  unfold nkP
  simp only [NestedKey.depth]
  omega
theorem cIn (d : Cell) (K : List Cell) : dIn (eC d) (.list (K.map eC)) = .ok (.bool (decide (d ∈ K))) := by
  rw [encC.dIn (by decide)]; congr
theorem cInT (d : Cell) (K : List Cell) : dIn (eC d) (.tuple (K.map eC)) = .ok (.bool (decide (d ∈ K))) := by
  rw [encC.dInT (by decide)]; congr
theorem cNotIn (d : Cell) (K : List Cell) : dNotIn (eC d) (.list (K.map eC)) = .ok (.bool (!decide (d ∈ K))) := by
  rw [encC.dNotIn (by decide)]; congr
theorem cNotInT (d : Cell) (K : List Cell) : dNotIn (eC d) (.tuple (K.map eC)) = .ok (.bool (!decide (d ∈ K))) := by
  rw [encC.dNotInT (by decide)]; congr
def putP (ks : List (List Cell)) (q : List Cell) : List (List Cell) := if q ∈ ks then ks else ks ++ [q]
def putAll (ks qs : List (List Cell)) : List (List Cell) := qs.foldl putP ks
theorem putAll_app (ks a b : List (List Cell)) : putAll ks (a ++ b) = putAll (putAll ks a) b := by unfold putAll; rw [List.foldl_append]
theorem putAll_mem : ∀ (qs ks : List (List Cell)) (p : List Cell), p ∈ putAll ks qs ↔ p ∈ ks ∨ p ∈ qs
  | [], ks, p => by simp [putAll]
  | q :: qs, ks, p => by
    show p ∈ putAll (putP ks q) qs ↔ _
    rw [putAll_mem qs, List.mem_cons]
    unfold putP
    by_cases h : q ∈ ks
    · rw [if_pos h]
      constructor
      · rintro (h1 | h1)
        · exact .inl h1
        · exact .inr (.inr h1)
      · rintro (h1 | h1 | h1)
        · exact .inl h1
        · exact .inl (h1 ▸ h)
        · exact .inr h1
    · rw [if_neg h, List.mem_append, List.mem_singleton, or_assoc]
theorem putAll_nodup : ∀ (qs ks : List (List Cell)), ks.Nodup → (putAll ks qs).Nodup
  | [], ks, h => h
  | q :: qs, ks, h => by
    show (putAll (putP ks q) qs).Nodup
    refine putAll_nodup qs _ ?_
    unfold putP
    by_cases e : q ∈ ks
    · rw [if_pos e]; exact h
    · rw [if_neg e]
      exact List.nodup_append.mpr ⟨h, by simp, fun a ha b hb e2 => e (by rw [List.mem_singleton.mp hb] at e2; exact e2 ▸ ha)⟩
theorem dTput_map (ks : List (List Cell)) (q : List Cell) : dTput (ks.map nkP) (nkP q) = (putP ks q).map nkP := by
  unfold dTput putP
  by_cases h : q ∈ ks
  · rw [if_pos h, if_pos (List.mem_map_of_mem h)]
  · rw [if_neg h, if_neg, List.map_append]
    · rfl
    · intro h2
      obtain ⟨p, hp, e⟩ := List.mem_map.mp h2
      exact h (nkP_inj e ▸ hp)
def arnd (c : Cell) : List Cell := [(c.1 - 1, c.2), (c.1, c.2 - 1), (c.1, c.2 + 1), (c.1 + 1, c.2)]
/-- the bigger pieces by one cell -/
def candD (K p ds : List Cell) : List (List Cell) := (ds.filter fun d => decide (d ∈ K) && !decide (d ∈ p)).map fun d => csort (p ++ [d])
def candC (K p cs : List Cell) : List (List Cell) := cs.flatMap fun c => candD K p (arnd c)
def candP (K : List Cell) (ps : List (List Cell)) : List (List Cell) := ps.flatMap fun p => candC K p p
theorem candD_app (K p a b : List Cell) : candD K p (a ++ b) = candD K p a ++ candD K p b := by unfold candD; rw [List.filter_append, List.map_append]
theorem candD_pc {K p ds : List Cell} (h : Pc K p) : ∀ q ∈ candD K p ds, Pc K q := fun q hq => by
  obtain ⟨d, hd, rfl⟩ := List.mem_map.mp hq
  have := (List.mem_filter.mp hd).2
  simp only [Bool.and_eq_true, Bool.not_eq_true', decide_eq_true_eq, decide_eq_false_iff_not] at this
  exact csort_pc h this.1 this.2
theorem candC_pc {K p cs : List Cell} (h : Pc K p) : ∀ q ∈ candC K p cs, Pc K q := fun q hq => by
  obtain ⟨c, _, hc⟩ := List.mem_flatMap.mp hq
  exact candD_pc h q hc
theorem candP_pc {K : List Cell} {ps : List (List Cell)} (h : ∀ p ∈ ps, Pc K p) : ∀ q ∈ candP K ps, Pc K q := fun q hq => by
  obtain ⟨c, h1, hc⟩ := List.mem_flatMap.mp hq
  exact candC_pc (h c h1) q hc
/-- K's size and order -/
structure KOk (K : List Cell) : Prop where
  up : K.Pairwise clt
  len : K.length ≤ 12
theorem KOk.lim {K : List Cell} (h : KOk K) {xs : List (List Cell)} (hn : xs.Nodup) (hp : ∀ p ∈ xs, Pc K p) : xs.length ≤ 4096 := pcs_len h.up h.len hn hp
theorem Pc.len {K p : List Cell} (h : Pc K p) (hK : KOk K) : p.length ≤ 12 := Nat.le_trans ((up_nodup h.up).length_le_of_subset fun c hc => h.sub c hc) hK.len
theorem lim4096 {n : Nat} (h : n ≤ 4096) : n < LIM := Nat.lt_of_le_of_lt h (by decide)
abbrev psort (xs : List (List Cell)) : List (List Cell) := xs.mergeSort fun p q => dle (eP p) (eP q)
theorem map_nk (ks : List (List Cell)) : (ks.map nkP).map NestedKey.data = ks.map eP := by
  rw [List.map_map]
  exact List.map_congr_left fun p _ => nkP_data p
theorem pieces_sort (xs : List (List Cell)) (hl : xs.length ≤ LIM) (hne : ∀ p ∈ xs, p ≠ []) : dSorted [.list (xs.map eP)] = .ok (.list ((psort xs).map eP)) := by
  have hb : sortB (xs.map eP) = true ∧ (xs.map eP).length ≤ LIM := by
    refine ⟨?_, by rw [List.length_map]; exact hl⟩
    unfold sortB alikeB
    simp only [Bool.and_eq_true, Bool.or_eq_true, List.all_eq_true, List.mem_map, forall_exists_index, and_imp, forall_apply_eq_imp_iff₂, decide_eq_true_eq]
    refine ⟨⟨fun a _ b _ => alike_piece a b, .inl fun a ha => ?_⟩, fun a _ => Nat.le_trans (encP.dp a) (by decide)⟩
    cases a with
    | nil => exact absurd rfl (hne _ ha)
    | cons c a => rfl
  have e := PySem.W.sort_maps (r := fun p q => dle (eP p) (eP q)) (s := dle) eP (l := xs) fun a _ b _ => rfl
  unfold dSorted
  simp only [if_pos hb, e]
theorem putT_ok {i : Nat} {m : EM} {ρ : Rho} {ks : List (List Cell)} {q : List Cell} (h : ρ[i]? = some (.dT (ks.map nkP))) (hm : m ρ = .ok (eP q)) (hl : ks.length < LIM) : sPutT i m ρ = .nx (ρ.set i (.dT ((putP ks q).map nkP))) := by
  unfold sPutT
  simp only [h, hm, sBind]
  have e := keyOf_piece q
  unfold eP at e ⊢
  simp only [e]
  rw [if_pos ⟨by rw [List.length_map]; exact hl, nkP_depth q⟩, dTput_map]
abbrev grD (K : List Cell) (xs : List (List Cell)) (ks : List (List Cell)) (a b c : Sl) : Rho := [.val (eL K), .val (.list (xs.map eP)), .dT (ks.map nkP), a, b, c]
theorem grown_ok {K : List Cell} {xs : List (List Cell)} (hK : KOk K) (hx : ∀ p ∈ xs, Pc K p) : M_grown [eL K, .list (xs.map eP)] = .ok (.list ((psort (putAll [] (candP K xs))).map eP)) := by
  have hlim : ∀ ks qs : List (List Cell), ks.Nodup → (∀ p ∈ ks, Pc K p) → (∀ p ∈ qs, Pc K p) → (putAll ks qs).length < LIM := fun ks qs h1 h2 h3 => lim4096 (hK.lim (putAll_nodup qs ks h1) fun p hp => by
    rcases (putAll_mem qs ks p).mp hp with h | h
    · exact h2 p h
    · exact h3 p h)
  refine fun_rt ?_
  refine (seq_nx (ρ' := grD K xs (putAll [] (candP K [])) .un .un .un) rfl).trans ?_
  have key := for_pre (enc := eP) (t := gN 3) (mb := (sFor (iA (mVar 3)) (gN 4) (sFor (iA (mCall M_around (mCons (mVar 4) mNil))) (gN 5) (sIf (mAnd (mB (m2 dIn (mVar 5) (mVar 0))) (mB (m2 dNotIn (mVar 5) (mVar 3)))) (sPutT 2 (mCB dToTup (mCons (mCB dSorted (mCons (m2 dAdd (mVar 3) (mTup (mCons (mVar 5) mNil))) mNil)) mNil))) sNil))))
    (xs := xs) (J := Sl × Sl × Sl) (fun pre j => grD K xs (putAll [] (candP K pre)) j.1 j.2.1 j.2.2) (fun pre p post j e => by
      have hp : Pc K p := hx p (by rw [e]; simp)
      have hpre : ∀ q ∈ candP K pre, Pc K q := candP_pc fun q hq => hx q (by rw [e]; simp [hq])
      obtain ⟨j1, j2, j3⟩ := j
      have hks : (putAll [] (candP K pre)).Nodup := putAll_nodup _ _ List.nodup_nil
      have hkp : ∀ q ∈ putAll [] (candP K pre), Pc K q := fun q hq => by
        rcases (putAll_mem _ _ _).mp hq with h | h
        · cases h
        · exact hpre q h
      generalize hk1 : putAll [] (candP K pre) = ks at *
      have key2 := for_pre (enc := eC) (t := gN 4) (mb := (sFor (iA (mCall M_around (mCons (mVar 4) mNil))) (gN 5) (sIf (mAnd (mB (m2 dIn (mVar 5) (mVar 0))) (mB (m2 dNotIn (mVar 5) (mVar 3)))) (sPutT 2 (mCB dToTup (mCons (mCB dSorted (mCons (m2 dAdd (mVar 3) (mTup (mCons (mVar 5) mNil))) mNil)) mNil))) sNil)))
        (xs := p) (J := Sl × Sl) (fun pre j => grD K xs (putAll ks (candC K p pre)) (.val (eP p)) j.1 j.2) (fun pre2 c post2 j e2 => by
          obtain ⟨j1, j2⟩ := j
          have hks2 : (putAll ks (candC K p pre2)).Nodup := putAll_nodup _ _ hks
          have hkp2 : ∀ q ∈ putAll ks (candC K p pre2), Pc K q := fun q hq => by
            rcases (putAll_mem _ _ _).mp hq with h | h
            · exact hkp q h
            · exact candC_pc hp q h
          generalize hk2 : putAll ks (candC K p pre2) = ks2 at *
          have key3 := for_pre (enc := eC) (t := gN 5) (mb := (sIf (mAnd (mB (m2 dIn (mVar 5) (mVar 0))) (mB (m2 dNotIn (mVar 5) (mVar 3)))) (sPutT 2 (mCB dToTup (mCons (mCB dSorted (mCons (m2 dAdd (mVar 3) (mTup (mCons (mVar 5) mNil))) mNil)) mNil))) sNil))
            (xs := arnd c) (J := Sl) (fun pre j => grD K xs (putAll ks2 (candD K p pre)) (.val (eP p)) (.val (eC c)) j) (fun pre3 d post3 j e3 => by
              refine ⟨.val (eC d), ?_⟩
              have hlt := hlim ks2 (candD K p pre3) hks2 hkp2 (candD_pc hp)
              rw [candD_app, putAll_app]
              generalize putAll ks2 (candD K p pre3) = ks3 at *
              unfold turn1
              have ht : gN 5 (eC d) (grD K xs ks3 (.val (eP p)) (.val (eC c)) j) = some (grD K xs ks3 (.val (eP p)) (.val (eC c)) (.val (eC d))) := rfl
              rw [ht]
              simp only
              have hcond : (mAnd (mB (m2 dIn (mVar 5) (mVar 0))) (mB (m2 dNotIn (mVar 5) (mVar 3)))) (grD K xs ks3 (.val (eP p)) (.val (eC c)) (.val (eC d))) = .ok (decide (d ∈ K) && !decide (d ∈ p)) :=
                t_and (t_b (m2_ok rfl rfl (cIn d K))) (t_b (m2_ok rfl rfl (cNotInT d p)))
              cases hb : (decide (d ∈ K) && !decide (d ∈ p)) with
              | true =>
                rw [hb] at hcond
                refine (if_t hcond).trans ?_
                have hl12 := hp.len hK
                refine (putT_ok (ks := ks3) (q := csort (p ++ [d])) rfl ?_ hlt).trans ?_
                · refine (cb_ok (ds := [.list ((csort (p ++ [d])).map eC)]) (cons_ok ((cb_ok (ds := [.tuple ((p ++ [d]).map eC)]) (cons_ok (m2_ok (x := eP p) (y := .tuple [eC d]) rfl rfl ?_) rfl)).trans (cells_sort (p ++ [d]) ?_).2) rfl)).trans rfl
                  · unfold eP dAdd
                    simp only
                    rw [if_pos (by rw [List.length_map]; exact lim100 (show p.length + 1 ≤ 100 by omega)), List.map_append]; rfl
                  · rw [List.length_append]; exact lim100 (show p.length + 1 ≤ 100 by omega)
                · unfold candD
                  rw [List.filter_cons_of_pos (by exact hb)]; rfl
              | false =>
                rw [hb] at hcond
                refine (if_f hcond).trans ?_
                unfold candD
                rw [List.filter_cons_of_neg (by rw [hb]; exact Bool.false_ne_true)]; rfl) j2
          obtain ⟨j', e'⟩ := key3
          refine ⟨(.val (eC c), j'), ?_⟩
          unfold turn1
          have ht : gN 4 (eC c) (grD K xs ks2 (.val (eP p)) j1 j2) = some (grD K xs ks2 (.val (eP p)) (.val (eC c)) j2) := rfl
          rw [ht]
          simp only
          refine (sFor_ok (iA_list (ds := (arnd c).map eC) ((call_ok (ds := [eC c]) rfl).trans (around_ok c)))).trans ?_
          refine (Eq.trans (congrArg _ ?_) e').trans ?_
          · rfl
          · show SRes.nx _ = SRes.nx _
            have : candC K p (pre2 ++ [c]) = candC K p pre2 ++ candD K p (arnd c) := by unfold candC; rw [List.flatMap_append]; simp
            rw [this, putAll_app, hk2]) (j2, j3)
      obtain ⟨⟨j2', j3'⟩, e'⟩ := key2
      refine ⟨(.val (eP p), j2', j3'), ?_⟩
      unfold turn1
      have ht : gN 3 (eP p) (grD K xs ks j1 j2 j3) = some (grD K xs ks (.val (eP p)) j2 j3) := rfl
      rw [ht]
      simp only
      refine (sFor_ok (iA_tuple (ds := p.map eC) rfl)).trans ?_
      refine (Eq.trans (congrArg _ ?_) e').trans ?_
      · rfl
      · show SRes.nx _ = SRes.nx _
        have : candP K (pre ++ [p]) = candP K pre ++ candC K p p := by unfold candP; rw [List.flatMap_append]; simp
        rw [this, putAll_app, hk1]) (.un, .un, .un)
  obtain ⟨⟨j1, j2, j3⟩, e⟩ := key
  refine (seq_nx (ρ' := grD K xs (putAll [] (candP K xs)) j1 j2 j3) ((sFor_ok (iA_list (ds := xs.map eP) rfl)).trans e)).trans ?_
  have hfin := hlim [] (candP K xs) List.nodup_nil (fun _ h => nomatch h) (candP_pc hx)
  refine ret_ok ((cb_ok (ds := [.list ((putAll [] (candP K xs)).map eP)]) (cons_ok ?_ rfl)).trans (pieces_sort _ (Nat.le_of_lt hfin) fun p hp => ?_))
  · show Res.ok (PyData.list (((putAll [] (candP K xs)).map nkP).map NestedKey.data)) = _
    rw [map_nk]
  · rcases (putAll_mem _ _ _).mp hp with h | h
    · cases h
    · obtain ⟨q, _, h2⟩ := List.mem_flatMap.mp h
      obtain ⟨c, _, h3⟩ := List.mem_flatMap.mp h2
      obtain ⟨d, _, rfl⟩ := List.mem_map.mp h3
      intro e0
      have := (csort_perm (q ++ [d])).length_eq
      rw [e0] at this
      simp at this
end Stm
set_option Elab.async false
set_option linter.all false
set_option maxRecDepth 100000
set_option maxHeartbeats 4000000
namespace Stm
open PySem PySem.Spec PyProof.Rows L2
def lvl (K : List Cell) : Nat → List (List Cell)
  | 0 => K.map fun c => [c]
  | n + 1 => psort (putAll [] (candP K (lvl K n)))
theorem psort_mem {xs : List (List Cell)} {p : List Cell} : p ∈ psort xs ↔ p ∈ xs := (List.mergeSort_perm xs _).mem_iff
theorem psort_nodup {xs : List (List Cell)} (h : xs.Nodup) : (psort xs).Nodup := (List.mergeSort_perm xs _).symm.nodup h
theorem lvl_pc {K : List Cell} (hK : KOk K) : ∀ n, ∀ p ∈ lvl K n, Pc K p
  | 0, p, h => by
    obtain ⟨c, hc, rfl⟩ := List.mem_map.mp h
    exact ⟨List.pairwise_singleton _ _, fun d hd => by rw [List.mem_singleton.mp hd]; exact hc⟩
  | n + 1, p, h => by
    rcases (putAll_mem _ _ _).mp (psort_mem.mp h) with h | h
    · cases h
    · exact candP_pc (lvl_pc hK n) p h
theorem lvl_len {K : List Cell} : ∀ n, ∀ p ∈ lvl K n, p.length = n + 1
  | 0, p, h => by
    obtain ⟨c, hc, rfl⟩ := List.mem_map.mp h
    rfl
  | n + 1, p, h => by
    rcases (putAll_mem _ _ _).mp (psort_mem.mp h) with h | h
    · cases h
    · obtain ⟨q, h1, h2⟩ := List.mem_flatMap.mp h
      obtain ⟨c, _, h3⟩ := List.mem_flatMap.mp h2
      obtain ⟨d, _, rfl⟩ := List.mem_map.mp h3
      rw [(csort_perm _).length_eq, List.length_append, lvl_len n q h1]; rfl
theorem lvl_nodup {K : List Cell} (hK : KOk K) : ∀ n, (lvl K n).Nodup
  | 0 => List.Pairwise.map _ (fun a b hne e => hne (by injection e)) (up_nodup hK.up)
  | n + 1 => psort_nodup (putAll_nodup _ _ List.nodup_nil)
theorem lvl_lim {K : List Cell} (hK : KOk K) (n : Nat) : (lvl K n).length ≤ 4096 := hK.lim (lvl_nodup hK n) (lvl_pc hK n)
def eLP2 (ps : List (List Cell)) : PyData := .list (ps.map eP)
def lvls (K : List Cell) (m : Nat) : List (List (List Cell)) := (List.range m).map (lvl K)
theorem lvls_succ (K : List Cell) (m : Nat) : lvls K (m + 1) = lvls K m ++ [lvl K m] := by unfold lvls; rw [List.range_succ, List.map_append]; rfl
theorem lvls_len (K : List Cell) (m : Nat) : (lvls K m).length = m := by unfold lvls; rw [List.length_map, List.length_range]
abbrev bySt (s : Sheet) (most : Int) (j : Nat) : Rho := [.val (eS s), .val (.int most), .val (eL (cellsOf s)), .own ((lvls (cellsOf s) j).map eLP2), .un]
theorem by_sizes_ok {s : Sheet} (f : Fit s) (hK : KOk (cellsOf s)) (hne : 1 ≤ (cellsOf s).length) (most : Nat) (hm : 1 ≤ most) :
    M_by_sizes [eS s, .int (most : Int)] = .ok (.list ((lvls (cellsOf s) (min most (cellsOf s).length)).map eLP2)) := by
  refine fun_rt ?_
  refine (seq_nx (ρ' := [.val (eS s), .val (.int most), .val (eL (cellsOf s)), .un, .un]) ((set_ok ((call_ok (ds := [eS s]) rfl).trans (cells_ok f))).trans rfl)).trans ?_
  generalize hKK : cellsOf s = K at *
  have hk12 := hK.len
  refine (seq_nx (ρ' := [.val (eS s), .val (.int most), .val (eL K), .own ((lvls K 1).map eLP2), .un]) ?_).trans ?_
  · refine (ownL_ok (ds := [eLP2 (lvl K 0)]) (cons_ok ((mLc_ok (ds := K.map eC) (es := (K.map fun c => eP [c])) (iA_list rfl) (by rw [List.length_map]; exact lim100 (by omega)) (lc_all _ K fun c hc => ⟨_, rfl, rfl⟩)).trans ?_) rfl) (lim100 (show 1 ≤ 100 by decide))).trans rfl
    unfold eLP2 lvl
    rw [List.map_map]; rfl
  refine (seq_nx (ρ' := [.val (eS s), .val (.int most), .val (eL K), .own ((lvls K (min most K.length)).map eLP2), .un]) ?_).trans rfl
  show whGo _ _ 100 _ = _
  have hcond : ∀ j, (mB (m2 dLt (mCB dLen (mCons (mOwn 3) mNil)) (mCB dMin2 (mCons (mVar 1) (mCons (mCB dLen (mCons (mVar 2) mNil)) mNil))))) [.val (eS s), .val (.int most), .val (eL K), .own ((lvls K j).map eLP2), .un] = .ok (decide (j < min most K.length)) := fun j => by
    refine (t_b (b := decide ((j : Int) < (if (K.length : Int) < (most : Int) then (K.length : Int) else (most : Int)))) (m2_ok (x := .int (j : Int)) (y := .int (if (K.length : Int) < (most : Int) then (K.length : Int) else (most : Int))) ((cb_ok (ds := [.list ((lvls K j).map eLP2)]) rfl).trans ?_) ((cb_ok (ds := [.int most, .int (K.length : Int)]) (cons_ok rfl (cons_ok ((cb_ok (ds := [eL K]) rfl).trans ?_) rfl))).trans rfl) rfl)).trans ?_
    · show Res.ok (PyData.int (((lvls K j).map eLP2).length : Int)) = _
      rw [List.length_map, lvls_len]
    · show Res.ok (PyData.int ((K.map eC).length : Int)) = _
      rw [List.length_map]
    · congr 1
      refine decide_eq_decide.mpr ?_
      split <;> omega
  have go : ∀ k fuel j, 1 ≤ j → j + k = min most K.length → k < fuel → whGo (mB (m2 dLt (mCB dLen (mCons (mOwn 3) mNil)) (mCB dMin2 (mCons (mVar 1) (mCons (mCB dLen (mCons (mVar 2) mNil)) mNil))))) (sApp 3 (mCall M_grown (mCons (mVar 2) (mCons (m2 dIx (mOwn 3) (mC (.int (-1)))) mNil)))) fuel [.val (eS s), .val (.int most), .val (eL K), .own ((lvls K j).map eLP2), .un] = .nx [.val (eS s), .val (.int most), .val (eL K), .own ((lvls K (min most K.length)).map eLP2), .un] := by
    intro k
    induction k with
    | zero =>
      intro fuel j h1 h2 h3
      obtain ⟨fuel, rfl⟩ : ∃ f', fuel = f' + 1 := ⟨fuel - 1, by omega⟩
      have h := hcond j
      rw [decide_eq_false (by omega)] at h
      rw [wh_f h, show j = min most K.length by omega]
    | succ k ih =>
      intro fuel j h1 h2 h3
      obtain ⟨fuel, rfl⟩ : ∃ f', fuel = f' + 1 := ⟨fuel - 1, by omega⟩
      have h := hcond j
      rw [decide_eq_true (by omega)] at h
      refine (wh_t h (ρ2 := [.val (eS s), .val (.int most), .val (eL K), .own ((lvls K (j + 1)).map eLP2), .un]) ?_).trans (ih fuel (j + 1) (by omega) (by omega) (by omega))
      obtain ⟨i, rfl⟩ : ∃ i, j = i + 1 := ⟨j - 1, by omega⟩
      have hlast : dIx (.list ((lvls K (i + 1)).map eLP2)) (.int (-1)) = .ok (eLP2 (lvl K i)) := by
        rw [lvls_succ, List.map_append]; exact dIx_last
      refine (app_ok (ds := (lvls K (i + 1)).map eLP2) (d := eLP2 (lvl K (i + 1))) rfl ((call_ok (ds := [eL K, eLP2 (lvl K i)]) (cons_ok rfl (cons_ok (m2_ok rfl rfl hlast) rfl))).trans (grown_ok hK (lvl_pc hK i))) ?_).trans ?_
      · rw [List.length_map, lvls_len]; exact Nat.lt_of_lt_of_le (show i + 1 < 100 by omega) (by decide)
      · rw [lvls_succ K (i + 1), List.map_append]; rfl
  exact go (min most K.length - 1) 100 1 (by omega) (by omega) (by omega)
theorem flat_len {K : List Cell} (hK : KOk K) : ∀ m, (lvls K m).flatten.length ≤ 4096 * m
  | 0 => Nat.zero_le _
  | m + 1 => by
    rw [lvls_succ, List.flatten_append, List.length_append]
    have := flat_len hK m
    have := lvl_lim hK m
    simp only [List.flatten_cons, List.flatten_nil, List.append_nil]
    omega
theorem pieces_of_ok {s : Sheet} (f : Fit s) (hK : KOk (cellsOf s)) (hne : 1 ≤ (cellsOf s).length) (most : Nat) (hm : 1 ≤ most) :
    M_pieces_of [eS s, .int (most : Int)] = .ok (eLP2 (lvls (cellsOf s) (min most (cellsOf s).length)).flatten) := by
  refine fun_rt ?_
  refine (seq_nx (ρ' := [.val (eS s), .val (.int most), .own ((([] : List (List (List Cell))).flatten).map eP), .un]) rfl).trans ?_
  have hk12 := hK.len
  generalize hM : min most (cellsOf s).length = M
  have key := for_pre (enc := eLP2) (t := gN 3) (mb := (sExt 2 (mVar 3))) (xs := lvls (cellsOf s) M) (J := Sl) (fun pre j => [.val (eS s), .val (.int most), .own (pre.flatten.map eP), j]) (fun pre x post j e => by
    refine ⟨.val (eLP2 x), ?_⟩
    unfold turn1
    have ht : gN 3 (eLP2 x) [.val (eS s), .val (.int most), .own (pre.flatten.map eP), j] = some [.val (eS s), .val (.int most), .own (pre.flatten.map eP), .val (eLP2 x)] := rfl
    rw [ht]
    simp only
    refine (ext_ok (ds := pre.flatten.map eP) (es := x.map eP) rfl rfl ?_).trans ?_
    · have h1 := flat_len hK M
      rw [e, List.flatten_append, List.length_append, List.flatten_cons, List.length_append] at h1
      rw [List.length_map, List.length_map]
      refine Nat.le_trans (show _ ≤ 4096 * 12 by omega) (by decide)
    · rw [List.flatten_append, List.map_append]
      simp only [List.flatten_cons, List.flatten_nil, List.append_nil]
      rfl) .un
  obtain ⟨j, e⟩ := key
  refine (seq_nx (ρ' := [.val (eS s), .val (.int most), .own ((lvls (cellsOf s) M).flatten.map eP), j]) ((sFor_ok (iA_list (ds := (lvls (cellsOf s) M).map eLP2) ?_)).trans e)).trans rfl
  exact (call_ok (ds := [eS s, .int (most : Int)]) rfl).trans (by rw [by_sizes_ok f hK hne most hm, hM])
theorem cells_up (s : Sheet) : (cellsOf s).Pairwise clt := by
  unfold cellsOf
  rw [List.pairwise_flatMap]
  refine ⟨fun i hi => ?_, ?_⟩
  · unfold rowCells
    refine List.Pairwise.map _ (R := fun a b => a < b) (fun a b h => ?_) (List.Pairwise.filter _ (List.pairwise_lt_range))
    exact .inr ⟨rfl, Int.ofNat_lt.mpr h⟩
  · refine (List.pairwise_lt_range).imp fun {a b} h x hx y hy => ?_
    obtain ⟨_, _, rfl⟩ := List.mem_map.mp hx
    obtain ⟨_, _, rfl⟩ := List.mem_map.mp hy
    exact .inl (Int.ofNat_lt.mpr h)
theorem Valid.kok {s : Sheet} (v : Valid s) : KOk (cellsOf s) := ⟨cells_up s, by rw [cells_cnt]; exact v.cnt.2⟩
theorem Valid.kne {s : Sheet} (v : Valid s) : 1 ≤ (cellsOf s).length := by rw [cells_cnt]; exact v.cnt.1
theorem pieces_ok {s : Sheet} (v : Valid s) (most : Nat) (hm : 1 ≤ most) (hm2 : most ≤ 12) :
    M_pieces [eS s, .int (most : Int)] = .ok (eLP2 (lvls (cellsOf s) (min most (cellsOf s).length)).flatten) := by
  refine fun_rt ?_
  refine (seq_nx (ρ' := [.val (eS s), .val (.int most)]) (expr_ok ((call_ok (ds := [eS s]) rfl).trans (checked_ok v)))).trans ?_
  refine (seq_nx (ρ' := [.val (eS s), .val (.int most)]) (expr_ok ((call_ok (ds := [.int most, .int 12]) rfl).trans (need_number_ok _ _ (by omega) (by omega))))).trans ?_
  exact ret_ok ((call_ok (ds := [eS s, .int most]) rfl).trans (pieces_of_ok v.fit v.kok v.kne most hm))
theorem counts_ok {s : Sheet} (v : Valid s) : M_counts [eS s] = .ok (eI ((lvls (cellsOf s) (cellsOf s).length).map fun x => (x.length : Int))) := by
  refine fun_rt ?_
  refine (seq_nx (ρ' := [.val (eS s), .un]) (expr_ok ((call_ok (ds := [eS s]) rfl).trans (checked_ok v)))).trans ?_
  have h := by_sizes_ok v.fit v.kok v.kne 12 (by decide)
  have h12 := v.kok.len
  rw [show min 12 (cellsOf s).length = (cellsOf s).length by omega] at h
  refine ret_ok ((mLc_ok (ds := (lvls (cellsOf s) (cellsOf s).length).map eLP2) (es := (lvls (cellsOf s) (cellsOf s).length).map fun x => .int (x.length : Int)) (iA_list ((call_ok (ds := [eS s, .int 12]) rfl).trans h)) (by rw [List.length_map, lvls_len]; exact lim100 (by omega)) (lc_all _ _ fun x hx => ⟨_, rfl, ?_⟩)).trans ?_)
  · refine (cb_ok (ds := [eLP2 x]) rfl).trans ?_
    show Res.ok (PyData.int ((x.map eP).length : Int)) = _
    rw [List.length_map]
  · unfold eI
    rw [List.map_map]; rfl
end Stm
set_option Elab.async false
set_option linter.all false
set_option maxRecDepth 100000
set_option maxHeartbeats 4000000
namespace Stm
open PySem PySem.Spec PyProof.Rows L2
/-! ### pieces that hang together -/
inductive Grow : List Cell → Prop
  | one (c : Cell) : Grow [c]
  | ext {l : List Cell} {c d : Cell} : Grow l → d ∈ l → c ∈ arnd d → c ∉ l → Grow (l ++ [c])
def Conn (p : List Cell) : Prop := ∃ l, Grow l ∧ l.Perm p
theorem arnd_iff {c d : Cell} : c ∈ arnd d ↔ (c.1 = d.1 - 1 ∧ c.2 = d.2) ∨ (c.1 = d.1 ∧ c.2 = d.2 - 1) ∨ (c.1 = d.1 ∧ c.2 = d.2 + 1) ∨ (c.1 = d.1 + 1 ∧ c.2 = d.2) := by
  obtain ⟨a, b⟩ := c
  simp [arnd]
theorem arnd_symm {c d : Cell} (h : c ∈ arnd d) : d ∈ arnd c := by
  rw [arnd_iff] at h ⊢
  omega
theorem Grow.nodup {l : List Cell} (h : Grow l) : l.Nodup := by
  induction h with
  | one c => simp
  | ext h _ _ hn ih => exact List.nodup_append.mpr ⟨ih, by simp, fun a ha b hb e => hn (by rw [List.mem_singleton.mp hb] at e; exact e ▸ ha)⟩
theorem Grow.ne {l : List Cell} (h : Grow l) : l ≠ [] := by
  cases h <;> simp
theorem Grow.clo {l : List Cell} (h : Grow l) {S : Cell → Prop} : (∃ c ∈ l, S c) → (∀ a ∈ l, ∀ b ∈ l, S a → b ∈ arnd a → S b) → ∀ c ∈ l, S c := by
  induction h with
  | one c =>
    rintro ⟨d, hd, hs⟩ _ e he
    rw [List.mem_singleton.mp he]
    rwa [List.mem_singleton.mp hd] at hs
  | @ext l c d h hd hc hn ih =>
    intro hex hcl
    have hl : (∃ e ∈ l, S e) → ∀ e ∈ l ++ [c], S e := fun hx => by
      have h1 := ih hx fun a ha b hb => hcl a (List.mem_append_left _ ha) b (List.mem_append_left _ hb)
      intro e he
      rcases List.mem_append.mp he with h2 | h2
      · exact h1 e h2
      · rw [List.mem_singleton.mp h2]
        exact hcl d (List.mem_append_left _ hd) c (by simp) (h1 d hd) hc
    obtain ⟨e, he, hs⟩ := hex
    rcases List.mem_append.mp he with h2 | h2
    · exact hl ⟨e, h2, hs⟩
    · rw [List.mem_singleton.mp h2] at hs
      exact hl ⟨d, hd, hcl c (by simp) d (List.mem_append_left _ hd) hs (arnd_symm hc)⟩
theorem Conn.ne {p : List Cell} (h : Conn p) : p ≠ [] := by
  obtain ⟨l, hl, hp⟩ := h
  intro e
  subst e
  exact hl.ne hp.eq_nil
theorem lvl_spec {K : List Cell} (hK : KOk K) : ∀ n p, p ∈ lvl K n ↔ Pc K p ∧ p.length = n + 1 ∧ Conn p
  | 0, p => by
    constructor
    · intro h
      refine ⟨lvl_pc hK 0 p h, lvl_len 0 p h, ?_⟩
      obtain ⟨c, hc, rfl⟩ := List.mem_map.mp h
      exact ⟨[c], .one c, List.Perm.refl _⟩
    · rintro ⟨h1, h2, _⟩
      obtain ⟨c, rfl⟩ := List.length_eq_one_iff.mp h2
      exact List.mem_map.mpr ⟨c, h1.sub c (by simp), rfl⟩
  | n + 1, p => by
    constructor
    · intro h
      refine ⟨lvl_pc hK (n + 1) p h, lvl_len (n + 1) p h, ?_⟩
      rcases (putAll_mem _ _ _).mp (psort_mem.mp h) with h | h
      · cases h
      · obtain ⟨q, h1, h2⟩ := List.mem_flatMap.mp h
        obtain ⟨c, hc, h3⟩ := List.mem_flatMap.mp h2
        obtain ⟨d, hd, rfl⟩ := List.mem_map.mp h3
        obtain ⟨hd1, hd2⟩ := List.mem_filter.mp hd
        simp only [Bool.and_eq_true, Bool.not_eq_true', decide_eq_true_eq, decide_eq_false_iff_not] at hd2
        obtain ⟨l, hl, hlq⟩ := ((lvl_spec hK n q).mp h1).2.2
        exact ⟨l ++ [d], .ext hl (hlq.mem_iff.mpr hc) hd1 (fun hh => hd2.2 (hlq.mem_iff.mp hh)), (hlq.append_right _).trans (csort_perm _).symm⟩
    · rintro ⟨h1, h2, l, hl, hlp⟩
      have hll := hlp.length_eq
      cases hl with
      | one c => simp at hll; omega
      | @ext l' c d hl' hd hc hn =>
        have hn' := hl'.nodup
        have hq1 := csort_perm l'
        have hsub : ∀ e ∈ l' ++ [c], e ∈ K := fun e he => h1.sub e (hlp.mem_iff.mp he)
        have hq : csort l' ∈ lvl K n := (lvl_spec hK n _).mpr ⟨⟨csort_up hn', fun e he => hsub e (List.mem_append_left _ (hq1.mem_iff.mp he))⟩, by rw [hq1.length_eq]; rw [List.length_append, List.length_singleton] at hll; omega, ⟨l', hl', hq1.symm⟩⟩
        have hcq : c ∉ csort l' := fun h => hn (hq1.mem_iff.mp h)
        have hcK : c ∈ K := hsub c (by simp)
        have e : p = csort (csort l' ++ [c]) := up_uniq h1.up (csort_pc (lvl_pc hK n _ hq) hcK hcq).up ((hlp.symm.trans (hq1.symm.append_right _)).trans (csort_perm _).symm)
        refine psort_mem.mpr ((putAll_mem _ _ _).mpr (.inr (List.mem_flatMap.mpr ⟨_, hq, List.mem_flatMap.mpr ⟨d, hq1.mem_iff.mpr hd, List.mem_map.mpr ⟨c, List.mem_filter.mpr ⟨hc, ?_⟩, e.symm⟩⟩⟩)))
        simp [hcK, hcq]

/-! ### the law's own walk over a piece -/
theorem beside_ok (a b : Cell) : M_law_beside [eC a, eC b] = .ok (.bool (decide (a ∈ arnd b))) := by
  refine fun_rt (ret_ok ((m2_ok (x := .int ((if a.1 - b.1 < 0 then -(a.1 - b.1) else a.1 - b.1) + (if a.2 - b.2 < 0 then -(a.2 - b.2) else a.2 - b.2))) (y := .int 1) rfl rfl (Enc.int.dEq (by decide) _ _)).trans ?_))
  congr 2
  rw [decide_eq_decide, arnd_iff]
  split <;> split <;> omega
abbrev haSt (p R : List Cell) (at_ : Nat) : Rho := [.val (eP p), .own (R.map eC), .val (.int (at_ : Int)), .un]
structure HaI (p R : List Cell) (at_ : Nat) : Prop where
  gr : Grow R
  sub : ∀ c ∈ R, c ∈ p
  le : at_ ≤ R.length
  hd : ∃ c ∈ R, c ∈ p
  clo : ∀ i, i < at_ → ∀ a, R[i]? = some a → ∀ c ∈ p, c ∈ arnd a → c ∈ R
theorem grow_many {a : Cell} : ∀ (xs R : List Cell), Grow R → a ∈ R → (∀ c ∈ xs, c ∈ arnd a ∧ c ∉ R) → xs.Nodup → Grow (R ++ xs)
  | [], R, h, _, _, _ => by rw [List.append_nil]; exact h
  | x :: xs, R, h, ha, hx, hn => by
    have h1 := hx x List.mem_cons_self
    have := grow_many xs (R ++ [x]) (.ext h ha h1.1 h1.2) (List.mem_append_left _ ha) (fun c hc => ⟨(hx c (List.mem_cons_of_mem _ hc)).1, fun h2 => by
      rcases List.mem_append.mp h2 with h3 | h3
      · exact (hx c (List.mem_cons_of_mem _ hc)).2 h3
      · rw [List.mem_singleton.mp h3] at hc; exact (List.nodup_cons.mp hn).1 hc⟩) (List.nodup_cons.mp hn).2
    rwa [List.append_assoc] at this
theorem HaI.len {p R : List Cell} {n : Nat} (h : HaI p R n) : R.length ≤ p.length := h.gr.nodup.length_le_of_subset fun c hc => h.sub c hc
theorem hangs_ok {p : List Cell} (hp : p.Nodup) (hne : p ≠ []) (hl : p.length ≤ 12) : ∃ b : Bool, M_law_hangs [eP p] = .ok (.bool b) ∧ (b = true ↔ Conn p) := by
  obtain ⟨c0, p', rfl⟩ := List.exists_cons_of_ne_nil hne
  generalize hpp : c0 :: p' = p at *
  have h0 : c0 ∈ p := by rw [← hpp]; exact List.mem_cons_self
  have hloop : ∀ k fuel R at_, HaI p R at_ → p.length - at_ ≤ k → k < fuel → ∃ R', whGo (mB (m2 dLt (mVar 2) (mCB dLen (mCons (mOwn 1) mNil)))) (sSeq (sExt 1 (mLc [3] (iA (mVar 0)) (gN 3) (mAnd (mB (m2 dNotIn (mVar 3) (mOwn 1))) (mB (mCall M_law_beside (mCons (mVar 3) (mCons (m2 dIx (mOwn 1) (mVar 2)) mNil))))) (mVar 3))) (sSet 2 (m2 dAdd (mVar 2) (mC (.int 1))))) fuel (haSt p R at_) = .nx (haSt p R' R'.length) ∧ HaI p R' R'.length := by
    intro k
    induction k with
    | zero =>
      intro fuel R at_ hI hk hf
      obtain ⟨fuel, rfl⟩ : ∃ f', fuel = f' + 1 := ⟨fuel - 1, by omega⟩
      have h1 := hI.len
      have h2 := hI.le
      have e : at_ = R.length := by omega
      subst e
      refine ⟨R, wh_f ((t_b (m2_ok (x := .int (R.length : Int)) (y := .int (R.length : Int)) rfl ((cb_ok (ds := [eL R]) rfl).trans ?_) rfl)).trans ?_), hI⟩
      · show Res.ok (PyData.int ((R.map eC).length : Int)) = _
        rw [List.length_map]
      · show Res.ok (decide ((R.length : Int) < (R.length : Int))) = _
        rw [decide_eq_false (by omega)]
    | succ k ih =>
      intro fuel R at_ hI hk hf
      obtain ⟨fuel, rfl⟩ : ∃ f', fuel = f' + 1 := ⟨fuel - 1, by omega⟩
      have hc : (mB (m2 dLt (mVar 2) (mCB dLen (mCons (mOwn 1) mNil)))) (haSt p R at_) = .ok (decide ((at_ : Int) < (R.length : Int))) := by
        refine t_b (m2_ok (x := .int (at_ : Int)) (y := .int (R.length : Int)) rfl ((cb_ok (ds := [eL R]) rfl).trans ?_) rfl)
        show Res.ok (PyData.int ((R.map eC).length : Int)) = _
        rw [List.length_map]
      have hRl := hI.len
      by_cases hlt : at_ < R.length
      · rw [decide_eq_true (by omega)] at hc
        obtain ⟨a, ha⟩ : ∃ a, R[at_]? = some a := ⟨_, List.getElem?_eq_getElem hlt⟩
        have haR : a ∈ R := List.mem_of_getElem? ha
        let new := p.filter fun c => !decide (c ∈ R) && decide (c ∈ arnd a)
        have hnew : ∀ c, c ∈ new ↔ c ∈ p ∧ c ∉ R ∧ c ∈ arnd a := fun c => by
          show c ∈ p.filter _ ↔ _
          simp [List.mem_filter]
        have hbody : (sSeq (sExt 1 (mLc [3] (iA (mVar 0)) (gN 3) (mAnd (mB (m2 dNotIn (mVar 3) (mOwn 1))) (mB (mCall M_law_beside (mCons (mVar 3) (mCons (m2 dIx (mOwn 1) (mVar 2)) mNil))))) (mVar 3))) (sSet 2 (m2 dAdd (mVar 2) (mC (.int 1))))) (haSt p R at_) = .nx (haSt p (R ++ new) (at_ + 1)) := by
          have hlc := lc_map (enc := eC) (t := gN 3) (mt := (mAnd (mB (m2 dNotIn (mVar 3) (mOwn 1))) (mB (mCall M_law_beside (mCons (mVar 3) (mCons (m2 dIx (mOwn 1) (mVar 2)) mNil)))))) (me := mVar 3) (ρ := haSt p R at_)
            (fun c => !decide (c ∈ R) && decide (c ∈ arnd a)) eC p (fun c hcp => ⟨[.val (eP p), .own (R.map eC), .val (.int (at_ : Int)), .val (eC c)], rfl, by
              refine t_and (t_b (m2_ok rfl rfl (cNotIn c R))) (t_b ((call_ok (ds := [eC c, eC a]) (cons_ok rfl (cons_ok (m2_ok (x := eL R) rfl rfl (dIx_nat (by rw [List.getElem?_map, ha]; rfl))) rfl))).trans (beside_ok c a))), fun _ => rfl⟩)
          have hnl : (R ++ new).length ≤ 100 := by
            rw [List.length_append]
            have := List.length_filter_le (fun c => !decide (c ∈ R) && decide (c ∈ arnd a)) p
            show R.length + (p.filter _).length ≤ 100
            omega
          refine (seq_nx (ρ' := haSt p (R ++ new) at_) ((ext_ok (ds := R.map eC) (es := new.map eC) rfl ((mLc_ok (iA_tuple rfl) (by rw [List.length_map]; exact lim100 (by omega)) hlc)) ?_).trans ?_)).trans ?_
          · rw [List.length_map, List.length_map, ← List.length_append]; exact lim100 hnl
          · rw [← List.map_append]; rfl
          · exact set_ok (d := .int ((at_ + 1 : Nat) : Int)) rfl
        have hI2 : HaI p (R ++ new) (at_ + 1) := {
          gr := grow_many new R hI.gr haR (fun c hc => ⟨((hnew c).mp hc).2.2, ((hnew c).mp hc).2.1⟩) (hp.sublist List.filter_sublist)
          sub := fun c hc => by
            rcases List.mem_append.mp hc with h | h
            · exact hI.sub c h
            · exact ((hnew c).mp h).1
          le := by rw [List.length_append]; omega
          hd := by obtain ⟨c, h1, h2⟩ := hI.hd; exact ⟨c, List.mem_append_left _ h1, h2⟩
          clo := fun i hi b hb c hcp hcb => by
            rw [List.getElem?_append_left (by omega)] at hb
            by_cases hia : i < at_
            · exact List.mem_append_left _ (hI.clo i hia b hb c hcp hcb)
            · have : i = at_ := by omega
              subst this
              rw [ha] at hb
              injection hb with hb
              subst hb
              by_cases hcR : c ∈ R
              · exact List.mem_append_left _ hcR
              · exact List.mem_append_right _ ((hnew c).mpr ⟨hcp, hcR, hcb⟩) }
        obtain ⟨R', e1, e2⟩ := ih fuel (R ++ new) (at_ + 1) hI2 (by omega) (by omega)
        exact ⟨R', (wh_t hc hbody).trans e1, e2⟩
      · rw [decide_eq_false (by omega)] at hc
        have h2 := hI.le
        have e : at_ = R.length := by omega
        subst e
        exact ⟨R, wh_f hc, hI⟩
  obtain ⟨R, e1, e2⟩ := hloop 12 100 [c0] 0 ⟨.one c0, fun c hc => by rw [List.mem_singleton.mp hc]; exact h0, Nat.zero_le _, ⟨c0, by simp, h0⟩, fun i hi => absurd hi (Nat.not_lt_zero _)⟩ (by omega) (by omega)
  refine ⟨decide (R.length = p.length), ?_, ?_⟩
  · refine fun_rt ?_
    refine (seq_nx (ρ' := [.val (eP p), .own [eC c0], .un, .un]) ?_).trans ?_
    · refine (ownL_ok (ds := [eC c0]) (cons_ok (m2_ok (x := eP p) (y := .int 0) rfl rfl (dIx_natT (j := 0) (by rw [← hpp]; rfl))) rfl) (lim100 (show 1 ≤ 100 by decide))).trans rfl
    refine (seq_nx (ρ' := haSt p [c0] 0) rfl).trans ((seq_nx (ρ' := haSt p R R.length) e1).trans ?_)
    refine ret_ok ((m2_ok (x := .int (R.length : Int)) (y := .int (p.length : Int)) ((cb_ok (ds := [eL R]) rfl).trans ?_) ((cb_ok (ds := [eP p]) rfl).trans ?_) (Enc.int.dEq (by decide) _ _)).trans ?_)
    · show Res.ok (PyData.int ((R.map eC).length : Int)) = _
      rw [List.length_map]
    · show Res.ok (PyData.int ((p.map eC).length : Int)) = _
      rw [List.length_map]
    · congr 2
      rw [decide_eq_decide]
      exact Int.ofNat_inj
  · rw [decide_eq_true_eq]
    constructor
    · intro h
      refine ⟨R, e2.gr, (List.perm_ext_iff_of_nodup e2.gr.nodup hp).mpr fun c => ⟨e2.sub c, fun hc => ?_⟩⟩
      refine Classical.byContradiction fun hn => ?_
      have h3 : (c :: R).Nodup := List.nodup_cons.mpr ⟨hn, e2.gr.nodup⟩
      have h4 := h3.length_le_of_subset (l₂ := p) fun d hd => by
        rcases List.mem_cons.mp hd with h | h
        · rw [h]; exact hc
        · exact e2.sub d h
      rw [List.length_cons] at h4
      omega
    · rintro ⟨l, hl, hlp⟩
      have h5 := hl.clo (S := fun c => c ∈ R) (by
        obtain ⟨c, h1, h2⟩ := e2.hd
        exact ⟨c, hlp.mem_iff.mpr h2, h1⟩) fun a ha b hb hs hab => by
          obtain ⟨i, hi⟩ := List.mem_iff_getElem?.mp hs
          exact e2.clo i ((List.getElem?_eq_some_iff.mp hi).1) a hi b (hlp.mem_iff.mp hb) hab
      have h6 := hp.length_le_of_subset (l₂ := R) fun c hc => h5 c (hlp.mem_iff.mpr hc)
      have := e2.len
      omega
end Stm
set_option Elab.async false
set_option linter.all false
set_option maxRecDepth 100000
set_option maxHeartbeats 4000000
namespace Stm
open PySem PySem.Spec PyProof.Rows L2
noncomputable def connB (p : List Cell) : Bool := @decide (Conn p) (Classical.propDecidable _)
theorem connB_iff {p : List Cell} : connB p = true ↔ Conn p := by unfold connB; exact @decide_eq_true_iff _ (Classical.propDecidable _)
noncomputable def lawAll (K : List Cell) : List (List Cell) := ((subs K).filter fun m => !decide (m = []) && connB m).mergeSort fun p q => dle (eLP p) (eLP q)
theorem pP_ne (p q : List Cell) : dNe (eP p) (eP q) = .ok (.bool (!decide (p = q))) := by
  rw [encP.dNe (by decide)]
theorem law_all_ok {s : Sheet} (f : Fit s) (hK : KOk (cellsOf s)) : M_law_all [eS s] = .ok (eLP2 (lawAll (cellsOf s))) := by
  refine fun_rt ?_
  generalize hKK : cellsOf s = K at *
  have hcells : M_law_cells [eS s] = .ok (eL K) := by rw [← hKK]; exact law_cells_ok f
  have hk12 := hK.len
  refine (seq_nx (ρ' := [.val (eS s), .val (eLP2 (subs [])), .un, .un, .un, .un]) rfl).trans ?_
  have key := for_pre (enc := eC) (t := gN 2) (mb := (sSet 1 (m2 dAdd (mVar 1) (mLc [4] (iA (mVar 1)) (gN 4) mYes (m2 dAdd (mVar 4) (mTup (mCons (mVar 2) mNil))))))) (xs := K) (J := Sl) (fun pre j => [.val (eS s), .val (eLP2 (subs pre)), j, .un, .un, .un]) (fun pre c post j e => by
    refine ⟨.val (eC c), ?_⟩
    have hpl : pre.length + 1 ≤ 12 := by
      rw [e, List.length_append, List.length_cons] at hk12; omega
    have hs1 : (subs pre).length ≤ 4096 := by rw [subs_len]; exact Nat.pow_le_pow_right (n := 2) (j := 12) (by omega) (by omega)
    have hpre : pre.Pairwise clt := by
      have := hK.up
      rw [e] at this
      exact (List.pairwise_append.mp this).1
    unfold turn1
    have ht : gN 2 (eC c) [.val (eS s), .val (eLP2 (subs pre)), j, .un, .un, .un] = some [.val (eS s), .val (eLP2 (subs pre)), .val (eC c), .un, .un, .un] := rfl
    rw [ht]
    simp only
    have hlc := lc_all (enc := eP) (t := gN 4) (me := (m2 dAdd (mVar 4) (mTup (mCons (mVar 2) mNil)))) (ρ := [.val (eS s), .val (eLP2 (subs pre)), .val (eC c), .un, .un, .un]) (fun m => eP (m ++ [c])) (subs pre) (fun m hm => ⟨[.val (eS s), .val (eLP2 (subs pre)), .val (eC c), .un, .val (eP m), .un], rfl, by
      refine m2_ok (x := eP m) (y := .tuple [eC c]) rfl rfl ?_
      have hml : m.length ≤ 12 := by
        have hpc := (subs_mem pre hpre m).mp hm
        have := (up_nodup hpc.up).length_le_of_subset fun c hc => hpc.sub c hc
        omega
      unfold eP dAdd
      simp only
      rw [if_pos (by rw [List.length_map]; exact lim100 (show m.length + 1 ≤ 100 by omega)), List.map_append]; rfl⟩)
    refine (set_ok (d := eLP2 (subs (pre ++ [c]))) (m2_ok (x := eLP2 (subs pre)) (y := eLP2 ((subs pre).map (· ++ [c]))) rfl ((mLc_ok (iA_list (ds := (subs pre).map eP) rfl) (by rw [List.length_map]; exact Nat.le_of_lt (lim4096 hs1)) hlc).trans ?_) ?_)).trans rfl
    · unfold eLP2
      rw [List.map_map]; rfl
    · unfold eLP2 dAdd
      simp only
      rw [subs_snoc, if_pos (by rw [List.length_map, List.length_map, List.length_map]; exact Nat.le_trans (show _ ≤ 8192 by omega) (by decide)), List.map_append]) .un
  obtain ⟨j, e⟩ := key
  refine (seq_nx (ρ' := [.val (eS s), .val (eLP2 (subs K)), j, .un, .un, .un]) ((sFor_ok (iA_list (ds := K.map eC) ((call_ok (ds := [eS s]) rfl).trans hcells))).trans e)).trans ?_
  have hsl : (subs K).length ≤ 4096 := by rw [subs_len]; exact Nat.pow_le_pow_right (n := 2) (j := 12) (by omega) hk12
  have hlc := lc_map (enc := eP) (t := gN 4) (mt := (mAnd (mB (m2 dNe (mVar 4) (mTup mNil))) (mB (mCall M_law_hangs (mCons (mVar 4) mNil))))) (me := (mTup (mCons (mCB dLen (mCons (mVar 4) mNil)) (mCons (mVar 4) mNil)))) (ρ := [.val (eS s), .val (eLP2 (subs K)), j, .un, .un, .un])
    (fun m => !decide (m = []) && connB m) eLP (subs K) (fun m hm => by
      have hpc := (subs_mem K hK.up m).mp hm
      refine ⟨[.val (eS s), .val (eLP2 (subs K)), j, .un, .val (eP m), .un], rfl, ?_, fun _ => ?_⟩
      · have h1 : mB (m2 dNe (mVar 4) (mTup mNil)) [.val (eS s), .val (eLP2 (subs K)), j, .un, .val (eP m), .un] = .ok (!decide (m = [])) := t_b (m2_ok (x := eP m) (y := eP []) rfl rfl (pP_ne m []))
        by_cases hm0 : m = []
        · rw [hm0] at h1 ⊢
          simp only [decide_true, Bool.not_true, Bool.false_and] at h1 ⊢
          unfold mAnd
          rw [h1]; rfl
        · obtain ⟨b, hb1, hb2⟩ := hangs_ok (up_nodup hpc.up) hm0 (hpc.len hK)
          have : connB m = b := by
            rw [Bool.eq_iff_iff, connB_iff]; exact hb2.symm
          rw [this]
          exact t_and h1 (t_b ((call_ok (ds := [eP m]) rfl).trans hb1))
      · have : (m.map eC).length = m.length := List.length_map _
        unfold eLP
        rw [← this]; rfl)
  refine (seq_nx (ρ' := [.val (eS s), .val (eLP2 (subs K)), j, .val (.list (((subs K).filter fun m => !decide (m = []) && connB m).map eLP)), .un, .un]) ((set_ok (mLc_ok (iA_list (ds := (subs K).map eP) rfl) (by rw [List.length_map]; exact Nat.le_of_lt (lim4096 hsl)) hlc)).trans rfl)).trans ?_
  have hsrt := (sorted_enc (enc := eLP) alike_LP (.inl fun c => by unfold eLP tupB; rfl) (fun p => by
    have := encP.dp p
    unfold eLP
    simp only [PyData.depth, PyData.depthAll]
    omega) ((subs K).filter fun m => !decide (m = []) && connB m) (Nat.le_trans (List.length_filter_le _ _) (Nat.le_of_lt (lim4096 hsl)))).1
  refine ret_ok ((mLc_ok (ds := (lawAll K).map eLP) (es := (lawAll K).map eP) (iA_list ((cb_ok (ds := [.list (((subs K).filter fun m => !decide (m = []) && connB m).map eLP)]) rfl).trans hsrt)) ?_ (lc_all _ _ fun m hm => ⟨_, rfl, ?_⟩)).trans rfl)
  · rw [List.length_map]
    unfold lawAll
    rw [List.length_mergeSort]
    exact Nat.le_trans (List.length_filter_le _ _) (Nat.le_of_lt (lim4096 hsl))
  · exact m2_ok (x := eLP m) (y := .int 1) rfl rfl (dIx_natT (j := 1) rfl)
theorem single_dle (c d : Cell) (h : clt c d) : dle (eP [c]) (eP [d]) = true := by
  rw [dle_lex]
  have e : ∀ c : Cell, PySem.W.keyToks (eP [c]) = [.inl 1, .inl 1, .inl c.1, .inl 1, .inl c.2, .inl 0, .inl 0] := fun c => by
    unfold eP
    simp only [List.map_cons, List.map_nil, PySem.W.keyToks, PySem.W.keyToksAll, toks_cell, List.cons_append, List.nil_append]
  rw [e, e]
  have e0 : lexLt itemOrd [] [] = false := rfl
  simp only [lex_cons (O := itemOrd), it_int, e0]
  simp only [Bool.not_eq_true', Bool.or_eq_false_iff, Bool.and_eq_false_iff, decide_eq_false_iff_not, Bool.not_eq_false', decide_eq_true_eq, Bool.not_eq_true, Int.lt_irrefl, not_false_eq_true, true_and, false_or, and_true, or_true]
  obtain ⟨a, b⟩ := c
  obtain ⟨a', b'⟩ := d
  unfold clt at h
  simp only at h ⊢
  omega
theorem lvl_sorted {K : List Cell} (hK : KOk K) : ∀ n, (lvl K n).Pairwise fun p q => dle (eP p) (eP q) = true
  | 0 => List.Pairwise.map _ (fun a b h => single_dle a b h) hK.up
  | n + 1 => PySem.W.sort_pairwise (tot_of eP) _
theorem flat_mem {K : List Cell} (hK : KOk K) {m : Nat} {p : List Cell} : p ∈ (lvls K m).flatten ↔ Pc K p ∧ p.length ≤ m ∧ Conn p := by
  rw [List.mem_flatten]
  unfold lvls
  constructor
  · rintro ⟨l, hl, hp⟩
    obtain ⟨n, hn, rfl⟩ := List.mem_map.mp hl
    obtain ⟨h1, h2, h3⟩ := (lvl_spec hK n p).mp hp
    have := List.mem_range.mp hn
    exact ⟨h1, by omega, h3⟩
  · rintro ⟨h1, h2, h3⟩
    have : p.length ≠ 0 := fun e => h3.ne (List.length_eq_zero_iff.mp e)
    exact ⟨lvl K (p.length - 1), List.mem_map.mpr ⟨p.length - 1, List.mem_range.mpr (by omega), rfl⟩, (lvl_spec hK _ p).mpr ⟨h1, by omega, h3⟩⟩
theorem flat_all {K : List Cell} (hK : KOk K) : (lvls K K.length).flatten = lawAll K := by
  refine sorted_uniq (enc := eLP) (fun a b => LP_anti) ?_ ?_ ((subs_nodup K hK.up).sublist List.filter_sublist) fun p => ?_
  · rw [List.pairwise_flatten]
    unfold lvls
    refine ⟨fun l hl => ?_, ?_⟩
    · obtain ⟨n, _, rfl⟩ := List.mem_map.mp hl
      refine ((lvl_sorted hK n).imp_of_mem fun {a b} ha hb h => ?_)
      rw [dle_LP_eq (by rw [lvl_len n a ha, lvl_len n b hb])]
      exact h
    · refine List.Pairwise.map _ (R := fun a b => a < b) (fun i j h a ha b hb => dle_LP_lt (by rw [lvl_len i a ha, lvl_len j b hb]; omega)) List.pairwise_lt_range
  · unfold List.Nodup
    rw [List.pairwise_flatten]
    unfold lvls
    refine ⟨fun l hl => ?_, ?_⟩
    · obtain ⟨n, _, rfl⟩ := List.mem_map.mp hl
      exact lvl_nodup hK n
    · refine List.Pairwise.map _ (R := fun a b => a < b) (fun i j h a ha b hb e => ?_) List.pairwise_lt_range
      have h1 := lvl_len i a ha
      have h2 := lvl_len j b hb
      rw [e] at h1
      omega
  · rw [flat_mem hK, List.mem_filter, subs_mem K hK.up]
    constructor
    · rintro ⟨h1, _, h3⟩
      exact ⟨h1, by simp [h3.ne, connB_iff.mpr h3]⟩
    · rintro ⟨h1, h2⟩
      simp only [Bool.and_eq_true, Bool.not_eq_true', decide_eq_false_iff_not] at h2
      exact ⟨h1, (up_nodup h1.up).length_le_of_subset fun c hc => h1.sub c hc, connB_iff.mp h2.2⟩
theorem flat_filter_le {K : List Cell} (m : Nat) : ∀ N, (lvls K N).flatten.filter (fun p => decide (p.length ≤ m)) = (lvls K (min m N)).flatten
  | 0 => by rw [show min m 0 = 0 by omega]; rfl
  | N + 1 => by
    rw [lvls_succ, List.flatten_append, List.filter_append, flat_filter_le m N]
    simp only [List.flatten_cons, List.flatten_nil, List.append_nil]
    by_cases h : N + 1 ≤ m
    · rw [show min m (N + 1) = N + 1 by omega, show min m N = N by omega, lvls_succ, List.flatten_append]
      simp only [List.flatten_cons, List.flatten_nil, List.append_nil]
      rw [List.filter_eq_self.mpr fun p hp => decide_eq_true (by rw [lvl_len N p hp]; omega)]
    · rw [show min m (N + 1) = min m N by omega, List.filter_eq_nil_iff.mpr fun p hp => by rw [lvl_len N p hp]; simpa using h, List.append_nil]
theorem flat_filter_eq {K : List Cell} (j : Nat) : ∀ N, (lvls K N).flatten.filter (fun p => decide (p.length = j + 1)) = if j < N then lvl K j else []
  | 0 => by rw [if_neg (by omega)]; rfl
  | N + 1 => by
    rw [lvls_succ, List.flatten_append, List.filter_append, flat_filter_eq j N]
    simp only [List.flatten_cons, List.flatten_nil, List.append_nil]
    by_cases h : N = j
    · subst h
      rw [if_neg (by omega), if_pos (by omega), List.nil_append, List.filter_eq_self.mpr fun p hp => decide_eq_true (lvl_len N p hp)]
    · rw [List.filter_eq_nil_iff.mpr fun p hp => by rw [lvl_len N p hp]; simpa using h, List.append_nil]
      by_cases h2 : j < N
      · rw [if_pos h2, if_pos (by omega)]
      · rw [if_neg h2, if_neg (by omega)]
end Stm
set_option Elab.async false
set_option linter.all false
set_option maxRecDepth 100000
set_option maxHeartbeats 4000000
namespace Stm
open PySem PySem.Spec PyProof.Rows L2
theorem rng2_one {n : Nat} (h : n ≤ 1000) : rng2 [.int 1, .int ((n : Int) + 1)] = .ok ((List.range n).map fun (i : Nat) => PyData.int (1 + (i : Int))) := by
  unfold rng2
  have el : (LIM : Int) = 100000 := rfl
  simp only
  rw [if_pos (by rw [el]; omega)]
  unfold intD
  rw [show ((n : Int) + 1 - 1).toNat = n by omega]
theorem encLP2 : Enc eLP2 3 := encP.list
theorem len_piece {m : EM} {ρ : Rho} {p : List Cell} (h : m ρ = .ok (eP p)) : mCB dLen (mCons m mNil) ρ = .ok (.int (p.length : Int)) := (cb_ok (cons_ok h rfl)).trans (by
  show Res.ok (PyData.int ((p.map eC).length : Int)) = _
  rw [List.length_map])
theorem len_list {α : Type} {enc : α → PyData} {m : EM} {ρ : Rho} {xs : List α} (h : m ρ = .ok (.list (xs.map enc))) : mCB dLen (mCons m mNil) ρ = .ok (.int (xs.length : Int)) := (cb_ok (cons_ok h rfl)).trans (by
  show Res.ok (PyData.int ((xs.map enc).length : Int)) = _
  rw [List.length_map])
theorem lawAll_len {K : List Cell} (hK : KOk K) : (lawAll K).length ≤ 4096 := by
  rw [← flat_all hK]
  refine hK.lim ?_ fun p hp => ((flat_mem hK).mp hp).1
  rw [flat_all hK]
  unfold lawAll
  exact (List.mergeSort_perm _ _).symm.nodup ((subs_nodup K hK.up).sublist List.filter_sublist)
theorem lawAll_mem {K : List Cell} (hK : KOk K) {p : List Cell} : p ∈ lawAll K ↔ Pc K p ∧ Conn p := by
  rw [← flat_all hK, flat_mem hK]
  exact ⟨fun h => ⟨h.1, h.2.2⟩, fun h => ⟨h.1, (up_nodup h.1.up).length_le_of_subset fun c hc => h.1.sub c hc, h.2⟩⟩
theorem lawAll_ne {K : List Cell} (hK : KOk K) (hne : 1 ≤ K.length) : lawAll K ≠ [] := by
  obtain ⟨c, K', rfl⟩ := List.exists_cons_of_length_pos hne
  intro e
  have : [c] ∈ lawAll (c :: K') := (lawAll_mem hK).mpr ⟨⟨List.pairwise_singleton _ _, fun d hd => by rw [List.mem_singleton.mp hd]; exact List.mem_cons_self⟩, [c], .one c, List.Perm.refl _⟩
  rw [e] at this
  cases this

/-! ### worths -/
def val (s : Sheet) (c : Cell) : Int := ((rowOf s c.1.toNat).getD c.2.toNat none).getD 0
def worth (s : Sheet) (p : List Cell) : Int := (p.map (val s)).sum
theorem cell_in {s : Sheet} {c : Cell} (h : c ∈ cellsOf s) : ∃ i j : Nat, c = ((i : Int), (j : Int)) ∧ i < s.length ∧ j < (rowOf s i).length ∧ ∃ v, (rowOf s i).getD j none = some v := by
  obtain ⟨i, hi, h2⟩ := List.mem_flatMap.mp h
  obtain ⟨j, hj, rfl⟩ := List.mem_map.mp h2
  obtain ⟨hj1, hj2⟩ := List.mem_filter.mp hj
  exact ⟨i, j, rfl, List.mem_range.mp hi, List.mem_range.mp hj1, Option.isSome_iff_exists.mp hj2⟩
theorem val_ix {s : Sheet} {c : Cell} (h : c ∈ cellsOf s) : ∃ r, dIx (eS s) (.int c.1) = .ok r ∧ dIx r (.int c.2) = .ok (.int (val s c)) := by
  obtain ⟨i, j, rfl, hi, hj, v, hv⟩ := cell_in h
  refine ⟨eRow (rowOf s i), ix_row hi, (ix_O hj).trans ?_⟩
  have : val s ((i : Int), (j : Int)) = v := by
    unfold val
    simp only [Int.toNat_natCast]
    rw [hv]; rfl
  rw [hv, this]; rfl
theorem sum_of_ok {s : Sheet} {p : List Cell} (h : ∀ c ∈ p, c ∈ cellsOf s) (hl : p.length ≤ 100) : M_sum_of [eS s, eP p] = .ok (.int (worth s p)) := by
  refine fun_rt (ret_ok ((sum_ok (enc := eC) (val s) p (iA_tuple rfl) (lim100 hl) (fun c hc => ?_)).trans rfl))
  obtain ⟨r, h1, h2⟩ := val_ix (h c hc)
  exact ⟨[.val (eS s), .val (eP p), .val (.int c.1), .val (.int c.2)], rfl, m2_ok (m2_ok (x := eS s) (y := .int c.1) rfl rfl h1) (y := .int c.2) rfl h2⟩
theorem law_worth_gen {s : Sheet} {p : List Cell} {d : PyData} (hd : d = eP p ∨ d = eL p) (h : ∀ c ∈ p, c ∈ cellsOf s) (hl : p.length ≤ 100) : M_law_worth [eS s, d] = .ok (.int (worth s p)) := by
  refine fun_rt (ret_ok ((sum_ok (enc := eC) (val s) p ?_ (lim100 hl) (fun c hc => ?_)).trans rfl))
  · rcases hd with rfl | rfl
    · exact iA_tuple rfl
    · exact iA_list rfl
  · obtain ⟨r, h1, h2⟩ := val_ix (h c hc)
    exact ⟨[.val (eS s), .val d, .val (eC c)], rfl, m2_ok (m2_ok (x := eS s) (y := .int c.1) rfl (m2_ok (x := eC c) (y := .int 0) rfl rfl rfl) h1) (m2_ok (x := eC c) (y := .int 1) rfl rfl rfl) h2⟩
theorem law_worth_ok {s : Sheet} {p : List Cell} (h : ∀ c ∈ p, c ∈ cellsOf s) (hl : p.length ≤ 100) : M_law_worth [eS s, eP p] = .ok (.int (worth s p)) := law_worth_gen (.inl rfl) h hl
theorem law_worth_list {s : Sheet} {p : List Cell} (h : ∀ c ∈ p, c ∈ cellsOf s) (hl : p.length ≤ 100) : M_law_worth [eS s, eL p] = .ok (.int (worth s p)) := law_worth_gen (.inr rfl) h hl
theorem piece_for_ok {s : Sheet} (v : Valid s) (k : Int) (hk : 1 ≤ k) : M_piece_for [eS s, .int k] = .ok (match (lawAll (cellsOf s)).find? (fun p => decide (worth s p = k)) with | some p => eP p | none => .none) := by
  have hK := v.kok
  have hpc := pieces_of_ok v.fit hK v.kne 12 (by decide)
  have h12 := hK.len
  rw [show min 12 (cellsOf s).length = (cellsOf s).length by omega, flat_all hK] at hpc
  have hfind := for_find (enc := eP) (t := gN 2) (mb := (sIf (mB (m2 dEq (mCall M_sum_of (mCons (mVar 0) (mCons (mVar 2) mNil))) (mVar 1))) (sRet (mVar 2)) sNil)) (J := Sl) (fun p => decide (worth s p = k)) eP (fun j => [.val (eS s), .val (.int k), j]) (lawAll (cellsOf s)) (fun p hp j => by
    have hpm := ((lawAll_mem hK).mp hp).1
    have hc : (mB (m2 dEq (mCall M_sum_of (mCons (mVar 0) (mCons (mVar 2) mNil))) (mVar 1))) [.val (eS s), .val (.int k), .val (eP p)] = .ok (decide (worth s p = k)) :=
      t_b (m2_ok (x := .int (worth s p)) (y := .int k) ((call_ok (ds := [eS s, eP p]) rfl).trans (sum_of_ok hpm.sub (Nat.le_trans (hpm.len hK) (by decide)))) rfl (Enc.int.dEq (by decide) _ _))
    unfold turn1
    have ht : gN 2 (eP p) [.val (eS s), .val (.int k), j] = some [.val (eS s), .val (.int k), .val (eP p)] := rfl
    rw [ht]
    exact ⟨fun h => ⟨.val (eP p), (if_f (hc.trans (by rw [h]))).trans rfl⟩, fun h => (if_t (hc.trans (by rw [h]))).trans rfl⟩) .un
  refine fun_rt ?_
  refine (seq_nx (ρ' := [.val (eS s), .val (.int k), .un]) (expr_ok ((call_ok (ds := [eS s]) rfl).trans (checked_ok v)))).trans ?_
  refine (seq_nx (ρ' := [.val (eS s), .val (.int k), .un]) ((if_f (t_or (x := false) (y := false) (t_not (x := true) (t_b ((call_ok (ds := [.int k]) rfl).trans rfl))) ((t_b (b := decide (k < 1)) rfl).trans (by rw [decide_eq_false (by omega)])))).trans rfl)).trans ?_
  have hfor := sFor_ok (mi := iA (mCall M_pieces_of (mCons (mVar 0) (mCons (mC (.int 12)) mNil)))) (t := gN 2) (mb := (sIf (mB (m2 dEq (mCall M_sum_of (mCons (mVar 0) (mCons (mVar 2) mNil))) (mVar 1))) (sRet (mVar 2)) sNil)) (ρ := [.val (eS s), .val (.int k), .un]) (iA_list (ds := (lawAll (cellsOf s)).map eP) ((call_ok (ds := [eS s, .int 12]) rfl).trans hpc))
  cases hf : (lawAll (cellsOf s)).find? (fun p => decide (worth s p = k)) with
  | some p =>
    rw [hf] at hfind
    exact seq_rt (hfor.trans hfind)
  | none =>
    rw [hf] at hfind
    obtain ⟨j', e⟩ := hfind
    exact (seq_nx (hfor.trans e)).trans rfl
/-- some of the items, whichever -/
theorem lc_sub {α : Type} {enc : α → PyData} {t : TgM} {mt : TM} {me : EM} {ρ : Rho} (f : α → PyData) : ∀ (xs : List α), (∀ x ∈ xs, ∃ ρ1 b, t (enc x) ρ = some ρ1 ∧ mt ρ1 = .ok b ∧ me ρ1 = .ok (f x)) →
    ∃ ys : List α, ys.Sublist xs ∧ lcGo t mt me ρ (xs.map enc) = .ok (ys.map f)
  | [], _ => ⟨[], List.Sublist.refl _, rfl⟩
  | x :: xs, h => by
    obtain ⟨ρ1, b, e1, e2, e3⟩ := h x List.mem_cons_self
    obtain ⟨ys, hy, ih⟩ := lc_sub f xs fun y hy => h y (List.mem_cons_of_mem _ hy)
    cases b with
    | true =>
      refine ⟨x :: ys, hy.cons_cons _, ?_⟩
      rw [List.map_cons, lcGo, e1]
      simp only [e2, Res.bindN, if_true, e3, ih]
      rfl
    | false =>
      refine ⟨ys, hy.cons _, ?_⟩
      rw [List.map_cons, lcGo, e1]
      simp only [e2, Res.bindN, Bool.false_eq_true, if_false, ih]
def eEn {α : Type} (enc : α → PyData) (x : Nat × α) : PyData := .tuple [.int (x.1 : Int), enc x.2]
theorem enumD_map {α : Type} (enc : α → PyData) (xs : List α) : enumD (xs.map enc) = ((List.range xs.length).zip xs).map (eEn enc) := by
  unfold enumD eEn
  rw [List.length_map, List.zip_map_right, List.map_map]; rfl
theorem iEn_ok {α : Type} {enc : α → PyData} {m : EM} {ρ : Rho} {xs : List α} (h : m ρ = .ok (.list (xs.map enc))) : iEn (mCons m mNil) ρ = .ok (((List.range xs.length).zip xs).map (eEn enc)) := by
  have e : mCons m mNil ρ = .ok [.list (xs.map enc)] := cons_ok h rfl
  unfold iEn
  rw [e]
  exact congrArg Res.ok (enumD_map enc xs)
end Stm
set_option Elab.async false
set_option linter.all false
set_option maxRecDepth 100000
set_option maxHeartbeats 4000000
namespace Stm
open PySem PySem.Spec PyProof.Rows L2
theorem flat_lim {K : List Cell} (hK : KOk K) (h11 : K.length ≤ 11) (m : Nat) : (lvls K (min m K.length)).flatten.length ≤ 2048 := by
  rw [← flat_filter_le m K.length, flat_all hK]
  refine Nat.le_trans (List.length_filter_le _ _) ?_
  unfold lawAll
  rw [List.length_mergeSort]
  refine Nat.le_trans (List.length_filter_le _ _) ?_
  rw [subs_len]
  exact Nat.pow_le_pow_right (n := 2) (j := 11) (by omega) h11
theorem flat_in {K : List Cell} (hK : KOk K) {m : Nat} : ∀ p ∈ (lvls K m).flatten, (∀ c ∈ p, c ∈ K) ∧ p.length ≤ 100 := fun p hp => by
  have h := ((flat_mem hK).mp hp).1
  exact ⟨h.sub, Nat.le_trans (h.len hK) (by decide)⟩
theorem dle_int (a b : Int) : dle (.int a) (.int b) = decide (a ≤ b) := by
  rw [dle_lex]
  have e : ∀ i : Int, PySem.W.keyToks (.int i) = [.inl i] := fun i => by simp [PySem.W.keyToks]
  rw [e, e]
  have e0 : lexLt itemOrd [] [] = false := rfl
  simp only [lex_cons (O := itemOrd), it_int, e0]
  rw [Bool.eq_iff_iff]
  simp only [Bool.not_eq_true', Bool.or_eq_false_iff, Bool.and_eq_false_iff, decide_eq_false_iff_not, decide_eq_true_eq, or_true, and_true]
  omega
theorem sort_ints (ks : List Int) (hl : ks.length ≤ LIM) : dSorted [.list (ks.map .int)] = .ok (.list ((ks.mergeSort fun a b => decide (a ≤ b)).map .int)) := by
  rw [(sorted_enc (enc := PyData.int) (fun a b => by simp [PySem.W.alike]) (.inr fun a => rfl) (fun a => by simp [PyData.depth]) ks hl).1]
  rw [PySem.W.sort_congr (r := fun a b => dle (.int a) (.int b)) (s := fun a b => decide (a ≤ b)) fun a _ b _ => dle_int a b]
/-- the rising list of the worths of pieces of at most m stamps -/
def wList (s : Sheet) (m : Nat) : List Int := sortU ((lvls (cellsOf s) (min m (cellsOf s).length)).flatten.map (worth s))
theorem law_worths_ok {s : Sheet} (v : Valid s) (h11 : (cellsOf s).length ≤ 11) (m : Nat) : M_law_worths [eS s, .int (m : Int)] = .ok (eI (wList s m)) := by
  have hK := v.kok
  have hal := lawAll_len hK
  have hmem : ∀ p ∈ lawAll (cellsOf s), (∀ c ∈ p, c ∈ cellsOf s) ∧ p.length ≤ 100 := by
    rw [← flat_all hK]; exact flat_in hK
  have hfil : (lawAll (cellsOf s)).filter (fun p => decide (p.length ≤ m)) = (lvls (cellsOf s) (min m (cellsOf s).length)).flatten := by rw [← flat_all hK]; exact flat_filter_le m _
  have hlc := lc_map (enc := eP) (t := gN 2) (mt := (mB (m2 dLe (mCB dLen (mCons (mVar 2) mNil)) (mVar 1)))) (me := (mCall M_law_worth (mCons (mVar 0) (mCons (mVar 2) mNil)))) (ρ := [.val (eS s), .val (.int (m : Int)), .un])
    (fun p => decide (p.length ≤ m)) (fun p => .int (worth s p)) (lawAll (cellsOf s)) (fun p hp => ⟨[.val (eS s), .val (.int (m : Int)), .val (eP p)], rfl, by
      refine (t_b (b := decide ((p.length : Int) ≤ (m : Int))) (m2_ok (len_piece rfl) (y := .int (m : Int)) rfl rfl)).trans ?_
      congr 1
      exact decide_eq_decide.mpr Int.ofNat_le, fun _ => (call_ok (ds := [eS s, eP p]) rfl).trans (law_worth_ok (hmem p hp).1 (hmem p hp).2)⟩)
  rw [hfil] at hlc
  have hlim := flat_lim hK h11 m
  refine fun_rt (ret_ok ?_)
  have hm := mLc_ok (vs := [2]) (mi := iA (mCall M_law_all (mCons (mVar 0) mNil))) (ρ := [.val (eS s), .val (.int (m : Int)), .un]) (iA_list (ds := (lawAll (cellsOf s)).map eP) ((call_ok (ds := [eS s]) rfl).trans (law_all_ok v.fit hK))) (by rw [List.length_map]; exact Nat.le_of_lt (lim4096 hal)) hlc
  show mSortSet _ _ = _
  unfold mSortSet
  refine Eq.trans (congrArg (fun x => Res.bind x dSortSet) hm) ?_
  unfold wList eI
  simp only [Res.bind, dSortSet, ints_map]
  rw [if_pos (by rw [List.length_map]; omega)]
theorem worths_of_ok {s : Sheet} (v : Valid s) (m : Nat) (hm : 1 ≤ m) : M_worths_of [eS s, .int (m : Int)] = .ok (eI (wList s m)) := by
  have hK := v.kok
  have hpc := pieces_of_ok v.fit hK v.kne m hm
  have hin := flat_in hK (m := min m (cellsOf s).length)
  have hF : (lvls (cellsOf s) (min m (cellsOf s).length)).flatten.length ≤ 4096 * 12 := by
    have := flat_len hK (min m (cellsOf s).length)
    have := hK.len
    omega
  unfold wList
  generalize (lvls (cellsOf s) (min m (cellsOf s).length)).flatten = F at *
  refine fun_rt ?_
  refine (seq_nx (ρ' := [.val (eS s), .val (.int (m : Int)), .dI [], .un]) rfl).trans ?_
  have hle : ∀ (ns ks : List Int), (putIs ks ns).length ≤ ks.length + ns.length := by
    intro ns
    induction ns with
    | nil => intro ks; simp [putIs]
    | cons n ns ih =>
      intro ks
      refine Nat.le_trans (ih (putI ks n)) ?_
      have : (putI ks n).length ≤ ks.length + 1 := by
        unfold putI; split
        · omega
        · rw [List.length_append]; simp
      rw [List.length_cons]; omega
  have key := for_pre (enc := eP) (t := gN 3) (mb := (sPutI 2 (mCall M_sum_of (mCons (mVar 0) (mCons (mVar 3) mNil))))) (xs := F) (J := Sl) (fun pre j => [.val (eS s), .val (.int (m : Int)), .dI (putIs [] (pre.map (worth s))), j]) (fun pre p post j e => by
    refine ⟨.val (eP p), ?_⟩
    unfold turn1
    have ht : gN 3 (eP p) [.val (eS s), .val (.int (m : Int)), .dI (putIs [] (pre.map (worth s))), j] = some [.val (eS s), .val (.int (m : Int)), .dI (putIs [] (pre.map (worth s))), .val (eP p)] := rfl
    rw [ht]
    simp only
    have hp := hin p (by rw [e]; simp)
    have hsum : mCall M_sum_of (mCons (mVar 0) (mCons (mVar 3) mNil)) [.val (eS s), .val (.int (m : Int)), .dI (putIs [] (pre.map (worth s))), .val (eP p)] = .ok (.int (worth s p)) := (call_ok (ds := [eS s, eP p]) rfl).trans (sum_of_ok hp.1 hp.2)
    have hlt : (putIs [] (pre.map (worth s))).length < LIM := by
      have h1 := hle (pre.map (worth s)) []
      rw [List.length_map] at h1
      have h2 : pre.length ≤ F.length := by rw [e, List.length_append]; omega
      exact Nat.lt_of_le_of_lt (show _ ≤ 4096 * 12 by simp at h1; omega) (by decide)
    have hput : putIs [] ((pre ++ [p]).map (worth s)) = putI (putIs [] (pre.map (worth s))) (worth s p) := by
      unfold putIs; rw [List.map_append, List.foldl_append]; rfl
    rw [hput]
    generalize putIs [] (pre.map (worth s)) = ks at *
    unfold sPutI
    simp only [List.getElem?_cons_succ, List.getElem?_cons_zero, hsum, sBind]
    rw [if_pos hlt]; rfl) .un
  obtain ⟨j, e⟩ := key
  refine (seq_nx (ρ' := [.val (eS s), .val (.int (m : Int)), .dI (putIs [] (F.map (worth s))), j]) ((sFor_ok (iA_list (ds := F.map eP) ((call_ok (ds := [eS s, .int (m : Int)]) rfl).trans hpc))).trans e)).trans ?_
  have h1 := hle (F.map (worth s)) []
  rw [List.length_map] at h1
  exact ret_ok ((cb_ok (ds := [.list ((putIs [] (F.map (worth s))).map .int)]) rfl).trans (sort_ints _ (Nat.le_trans (show _ ≤ 4096 * 12 by simp at h1; omega) (by decide))))
theorem worths_ok {s : Sheet} (v : Valid s) (m : Nat) (hm : 1 ≤ m) (hm2 : m ≤ 12) : M_worths [eS s, .int (m : Int)] = .ok (eI (wList s m)) := by
  refine fun_rt ?_
  refine (seq_nx (ρ' := [.val (eS s), .val (.int m)]) (expr_ok ((call_ok (ds := [eS s]) rfl).trans (checked_ok v)))).trans ?_
  refine (seq_nx (ρ' := [.val (eS s), .val (.int m)]) (expr_ok ((call_ok (ds := [.int m, .int 12]) rfl).trans (need_number_ok _ _ (by omega) (by omega))))).trans ?_
  exact ret_ok ((call_ok (ds := [eS s, .int m]) rfl).trans (worths_of_ok v m hm))
/-- the least whole number from 1 on that is not in W -/
def IsMex (W : List Int) (m : Int) : Prop := 1 ≤ m ∧ m ∉ W ∧ ∀ k, 1 ≤ k → k < m → k ∈ W
theorem mex_uniq {W : List Int} {m n : Int} (h : IsMex W m) (g : IsMex W n) : m = n := by
  obtain ⟨h1, h2, h3⟩ := h
  obtain ⟨g1, g2, g3⟩ := g
  by_cases e : m < n
  · exact absurd (g3 m h1 e) h2
  · by_cases e2 : n < m
    · exact absurd (h3 n g1 e2) g2
    · omega
theorem mex_le {W : List Int} {m : Int} (h : IsMex W m) : m ≤ W.length + 1 := by
  obtain ⟨h1, h2, h3⟩ := h
  have hn : ((List.range (m - 1).toNat).map fun (i : Nat) => (i : Int) + 1).Nodup := List.Pairwise.map _ (fun a b hne e => hne (by omega)) List.nodup_range
  have := hn.length_le_of_subset (l₂ := W) fun k hk => by
    obtain ⟨i, hi, rfl⟩ := List.mem_map.mp hk
    have := List.mem_range.mp hi
    exact h3 _ (by omega) (by omega)
  rw [List.length_map, List.length_range] at this
  omega
theorem missing_of_ok {s : Sheet} (v : Valid s) (m : Nat) (hm : 1 ≤ m) : ∃ k, M_missing_of [eS s, .int (m : Int)] = .ok (.int k) ∧ IsMex (wList s m) k := by
  have hw := worths_of_ok v m hm
  have hup : (wList s m).Pairwise (· < ·) := sortU_lt _
  generalize wList s m = W at *
  have key := for_inv (enc := PyData.int) (t := gN 3) (mb := (sIf (mB (m2 dEq (mVar 3) (mVar 2))) (sSet 2 (m2 dAdd (mVar 2) (mC (.int 1)))) sNil)) (xs := W) (J := Int × Sl) (fun j => [.val (eS s), .val (.int (m : Int)), .val (.int j.1), j.2]) (fun pre j => IsMex pre j.1) (fun pre x post j e hI => by
    obtain ⟨n, j2⟩ := j
    obtain ⟨h1, h2, h3⟩ := hI
    simp only at h1 h2 h3
    have hc : (mB (m2 dEq (mVar 3) (mVar 2))) [.val (eS s), .val (.int (m : Int)), .val (.int n), .val (.int x)] = .ok (decide (x = n)) := t_b (m2_ok rfl rfl (Enc.int.dEq (by decide) _ _))
    have ht : gN 3 (.int x) [.val (eS s), .val (.int (m : Int)), .val (.int n), j2] = some [.val (eS s), .val (.int (m : Int)), .val (.int n), .val (.int x)] := rfl
    by_cases hx : x = n
    · rw [decide_eq_true hx] at hc
      refine ⟨(n + 1, .val (.int x)), ?_, ⟨by show (1 : Int) ≤ n + 1; omega, fun hh => ?_, fun k k1 k2 => ?_⟩⟩
      · unfold turn1
        rw [ht]
        exact (if_t hc).trans rfl
      · rw [e] at hup
        have hp := (List.pairwise_append.mp hup).2.2
        rcases List.mem_append.mp hh with h | h
        · have := hp _ h x (by simp)
          simp only at this
          omega
        · have := List.mem_singleton.mp h
          simp only at this
          omega
      · simp only at k2
        by_cases hk : k < n
        · exact List.mem_append_left _ (h3 k k1 hk)
        · exact List.mem_append_right _ (List.mem_singleton.mpr (by omega))
    · rw [decide_eq_false hx] at hc
      refine ⟨(n, .val (.int x)), ?_, ⟨h1, fun hh => ?_, fun k k1 k2 => List.mem_append_left _ (h3 k k1 k2)⟩⟩
      · unfold turn1
        rw [ht]
        exact (if_f hc).trans rfl
      · rcases List.mem_append.mp hh with h | h
        · exact h2 h
        · exact hx (List.mem_singleton.mp h).symm) (1, .un) ⟨by decide, by simp, fun k k1 k2 => by simp only at k2; omega⟩
  obtain ⟨⟨n, j⟩, e, hI⟩ := key
  refine ⟨n, fun_rt ?_, hI⟩
  refine (seq_nx (ρ' := [.val (eS s), .val (.int (m : Int)), .val (.int 1), .un]) rfl).trans ?_
  exact (seq_nx ((sFor_ok (iA_list (ds := W.map .int) ((call_ok (ds := [eS s, .int (m : Int)]) rfl).trans hw))).trans e)).trans rfl
theorem law_missing_ok {s : Sheet} (v : Valid s) (h11 : (cellsOf s).length ≤ 11) (m : Nat) {k : Int} (hk : IsMex (wList s m) k) : M_law_missing [eS s, .int (m : Int)] = .ok (.int k) := by
  have hw := law_worths_ok v h11 m
  have hlen : (wList s m).length ≤ 2048 := by
    unfold wList
    refine Nat.le_trans ((sortU_nodup _).length_le_of_subset (l₂ := (lvls (cellsOf s) (min m (cellsOf s).length)).flatten.map (worth s)) fun x hx => sortU_mem.mp hx) ?_
    rw [List.length_map]
    exact flat_lim v.kok h11 m
  generalize wList s m = W at *
  have hkl := mex_le hk
  refine fun_rt ?_
  refine (seq_nx (ρ' := [.val (eS s), .val (.int (m : Int)), .val (eI W), .un]) ((set_ok ((call_ok (ds := [eS s, .int (m : Int)]) rfl).trans hw)).trans rfl)).trans ?_
  refine (seq_nx (ρ' := [.val (eS s), .val (.int (m : Int)), .val (eI W), .val (.int 1)]) rfl).trans ?_
  refine (seq_nx (ρ' := [.val (eS s), .val (.int (m : Int)), .val (eI W), .val (.int k)]) ?_).trans rfl
  have hc : ∀ n : Int, (mB (m2 dIn (mVar 3) (mVar 2))) [.val (eS s), .val (.int (m : Int)), .val (eI W), .val (.int n)] = .ok (decide (n ∈ W)) := fun n => by
    refine t_b (m2_ok (x := .int n) (y := eI W) rfl rfl ?_)
    have := Enc.int.dIn (by decide) n W
    rw [show eI W = .list (W.map .int) from rfl, this]
  obtain ⟨k1, k2, k3⟩ := hk
  have go : ∀ (j fuel : Nat) (n : Int), 1 ≤ n → n + j = k → j < fuel → whGo (mB (m2 dIn (mVar 3) (mVar 2))) (sSet 3 (m2 dAdd (mVar 3) (mC (.int 1)))) fuel [.val (eS s), .val (.int (m : Int)), .val (eI W), .val (.int n)] = .nx [.val (eS s), .val (.int (m : Int)), .val (eI W), .val (.int k)] := by
    intro j
    induction j with
    | zero =>
      intro fuel n h1 h2 h3
      obtain ⟨fuel, rfl⟩ : ∃ f', fuel = f' + 1 := ⟨fuel - 1, by omega⟩
      have e : n = k := by omega
      subst e
      have h := hc n
      rw [decide_eq_false k2] at h
      exact wh_f h
    | succ j ih =>
      intro fuel n h1 h2 h3
      obtain ⟨fuel, rfl⟩ : ∃ f', fuel = f' + 1 := ⟨fuel - 1, by omega⟩
      have h := hc n
      rw [decide_eq_true (k3 n h1 (by omega))] at h
      exact (wh_t h (ρ2 := [.val (eS s), .val (.int (m : Int)), .val (eI W), .val (.int (n + 1))]) rfl).trans (ih fuel (n + 1) (by omega) (by omega) (by omega))
  exact go (k - 1).toNat 5000 1 (by decide) (by omega) (by omega)
theorem first_missing_ok {s : Sheet} (v : Valid s) (m : Nat) (hm : 1 ≤ m) (hm2 : m ≤ 12) : ∃ k, M_first_missing [eS s, .int (m : Int)] = .ok (.int k) ∧ IsMex (wList s m) k := by
  obtain ⟨k, e, hk⟩ := missing_of_ok v m hm
  refine ⟨k, fun_rt ?_, hk⟩
  refine (seq_nx (ρ' := [.val (eS s), .val (.int m)]) (expr_ok ((call_ok (ds := [eS s]) rfl).trans (checked_ok v)))).trans ?_
  refine (seq_nx (ρ' := [.val (eS s), .val (.int m)]) (expr_ok ((call_ok (ds := [.int m, .int 12]) rfl).trans (need_number_ok _ _ (by omega) (by omega))))).trans ?_
  exact ret_ok ((call_ok (ds := [eS s, .int m]) rfl).trans e)
end Stm
set_option Elab.async false
set_option linter.all false
set_option maxRecDepth 100000
set_option maxHeartbeats 4000000
namespace Stm
open PySem PySem.Spec PyProof.Rows L2
/-! ### what is no sheet -/
theorem t_orl {a b : TM} {ρ : Rho} (h : a ρ = .ok true) : mOr a b ρ = .ok true := by unfold mOr; rw [h]; rfl
theorem t_orr {a b : TM} {ρ : Rho} {y : Bool} (h : a ρ = .ok false) (g : b ρ = .ok y) : mOr a b ρ = .ok y := (t_or h g).trans (by rw [Bool.false_or])
def okI : PyData → Bool
  | .int i => decide (1 ≤ i) && decide (i ≤ 9999)
  | _ => false
def okD : PyData → Bool
  | .none => true
  | d => okI d
theorem between_gen (d : PyData) : M_between [d, .int 1, .int 9999] = .ok (.bool (okI d)) := by
  cases d with
  | int i => exact between_ok i 1 9999
  | none => rfl
  | bool b => rfl
  | str x => rfl
  | list xs => rfl
  | tuple xs => rfl
  | dict xs => rfl
def rowOK (w : Nat) : PyData → Bool
  | .tuple ds => decide (ds.length = w) && ds.all okD
  | _ => false
theorem is_row_gen (w : Nat) (r : PyData) (hl : ∀ ds, r = .tuple ds → ds.length ≤ 100) : M_is_row [r, .int (w : Int)] = .ok (.bool (rowOK w r)) := by
  by_cases ht : isT "tuple" r = true
  · obtain ⟨ds, rfl⟩ : ∃ ds, r = .tuple ds := by
      cases r <;> first | exact ⟨_, rfl⟩ | (exfalso; revert ht; decide) | (exfalso; simp [isT, tyOf] at ht)
    refine fun_rt ?_
    have hc : (mOr (mNot (mB (mIsi "tuple" (mVar 0)))) (mB (m2 dNe (mCB dLen (mCons (mVar 0) mNil)) (mVar 1)))) [.val (.tuple ds), .val (.int (w : Int)), .un] = .ok (!decide (ds.length = w)) := by
      refine t_orr rfl ((t_b (m2_ok (x := .int (ds.length : Int)) (y := .int (w : Int)) rfl rfl (Enc.int.dNe (by decide) _ _))).trans ?_)
      congr 2
      exact decide_eq_decide.mpr Int.ofNat_inj
    by_cases hw : ds.length = w
    · rw [decide_eq_true hw] at hc
      refine (seq_nx (ρ' := [.val (.tuple ds), .val (.int (w : Int)), .un]) ((if_f hc).trans rfl)).trans ?_
      refine ret_ok ((all_ok (enc := fun d : PyData => d) okD ds ((iA_tuple rfl).trans (by rw [List.map_id'])) (lim100 (hl ds rfl)) (fun d hd => ⟨[.val (.tuple ds), .val (.int (w : Int)), .val d], rfl, ?_⟩)).trans ?_)
      · cases d with
        | none => rfl
        | int i => exact (v_or (x := false) rfl ((call_ok (ds := [.int i, .int 1, .int 9999]) rfl).trans (between_gen _))).trans (by rw [Bool.false_or]; rfl)
        | bool b => rfl
        | str x => rfl
        | list xs => rfl
        | tuple xs => rfl
        | dict xs => rfl
      · unfold rowOK
        simp only [hw, decide_true, Bool.true_and]
    · rw [decide_eq_false hw] at hc
      refine (seq_rt ((if_t hc).trans rfl)).trans ?_
      unfold rowOK
      simp only [hw, decide_false, Bool.false_and]
  · have hr : rowOK w r = false := by
      cases r <;> first | rfl | (exfalso; exact ht (by simp [isT, tyOf]))
    rw [hr]
    refine fun_rt (seq_rt ((if_t (t_orl (t_not (x := false) (t_b ?_)))).trans rfl))
    show Res.ok (PyData.bool (isT "tuple" r)) = _
    rw [Bool.not_eq_true] at ht
    rw [ht]
theorem ns_tup (d : PyData) (h : isT "tuple" d = false) : M_is_sheet [d] = .ok (.bool false) := by
  refine fun_rt (seq_rt ((if_t (t_orl (t_not (x := false) (t_b ?_)))).trans rfl))
  show Res.ok (PyData.bool (isT "tuple" d)) = _
  rw [h]
theorem ns_len (ds : List PyData) (h : ¬(1 ≤ ds.length ∧ ds.length ≤ 5)) : M_is_sheet [.tuple ds] = .ok (.bool false) := by
  refine fun_rt (seq_rt ((if_t (t_orr rfl (t_orl (t_not (x := false) (t_b ((ch_int (i := 1) (j := (ds.length : Int)) (k := 5) rfl rfl rfl).trans ?_)))))).trans rfl))
  congr 2
  rw [← Bool.decide_and]
  exact decide_eq_false (by omega)
theorem ix0 (d : PyData) (ds : List PyData) : dIx (.tuple (d :: ds)) (.int 0) = .ok d := dIx_natT (j := 0) rfl
theorem ev0 (d : PyData) (ds : List PyData) (a : Sl) : m2 dIx (mVar 0) (mC (.int 0)) [.val (.tuple (d :: ds)), a] = .ok d := m2_ok (x := .tuple (d :: ds)) (y := .int 0) rfl rfl (ix0 d ds)
theorem evl0 (c ds : List PyData) (a : Sl) : mCB dLen (mCons (m2 dIx (mVar 0) (mC (.int 0))) mNil) [.val (.tuple (.tuple c :: ds)), a] = .ok (.int (c.length : Int)) := (cb_ok (cons_ok (ev0 _ _ _) rfl)).trans rfl
theorem evt0 (d : PyData) (ds : List PyData) (a : Sl) : mIsi "tuple" (m2 dIx (mVar 0) (mC (.int 0))) [.val (.tuple (d :: ds)), a] = .ok (.bool (isT "tuple" d)) := by
  unfold mIsi
  rw [ev0]; rfl
theorem ns_first {ds : List PyData} (h1 : ds.length ≤ 4) (d : PyData) : (mOr (mNot (mB (mIsi "tuple" (mVar 0)))) (mOr (mNot (mB (mCh dLe dLe (mC (.int 1)) (mCB dLen (mCons (mVar 0) mNil)) (mC (.int 5))))) (mNot (mB (mIsi "tuple" (m2 dIx (mVar 0) (mC (.int 0)))))))) [.val (.tuple (d :: ds)), .un] = .ok (!isT "tuple" d) := by
  refine t_orr rfl (t_orr (t_not (x := true) (t_b ((ch_int (i := 1) (j := ((d :: ds).length : Int)) (k := 5) rfl rfl rfl).trans ?_))) (t_not (t_b (evt0 d ds .un))))
  congr 2
  rw [← Bool.decide_and]
  exact decide_eq_true (by rw [List.length_cons]; omega)
theorem ns_r0 (d : PyData) (ds : List PyData) (h1 : ds.length ≤ 4) (h : isT "tuple" d = false) : M_is_sheet [.tuple (d :: ds)] = .ok (.bool false) := by
  refine fun_rt (seq_rt ((if_t ?_).trans rfl))
  exact (ns_first h1 d).trans (by rw [h]; rfl)
theorem ns_w (c ds : List PyData) (h1 : ds.length ≤ 4) (h : ¬(1 ≤ c.length ∧ c.length ≤ 5)) : M_is_sheet [.tuple (.tuple c :: ds)] = .ok (.bool false) := by
  refine fun_rt ((seq_nx (ρ' := [.val (.tuple (.tuple c :: ds)), .un]) ((if_f ((ns_first h1 (.tuple c)).trans rfl)).trans rfl)).trans (seq_rt ((if_t (t_orl (t_not (x := false) (t_b ((ch_int (i := 1) (j := (c.length : Int)) (k := 5) rfl (evl0 c ds .un) rfl).trans ?_))))).trans rfl)))
  congr 2
  rw [← Bool.decide_and]
  exact decide_eq_false (by omega)
theorem ns_second {c ds : List PyData} (h1 : ds.length ≤ 4) (h : 1 ≤ c.length ∧ c.length ≤ 5) (hl : ∀ r ∈ ds, ∀ xs, r = .tuple xs → xs.length ≤ 100) : (mOr (mNot (mB (mCh dLe dLe (mC (.int 1)) (mCB dLen (mCons (m2 dIx (mVar 0) (mC (.int 0))) mNil)) (mC (.int 5))))) (mNot (mB (mCB dAll (mCons (mLc [1] (iA (mVar 0)) (gN 1) mYes (mCall M_is_row (mCons (mVar 1) (mCons (mCB dLen (mCons (m2 dIx (mVar 0) (mC (.int 0))) mNil)) mNil)))) mNil))))) [.val (.tuple (.tuple c :: ds)), .un] = .ok (!((PyData.tuple c :: ds).all (rowOK c.length))) := by
  refine t_orr (t_not (x := true) (t_b ((ch_int (i := 1) (j := (c.length : Int)) (k := 5) rfl (evl0 c ds .un) rfl).trans ?_))) (t_not (t_b (all_ok (enc := fun d : PyData => d) (rowOK c.length) (.tuple c :: ds) ((iA_tuple rfl).trans (by rw [List.map_id'])) (lim100 (by rw [List.length_cons]; omega)) fun r hr => ⟨[.val (.tuple (.tuple c :: ds)), .val r], rfl, ?_⟩)))
  · congr 2
    rw [← Bool.decide_and]
    exact decide_eq_true (by omega)
  · refine (call_ok (ds := [r, .int (c.length : Int)]) (cons_ok rfl (cons_ok (evl0 c ds _) rfl))).trans (is_row_gen c.length r fun xs e => ?_)
    rcases List.mem_cons.mp hr with e2 | e2
    · rw [e2] at e; cases e; omega
    · exact hl r e2 xs e
theorem ns_bad (c ds : List PyData) (h1 : ds.length ≤ 4) (h : 1 ≤ c.length ∧ c.length ≤ 5) (hl : ∀ r ∈ ds, ∀ xs, r = .tuple xs → xs.length ≤ 100) (hb : (PyData.tuple c :: ds).all (rowOK c.length) = false) : M_is_sheet [.tuple (.tuple c :: ds)] = .ok (.bool false) := by
  refine fun_rt ((seq_nx (ρ' := [.val (.tuple (.tuple c :: ds)), .un]) ((if_f ((ns_first h1 (.tuple c)).trans rfl)).trans rfl)).trans (seq_rt ((if_t ((ns_second h1 h hl).trans ?_)).trans rfl)))
  rw [hb]; rfl
theorem ns_cnt (s : Sheet) (w : Nat) (h1 : 1 ≤ s.length ∧ s.length ≤ 5) (hw : 1 ≤ w ∧ w ≤ 5) (hr : ∀ r ∈ s, r.length = w) (hv : ∀ r ∈ s, WOk r) (hc : ¬(1 ≤ stampsN s ∧ stampsN s ≤ 12)) : M_is_sheet [eS s] = .ok (.bool false) := by
  obtain ⟨r0, s', rfl⟩ := List.exists_cons_of_length_pos h1.1
  have f : Fit (r0 :: s') := ⟨h1.2, fun r h => by rw [hr r h]; exact hw.2⟩
  have hl1 : s'.length ≤ 4 := by have := h1.2; rw [List.length_cons] at this; omega
  have hr0 := hr r0 List.mem_cons_self
  have hl : ∀ r ∈ s'.map eRow, ∀ xs, r = .tuple xs → xs.length ≤ 100 := fun r h xs e => by
    obtain ⟨q, hq, rfl⟩ := List.mem_map.mp h
    unfold eRow at e
    injection e with e
    rw [← e, List.length_map, hr q (List.mem_cons_of_mem _ hq)]; omega
  have hok : ∀ r ∈ r0 :: s', rowOK w (eRow r) = true := fun r h => by
    unfold eRow rowOK
    simp only [List.length_map, hr r h, decide_true, Bool.true_and, List.all_map, List.all_eq_true, Function.comp]
    intro o ho
    cases o with
    | none => rfl
    | some i =>
      have := hv r h i ho
      show (decide (1 ≤ i) && decide (i ≤ 9999)) = true
      rw [decide_eq_true this.1, decide_eq_true this.2]; rfl
  have hall : (PyData.tuple (r0.map eO) :: s'.map eRow).all (rowOK (r0.map eO).length) = true := by
    rw [List.length_map, hr0]
    refine List.all_eq_true.mpr fun r h => ?_
    rcases List.mem_cons.mp h with e | e
    · rw [e]; exact hok r0 List.mem_cons_self
    · obtain ⟨q, hq, rfl⟩ := List.mem_map.mp e
      exact hok q (List.mem_cons_of_mem _ hq)
  refine fun_rt ((seq_nx (ρ' := [.val (eS (r0 :: s')), .un]) ((if_f ((ns_first (ds := s'.map eRow) (by rw [List.length_map]; exact hl1) (.tuple (r0.map eO))).trans rfl)).trans rfl)).trans ((seq_nx (ρ' := [.val (eS (r0 :: s')), .un]) ((if_f ((ns_second (c := r0.map eO) (ds := s'.map eRow) (by rw [List.length_map]; exact hl1) (by rw [List.length_map, hr0]; exact hw) hl).trans (by rw [hall]; rfl))).trans rfl)).trans (ret_ok ((ch_int (i := 1) (j := (stampsN (r0 :: s') : Int)) (k := 12) rfl ((cb_ok (ds := [eL (cellsOf (r0 :: s'))]) (cons_ok ((call_ok (ds := [eS (r0 :: s')]) rfl).trans (cells_ok f)) rfl)).trans ?_) rfl).trans ?_))))
  · show Res.ok (PyData.int (((cellsOf (r0 :: s')).map eC).length : Int)) = _
    rw [List.length_map, cells_cnt]
  · congr 2
    rw [← Bool.decide_and]
    exact decide_eq_false (by omega)
theorem checked_exc {d : PyData} (h : M_is_sheet [d] = .ok (.bool false)) : M_checked [d] = .exc .sheet := by
  refine fun_exc (ρ' := [.val d]) ?_
  exact seq_exc ((if_t (t_not (x := false) (t_b ((call_ok (ds := [d]) rfl).trans h)))).trans rfl)

/-! ### neighbours -/
theorem stamps_ok {s : Sheet} (v : Valid s) : M_stamps [eS s] = .ok (eL (cellsOf s)) :=
  fun_rt (ret_ok ((call_ok (ds := [eS s]) (cons_ok ((call_ok (ds := [eS s]) rfl).trans (checked_ok v)) rfl)).trans (cells_ok v.fit)))
theorem need_cell_ok {s : Sheet} (v : Valid s) {c : Cell} (hc : c ∈ cellsOf s) : M_need_cell [eS s, eC c] = .ok .none := by
  refine fun_nx (ρ' := [.val (eS s), .val (eC c)]) ((seq_nx (ρ' := [.val (eS s), .val (eC c)]) ((if_f (t_orr rfl (t_orr rfl (t_orr rfl rfl)))).trans rfl)).trans ((if_f ((t_b (m2_ok (x := eC c) (y := eL (cellsOf s)) rfl ((call_ok (ds := [eS s]) rfl).trans (cells_ok v.fit)) (cNotIn c (cellsOf s)))).trans ?_)).trans rfl))
  rw [decide_eq_true hc]; rfl
theorem near_ok {s : Sheet} (v : Valid s) {c : Cell} (hc : c ∈ cellsOf s) : M_near [eS s, eC c] = .ok (eL ((cellsOf s).filter fun d => decide (c ∈ arnd d))) := by
  have e : (cellsOf s).filter (fun d => decide (c ∈ arnd d)) = (arnd c).filter fun d => decide (d ∈ cellsOf s) := by
    have ha : (arnd c).Pairwise clt := by
      obtain ⟨a, b⟩ := c
      simp only [arnd, clt, List.pairwise_cons, List.mem_cons, List.not_mem_nil, or_false, forall_eq_or_imp, forall_eq, List.Pairwise.nil, and_true, false_implies, implies_true]
      refine ⟨⟨?_, ?_, ?_⟩, ⟨?_, ?_⟩, ?_⟩ <;> first | omega | exact .inr ⟨trivial, by omega⟩
    refine up_uniq ((cells_up s).sublist List.filter_sublist) (ha.sublist List.filter_sublist) ((List.perm_ext_iff_of_nodup (up_nodup ((cells_up s).sublist List.filter_sublist)) (up_nodup (ha.sublist List.filter_sublist))).mpr fun d => ?_)
    simp only [List.mem_filter, decide_eq_true_eq]
    exact ⟨fun h => ⟨arnd_symm h.2, h.1⟩, fun h => ⟨h.2, arnd_symm h.1⟩⟩
  rw [e]
  have hlc := lc_map (enc := eC) (t := gN 3) (mt := (mB (m2 dIn (mVar 3) (mVar 2)))) (me := mVar 3) (ρ := [.val (eS s), .val (eC c), .val (eL (cellsOf s)), .un]) (fun d => decide (d ∈ cellsOf s)) eC (arnd c) (fun d _ => ⟨[.val (eS s), .val (eC c), .val (eL (cellsOf s)), .val (eC d)], rfl, t_b (m2_ok rfl rfl (cIn d (cellsOf s))), fun _ => rfl⟩)
  refine fun_rt ?_
  refine (seq_nx (ρ' := [.val (eS s), .val (eC c), .un, .un]) (expr_ok ((call_ok (ds := [eS s]) rfl).trans (checked_ok v)))).trans ?_
  refine (seq_nx (ρ' := [.val (eS s), .val (eC c), .un, .un]) (expr_ok ((call_ok (ds := [eS s, eC c]) rfl).trans (need_cell_ok v hc)))).trans ?_
  refine (seq_nx (ρ' := [.val (eS s), .val (eC c), .val (eL (cellsOf s)), .un]) ((set_ok ((call_ok (ds := [eS s]) rfl).trans (cells_ok v.fit))).trans rfl)).trans ?_
  exact ret_ok (mLc_ok (ds := (arnd c).map eC) (iA_list ((call_ok (ds := [eC c]) rfl).trans (around_ok c))) (lim100 (show 4 ≤ 100 by decide)) hlc)
end Stm
set_option Elab.async false
set_option linter.all false
set_option maxRecDepth 100000
set_option maxHeartbeats 4000000
namespace Stm
open PySem PySem.Spec PyProof.Rows L2
/-! ### the program's walk over a piece -/
theorem arnd_nodup (c : Cell) : (arnd c).Nodup := by
  obtain ⟨a, b⟩ := c
  simp [arnd]
  omega
theorem nkC_inj {c d : Cell} (h : nkC c = nkC d) : c = d := encC.inj _ _ (by
  have h1 := keyOf_data _ _ (keyOf_cell c)
  have h2 := keyOf_data _ _ (keyOf_cell d)
  rw [← h1, ← h2, h])
theorem nkC_depth (c : Cell) : (nkC c).depth ≤ 8 := by
  simp [nkC, NestedKey.depth, NestedKey.depthAll]
theorem nkC_mem {c : Cell} {R : List Cell} : nkC c ∈ R.map nkC ↔ c ∈ R := by
  constructor
  · intro h
    obtain ⟨d, hd, e⟩ := List.mem_map.mp h
    rw [← nkC_inj e]; exact hd
  · exact fun h => List.mem_map_of_mem h
abbrev hgSt (p R S : List Cell) (o : Sl) : Rho := [.val (eP p), .dT (R.map nkC), .own (S.map eC), o]
def hgq (p R : List Cell) (d : Cell) : Bool := decide (d ∈ p) && !decide (d ∈ R)
abbrev hgB : SM := (sIf (mAnd (mB (m2 dIn (mVar 3) (mVar 0))) (mB (mInNT 1 (mVar 3)))) (sSeq (sPutT 1 (mVar 3)) (sApp 2 (mVar 3))) sNil)
structure HgI (p R S : List Cell) : Prop where
  gr : Grow R
  sub : ∀ c ∈ R, c ∈ p
  ss : ∀ c ∈ S, c ∈ R
  hd : ∃ c ∈ R, c ∈ p
  clo : ∀ a ∈ R, a ∉ S → ∀ c ∈ p, c ∈ arnd a → c ∈ R
theorem HgI.len {p R S : List Cell} (h : HgI p R S) : R.length ≤ p.length := h.gr.nodup.length_le_of_subset fun c hc => h.sub c hc
theorem inNT_ok {p R S : List Cell} {x : Cell} : mInNT 1 (mVar 3) (hgSt p R S (.val (eC x))) = .ok (.bool (!decide (x ∈ R))) := by
  show (match some (Sl.dT (R.map nkC)), eC x, keyOf (eC x) with
    | some (.dT ks), .tuple _, some k => if k.depth ≤ 8 then Res.ok (PyData.bool (!decide (k ∈ ks))) else .stuck
    | _, _, _ => .stuck) = _
  rw [keyOf_cell]
  show (if (nkC x).depth ≤ 8 then Res.ok (PyData.bool (!decide (nkC x ∈ R.map nkC))) else .stuck) = _
  rw [if_pos (nkC_depth x)]
  congr 3
  rw [decide_eq_decide]
  exact nkC_mem
theorem hg_turn {p R S : List Cell} {x : Cell} {o : Sl} (hR : R.length ≤ 100) (hS : S.length ≤ 100) : turn1 (gN 3) hgB (eC x) (hgSt p R S o) = .nx (if hgq p R x = true then hgSt p (R ++ [x]) (S ++ [x]) (.val (eC x)) else hgSt p R S (.val (eC x))) := by
  have h0 : gN 3 (eC x) (hgSt p R S o) = some (hgSt p R S (.val (eC x))) := rfl
  have h1 : (mAnd (mB (m2 dIn (mVar 3) (mVar 0))) (mB (mInNT 1 (mVar 3)))) (hgSt p R S (.val (eC x))) = .ok (hgq p R x) := t_and (t_b (m2_ok rfl rfl (cInT x p))) (t_b inNT_ok)
  unfold turn1
  rw [h0]
  simp only
  unfold hgB
  cases hq : hgq p R x with
  | false =>
    rw [hq] at h1
    rw [if_neg Bool.false_ne_true]
    exact (if_f h1).trans rfl
  | true =>
    rw [hq] at h1
    rw [if_pos rfl]
    have hx : x ∉ R := by
      unfold hgq at hq
      simp only [Bool.and_eq_true, Bool.not_eq_true', decide_eq_false_iff_not] at hq
      exact hq.2
    refine (if_t h1).trans ((seq_nx (ρ' := hgSt p (R ++ [x]) S (.val (eC x))) ?_).trans ?_)
    · show (match eC x, keyOf (eC x) with
        | .tuple _, some k => if (R.map nkC).length < LIM ∧ k.depth ≤ 8 then SRes.nx ((hgSt p R S (.val (eC x))).set 1 (.dT (dTput (R.map nkC) k))) else .stuck
        | _, _ => .stuck) = _
      rw [keyOf_cell]
      show (if (R.map nkC).length < LIM ∧ (nkC x).depth ≤ 8 then SRes.nx ((hgSt p R S (.val (eC x))).set 1 (.dT (dTput (R.map nkC) (nkC x)))) else .stuck) = _
      rw [if_pos ⟨by rw [List.length_map]; exact Nat.lt_of_le_of_lt hR (by decide), nkC_depth x⟩]
      unfold dTput
      rw [if_neg (fun z => hx (nkC_mem.mp z))]
      have e3 : (R ++ [x]).map nkC = R.map nkC ++ [nkC x] := by rw [List.map_append]; rfl
      unfold hgSt
      rw [e3]; rfl
    · refine (app_ok (ds := S.map eC) (d := eC x) rfl rfl (by rw [List.length_map]; exact Nat.lt_of_le_of_lt hS (by decide))).trans ?_
      have e3 : (S ++ [x]).map eC = S.map eC ++ [eC x] := by rw [List.map_append]; rfl
      unfold hgSt
      rw [e3]; rfl
theorem hg_for {p R S : List Cell} {c : Cell} {o : Sl} (hR : R.length ≤ 90) (hS : S.length ≤ 90) : ∃ o', forGo (gN 3) hgB ((arnd c).map eC) (hgSt p R S o) = .nx (hgSt p (R ++ (arnd c).filter (hgq p R)) (S ++ (arnd c).filter (hgq p R)) o') := by
  have key := for_pre (enc := eC) (t := gN 3) (mb := hgB) (xs := arnd c) (J := Sl) (fun pre j => hgSt p (R ++ pre.filter (hgq p R)) (S ++ pre.filter (hgq p R)) j) (fun pre x post j e => by
    refine ⟨.val (eC x), ?_⟩
    have hn := arnd_nodup c
    have hl : (arnd c).length = 4 := rfl
    rw [e] at hn hl
    have hx : x ∉ pre := fun h => (List.nodup_append.mp hn).2.2 x h x (by simp) rfl
    have hpl : pre.length ≤ 4 := by rw [List.length_append] at hl; omega
    have hfl := List.length_filter_le (hgq p R) pre
    rw [hg_turn (by rw [List.length_append]; omega) (by rw [List.length_append]; omega)]
    have hq : hgq p (R ++ pre.filter (hgq p R)) x = hgq p R x := by
      unfold hgq
      congr 2
      rw [decide_eq_decide, List.mem_append]
      exact ⟨fun h => h.resolve_right fun h2 => hx (List.mem_filter.mp h2).1, .inl⟩
    rw [hq, List.filter_append]
    cases h : hgq p R x with
    | true =>
      rw [if_pos rfl]
      have : [x].filter (hgq p R) = [x] := by rw [List.filter_cons_of_pos h]; rfl
      rw [this, List.append_assoc, List.append_assoc]
    | false =>
      rw [if_neg Bool.false_ne_true]
      have : [x].filter (hgq p R) = [] := by rw [List.filter_cons_of_neg (by rw [h]; exact Bool.false_ne_true)]; rfl
      rw [this, List.append_nil]) o
  obtain ⟨o', e⟩ := key
  refine ⟨o', ?_⟩
  have e0 : hgSt p (R ++ ([] : List Cell).filter (hgq p R)) (S ++ ([] : List Cell).filter (hgq p R)) o = hgSt p R S o := by simp
  rw [e0] at e
  exact e
theorem hg_pop {p R S : List Cell} {c : Cell} {o : Sl} (hR : R.length ≤ 90) (hS : S.length ≤ 90) : ∃ o', sForPop 2 M_around (gN 3) hgB (hgSt p R (S ++ [c]) o) = .nx (hgSt p (R ++ (arnd c).filter (hgq p R)) (S ++ (arnd c).filter (hgq p R)) o') := by
  obtain ⟨o', h⟩ := hg_for (p := p) (R := R) (S := S) (c := c) (o := o) hR hS
  refine ⟨o', ?_⟩
  have e1 : ((S ++ [c]).map eC).getLast? = some (eC c) := by rw [List.map_append]; simp
  have e2 : ((S ++ [c]).map eC).dropLast = S.map eC := by rw [List.map_append]; simp
  show (match ((S ++ [c]).map eC).getLast? with
    | some d => sBind ((M_around [d]).bind itemsL) ((hgSt p R (S ++ [c]) o).set 2 (.own ((S ++ [c]).map eC).dropLast)) fun es => forGo (gN 3) hgB es ((hgSt p R (S ++ [c]) o).set 2 (.own ((S ++ [c]).map eC).dropLast))
    | none => .stuck) = _
  rw [e1, e2]
  show sBind ((M_around [eC c]).bind itemsL) (hgSt p R S o) (fun es => forGo (gN 3) hgB es (hgSt p R S o)) = _
  rw [around_ok]
  exact h
theorem hang_ok {p : List Cell} (hp : p.Nodup) (hne : p ≠ []) (hl : p.length ≤ 12) : M_hangs [eP p] = .ok (.bool (connB p)) := by
  obtain ⟨c0, p', rfl⟩ := List.exists_cons_of_ne_nil hne
  generalize hpp : c0 :: p' = p at *
  have h0 : c0 ∈ p := by rw [← hpp]; exact List.mem_cons_self
  have hloop : ∀ k, k ≤ 12 → ∀ fuel R S o, HgI p R S → (p.length - R.length) + S.length ≤ k → k < fuel → ∃ R' o', whGo (mB (m2 dNe (mOwn 2) (mLst mNil))) (sForPop 2 M_around (gN 3) hgB) fuel (hgSt p R S o) = .nx (hgSt p R' [] o') ∧ HgI p R' [] := by
    intro k
    induction k with
    | zero =>
      intro h12 fuel R S o hI hk hf
      obtain ⟨fuel, rfl⟩ : ∃ f', fuel = f' + 1 := ⟨fuel - 1, by omega⟩
      have e : S = [] := List.eq_nil_of_length_eq_zero (by omega)
      subst e
      exact ⟨R, o, wh_f (t_b (m2_ok (x := eL []) (y := eL []) rfl rfl ((encL.dNe (by decide) _ _).trans rfl))), hI⟩
    | succ k ih =>
      intro h12 fuel R S o hI hk hf
      obtain ⟨fuel, rfl⟩ : ∃ f', fuel = f' + 1 := ⟨fuel - 1, by omega⟩
      have hc : (mB (m2 dNe (mOwn 2) (mLst mNil))) (hgSt p R S o) = .ok (!decide (S = [])) := t_b (m2_ok (x := eL S) (y := eL []) rfl rfl (encL.dNe (by decide) _ _))
      have hRl := hI.len
      rcases List.eq_nil_or_concat S with rfl | ⟨S', c, hS'⟩
      · exact ⟨R, o, wh_f hc, hI⟩
      · rw [List.concat_eq_append] at hS'
        subst hS'
        rw [List.length_append, List.length_singleton] at hk
        rw [decide_eq_false (by simp)] at hc
        have hSl : S'.length ≤ 90 := by omega
        obtain ⟨o1, hb⟩ := hg_pop (p := p) (R := R) (S := S') (c := c) (o := o) (by omega) hSl
        have hcR : c ∈ R := hI.ss c (by simp)
        generalize hnew : (arnd c).filter (hgq p R) = new at *
        have hmem : ∀ d, d ∈ new ↔ d ∈ arnd c ∧ d ∈ p ∧ d ∉ R := fun d => by
          rw [← hnew, List.mem_filter]
          unfold hgq
          simp
        have hI2 : HgI p (R ++ new) (S' ++ new) := {
          gr := grow_many new R hI.gr hcR (fun d hd => ⟨((hmem d).mp hd).1, ((hmem d).mp hd).2.2⟩) (by rw [← hnew]; exact (arnd_nodup c).sublist List.filter_sublist)
          sub := fun d hd => by
            rcases List.mem_append.mp hd with h | h
            · exact hI.sub d h
            · exact ((hmem d).mp h).2.1
          ss := fun d hd => by
            rcases List.mem_append.mp hd with h | h
            · exact List.mem_append_left _ (hI.ss d (List.mem_append_left _ h))
            · exact List.mem_append_right _ h
          hd := by obtain ⟨d, h1, h2⟩ := hI.hd; exact ⟨d, List.mem_append_left _ h1, h2⟩
          clo := fun a ha hn d hd hda => by
            have hn1 : a ∉ S' := fun h => hn (List.mem_append_left _ h)
            have hn2 : a ∉ new := fun h => hn (List.mem_append_right _ h)
            have haR : a ∈ R := (List.mem_append.mp ha).resolve_right hn2
            by_cases hac : a = c
            · subst hac
              by_cases hdR : d ∈ R
              · exact List.mem_append_left _ hdR
              · exact List.mem_append_right _ ((hmem d).mpr ⟨hda, hd, hdR⟩)
            · exact List.mem_append_left _ (hI.clo a haR (fun h => by
                rcases List.mem_append.mp h with h | h
                · exact hn1 h
                · exact hac (List.mem_singleton.mp h)) d hd hda) }
        have h2 := hI2.len
        rw [List.length_append] at h2
        obtain ⟨R', o', e1, e2⟩ := ih (by omega) fuel (R ++ new) (S' ++ new) o1 hI2 (by rw [List.length_append, List.length_append]; omega) (by omega)
        exact ⟨R', o', (wh_t hc hb).trans e1, e2⟩
  obtain ⟨R, o, e1, e2⟩ := hloop 12 (Nat.le_refl _) 100 [c0] [c0] .un ⟨.one c0, fun c hc => by rw [List.mem_singleton.mp hc]; exact h0, fun c hc => hc, ⟨c0, by simp, h0⟩, fun a ha hn => absurd ha hn⟩ (by
    have : 1 ≤ p.length := List.length_pos_of_mem h0
    simp only [List.length_singleton]
    omega) (by omega)
  have hfin : decide (R.length = p.length) = connB p := by
    rw [Bool.eq_iff_iff, connB_iff, decide_eq_true_eq]
    constructor
    · intro h
      refine ⟨R, e2.gr, (List.perm_ext_iff_of_nodup e2.gr.nodup hp).mpr fun c => ⟨e2.sub c, fun hc => ?_⟩⟩
      refine Classical.byContradiction fun hn => ?_
      have h3 : (c :: R).Nodup := List.nodup_cons.mpr ⟨hn, e2.gr.nodup⟩
      have h4 := h3.length_le_of_subset (l₂ := p) fun d hd => by
        rcases List.mem_cons.mp hd with h | h
        · rw [h]; exact hc
        · exact e2.sub d h
      rw [List.length_cons] at h4
      omega
    · rintro ⟨l, hl, hlp⟩
      have h5 := hl.clo (S := fun c => c ∈ R) (by
        obtain ⟨c, h1, h2⟩ := e2.hd
        exact ⟨c, hlp.mem_iff.mpr h2, h1⟩) fun a ha b hb hs hab => e2.clo a hs (by simp) b (hlp.mem_iff.mp hb) hab
      have h6 := hp.length_le_of_subset (l₂ := R) fun c hc => h5 c (hlp.mem_iff.mpr hc)
      have := e2.len
      omega
  have hix : m2 dIx (mVar 0) (mC (.int 0)) [.val (eP p), .un, .un, .un] = .ok (eC c0) := m2_ok (x := eP p) (y := .int 0) rfl rfl (dIx_natT (j := 0) (by rw [← hpp]; rfl))
  have hix2 : m2 dIx (mVar 0) (mC (.int 0)) [.val (eP p), .dT [nkC c0], .un, .un] = .ok (eC c0) := m2_ok (x := eP p) (y := .int 0) rfl rfl (dIx_natT (j := 0) (by rw [← hpp]; rfl))
  refine fun_rt ?_
  refine (seq_nx (ρ' := [.val (eP p), .dT [nkC c0], .un, .un]) ?_).trans ?_
  · show sBind (m2 dIx (mVar 0) (mC (.int 0)) [.val (eP p), .un, .un, .un]) _ _ = _
    rw [hix]
    show (match eC c0, keyOf (eC c0) with
      | .tuple _, some k => if k.depth ≤ 8 then SRes.nx ([Sl.val (eP p), .un, .un, .un].set 1 (.dT [k])) else .stuck
      | _, _ => .stuck) = _
    rw [keyOf_cell]
    show (if (nkC c0).depth ≤ 8 then SRes.nx ([Sl.val (eP p), .un, .un, .un].set 1 (.dT [nkC c0])) else .stuck) = _
    rw [if_pos (nkC_depth c0)]
    rfl
  refine (seq_nx (ρ' := hgSt p [c0] [c0] .un) ?_).trans ?_
  · exact (ownL_ok (ds := [eC c0]) (cons_ok hix2 rfl) (lim100 (show 1 ≤ 100 by decide))).trans rfl
  refine (seq_nx (ρ' := hgSt p R [] o) e1).trans ?_
  have hRl := e2.len
  refine ret_ok ((m2_ok (x := .int (R.length : Int)) (y := .int (p.length : Int)) ?_ ((cb_ok (ds := [eP p]) rfl).trans ?_) (Enc.int.dEq (by decide) _ _)).trans ?_)
  · show (if (R.map nkC).length ≤ LIM then Res.ok (PyData.int ((R.map nkC).length : Int)) else .stuck) = _
    rw [List.length_map, if_pos (lim100 (by omega))]
  · show Res.ok (PyData.int ((p.map eC).length : Int)) = _
    rw [List.length_map]
  · rw [← hfin]
    congr 2
    rw [decide_eq_decide]
    exact Int.ofNat_inj
end Stm
set_option Elab.async false
set_option linter.all false
set_option maxRecDepth 100000
set_option maxHeartbeats 4000000
namespace Stm
open PySem PySem.Spec PyProof.Rows L2
/-! ### what is a piece -/
theorem shp_pl {d : PyData} (h : pl d = true) (hd : d.depth ≤ 64) : shp d = true := by
  show (d.canLay0 && decide (d.depth ≤ 64)) = true
  rw [pl_lay _ h, Bool.true_and]
  exact decide_eq_true hd
theorem v_andf {a b : EM} {ρ : Rho} (h : a ρ = .ok (.bool false)) : mAndV a b ρ = .ok (.bool false) := by
  unfold mAndV; rw [h]; rfl
theorem v_andt {a b : EM} {ρ : Rho} {r : Res PyData} (h : a ρ = .ok (.bool true)) (g : b ρ = r) : mAndV a b ρ = r := by
  unfold mAndV; rw [h, ← g]; rfl
theorem is_cell_ok (c : Cell) : M_is_cell [eC c] = .ok (.bool true) := rfl
theorem dLtT_cell (c d : Cell) : dLtT (eC c) (eC d) = .ok (.bool (decide (clt c d))) := by
  show Res.ok (PyData.bool (HT.lexLt [c.1, c.2] [d.1, d.2])) = _
  congr 2
  show (if c.1 = d.1 then (if c.2 = d.2 then false else decide (c.2 < d.2)) else decide (c.1 < d.1)) = _
  unfold clt
  by_cases h1 : c.1 = d.1
  · rw [if_pos h1]
    by_cases h2 : c.2 = d.2
    · rw [if_pos h2, eq_comm, decide_eq_false_iff_not]; omega
    · rw [if_neg h2, decide_eq_decide]; omega
  · rw [if_neg h1, decide_eq_decide]; omega
theorem chain_pw : ∀ (p : List Cell), (∀ k c d, p[k]? = some c → p[k + 1]? = some d → clt c d) → p.Pairwise clt
  | [], _ => .nil
  | [c], _ => List.pairwise_singleton _ _
  | a :: b :: r, h => by
    have ih := chain_pw (b :: r) fun k c d h1 h2 => h (k + 1) c d h1 h2
    have hab := h 0 a b rfl rfl
    refine List.pairwise_cons.mpr ⟨fun x hx => ?_, ih⟩
    rcases List.mem_cons.mp hx with e | e
    · rw [e]; exact hab
    · exact clt_tr hab ((List.pairwise_cons.mp ih).1 x e)
/-- what an item of a choice may be -/
def ItemOk (K : List Cell) (f : PyData → Bool) (d : PyData) : Prop := (∃ c, d = eC c ∧ f d = decide (c ∈ K)) ∨ (M_is_cell [d] = .ok (.bool false) ∧ f d = false)
theorem rising_fst {K : List Cell} {ds : List PyData} {f : PyData → Bool} {a b : Sl} (hne : ds ≠ []) (hs : shp (.tuple ds) = true) (hl : ds.length ≤ 100) (hf : ∀ d ∈ ds, ItemOk K f d) :
    (mOr (mNot (mB (mIsi "tuple" (mVar 1)))) (mOr (mB (m2 dEq (mVar 1) (mTup mNil))) (mNot (mB (mCB dAll (mCons (mLc [2] (iA (mVar 1)) (gN 2) mYes (mAndV (mCall M_is_cell (mCons (mVar 2) mNil)) (m2 dIn (mVar 2) (mVar 0)))) mNil)))))) [.val (eL K), .val (.tuple ds), a, b] = .ok (!ds.all f) := by
  refine t_orr (y := !ds.all f) (t_not (x := true) (t_b rfl)) (t_orr (y := !ds.all f) (t_b (m2_ok (x := .tuple ds) (y := .tuple []) rfl rfl ?_)) (t_not (t_b ?_)))
  · unfold dEq
    rw [if_pos ⟨hs, rfl⟩]
    cases ds with
    | nil => exact absurd rfl hne
    | cons d ds => rfl
  · have := all_ok (enc := id) (vs := [2]) (mi := iA (mVar 1)) (t := gN 2) (me := (mAndV (mCall M_is_cell (mCons (mVar 2) mNil)) (m2 dIn (mVar 2) (mVar 0)))) (ρ := [.val (eL K), .val (.tuple ds), a, b]) f ds (by rw [List.map_id]; exact iA_tuple rfl) (lim100 hl) (fun d hd => ⟨[.val (eL K), .val (.tuple ds), .val d, b], rfl, by
      have hb : [Sl.val (eL K), .val (.tuple ds), .val d, b] = [.val (eL K), .val (.tuple ds), .val d, b] := rfl
      rcases hf d hd with ⟨c, rfl, e⟩ | ⟨h1, e⟩
      · rw [e]
        exact v_andt ((call_ok (ds := [eC c]) rfl).trans (is_cell_ok c)) (m2_ok (x := eC c) (y := eL K) rfl rfl (cIn c K))
      · rw [e]
        exact v_andf ((call_ok (ds := [d]) rfl).trans h1)⟩)
    exact this
theorem rising_bad {K : List Cell} {ds : List PyData} {f : PyData → Bool} (hne : ds ≠ []) (hs : shp (.tuple ds) = true) (hl : ds.length ≤ 100) (hf : ∀ d ∈ ds, ItemOk K f d) (hb : ds.all f = false) : M_is_rising [eL K, .tuple ds] = .ok (.bool false) := by
  refine fun_rt (seq_rt ((if_t ?_).trans rfl))
  refine (rising_fst hne hs hl hf).trans ?_
  rw [hb]; rfl
theorem rising_nt {K : List Cell} {d : PyData} (h : isT "tuple" d = false) : M_is_rising [eL K, d] = .ok (.bool false) := by
  refine fun_rt (seq_rt ((if_t (t_orl ((t_not (x := false) (t_b ?_))))).trans rfl))
  show Res.ok (PyData.bool (isT "tuple" d)) = _
  rw [h]
theorem rising_nil {K : List Cell} : M_is_rising [eL K, .tuple []] = .ok (.bool false) := by
  refine fun_rt (seq_rt ((if_t (t_orr (y := true) (t_not (x := true) (t_b rfl)) (t_orl (t_b rfl)))).trans rfl))
instance (p : List Cell) : Decidable (p.Pairwise clt) := inferInstance
theorem rising_ok {K p : List Cell} (hK : ∀ c ∈ p, c ∈ K) (hne : p ≠ []) (hl : p.length ≤ 100) : M_is_rising [eL K, eP p] = .ok (.bool (decide (p.Pairwise clt))) := by
  have h1 := rising_fst (K := K) (ds := p.map eC) (f := fun _ => true) (a := .un) (b := .un) (by simpa using hne) (encP.shp (by decide) p) (by rw [List.length_map]; exact hl) (fun d hd => by
    obtain ⟨c, hc, rfl⟩ := List.mem_map.mp hd
    exact .inl ⟨c, rfl, (decide_eq_true (hK c hc)).symm⟩)
  have h2 : (!(p.map eC).all fun _ => true) = false := by simp
  rw [h2] at h1
  refine fun_rt ((seq_nx (ρ' := [.val (eL K), .val (eP p), .un, .un]) ((if_f h1).trans rfl)).trans (ret_ok ?_))
  have hlen : (mCB dLen (mCons (mVar 1) mNil)) [.val (eL K), .val (eP p), .un, .un] = .ok (.int (p.length : Int)) := len_piece rfl
  have hpos : 1 ≤ p.length := List.length_pos_iff.mpr hne
  have hr : iR1 (mCons (m2 dSub (mCB dLen (mCons (mVar 1) mNil)) (mC (.int 1))) mNil) [.val (eL K), .val (eP p), .un, .un] = .ok ((List.range (p.length - 1)).map eN) := by
    refine iR1_ok (ds := [.int ((p.length - 1 : Nat) : Int)]) (cons_ok (m2_ok hlen rfl ?_) rfl) (rng1_nat (lim100 (by omega)))
    show Res.ok (PyData.int ((p.length : Int) - 1)) = _
    congr 2
    omega
  have hall := all_ok (enc := eN) (vs := [3]) (mi := iR1 (mCons (m2 dSub (mCB dLen (mCons (mVar 1) mNil)) (mC (.int 1))) mNil)) (t := gN 3) (me := (m2 dLtT (m2 dIx (mVar 1) (mVar 3)) (m2 dIx (mVar 1) (m2 dAdd (mVar 3) (mC (.int 1)))))) (ρ := [.val (eL K), .val (eP p), .un, .un])
    (fun k => decide (clt (p.getD k (0, 0)) (p.getD (k + 1) (0, 0)))) (List.range (p.length - 1)) hr (by rw [List.length_range]; exact lim100 (by omega)) (fun k hk => by
      have hk := List.mem_range.mp hk
      have g : ∀ j, j < p.length → dIx (eP p) (.int (j : Int)) = .ok (eC (p.getD j (0, 0))) := fun j hj => dIx_natT (by rw [List.getElem?_map, List.getElem?_eq_getElem hj, List.getD_eq_getElem?_getD, List.getElem?_eq_getElem hj]; rfl)
      exact ⟨[.val (eL K), .val (eP p), .un, .val (.int (k : Int))], rfl, m2_ok (m2_ok rfl rfl (g k (by omega))) (m2_ok (x := eP p) (y := .int ((k + 1 : Nat) : Int)) rfl rfl (g (k + 1) (by omega))) (dLtT_cell _ _)⟩)
  refine hall.trans ?_
  congr 2
  rw [Bool.eq_iff_iff, List.all_eq_true, decide_eq_true_eq]
  constructor
  · intro h
    refine chain_pw p fun k c d e1 e2 => ?_
    have hk := (List.getElem?_eq_some_iff.mp e2).1
    have := of_decide_eq_true (h k (List.mem_range.mpr (by omega)))
    rw [List.getD_eq_getElem?_getD, List.getD_eq_getElem?_getD, e1, e2] at this
    exact this
  · intro h k hk
    have hk := List.mem_range.mp hk
    refine decide_eq_true ?_
    rw [List.getD_eq_getElem?_getD, List.getD_eq_getElem?_getD, List.getElem?_eq_getElem (by omega), List.getElem?_eq_getElem (show k + 1 < p.length by omega)]
    exact List.pairwise_iff_getElem.mp h k (k + 1) (by omega) (by omega) (by omega)
theorem is_one_ok {s : Sheet} (v : Valid s) {p : List Cell} (hK : ∀ c ∈ p, c ∈ cellsOf s) (hne : p ≠ []) (hl : p.length ≤ 100) : M_is_one [eS s, eP p] = .ok (.bool (decide (p.Pairwise clt) && connB p)) := by
  refine fun_rt (ret_ok ?_)
  have h1 : (mCall M_is_rising (mCons (mCall M_cells_of (mCons (mVar 0) mNil)) (mCons (mVar 1) mNil))) [.val (eS s), .val (eP p)] = .ok (.bool (decide (p.Pairwise clt))) := (call_ok (ds := [eL (cellsOf s), eP p]) (cons_ok ((call_ok (ds := [eS s]) rfl).trans (cells_ok v.fit)) (cons_ok rfl rfl))).trans (rising_ok hK hne hl)
  by_cases h : p.Pairwise clt
  · rw [decide_eq_true h] at h1 ⊢
    have hk := v.kok.len
    have := (up_nodup h).length_le_of_subset hK
    exact v_andt h1 ((call_ok (ds := [eP p]) rfl).trans (hang_ok (up_nodup h) hne (by omega)))
  · rw [decide_eq_false h] at h1 ⊢
    exact v_andf h1
theorem is_one_bad {s : Sheet} (v : Valid s) {d : PyData} (h : M_is_rising [eL (cellsOf s), d] = .ok (.bool false)) : M_is_one [eS s, d] = .ok (.bool false) := by
  refine fun_rt (ret_ok (v_andf ((call_ok (ds := [eL (cellsOf s), d]) (cons_ok ((call_ok (ds := [eS s]) rfl).trans (cells_ok v.fit)) (cons_ok rfl rfl))).trans h)))
theorem is_piece_of {s : Sheet} (v : Valid s) {d : PyData} {b : Bool} (h : M_is_one [eS s, d] = .ok (.bool b)) : M_is_piece [eS s, d] = .ok (.bool b) := by
  refine fun_rt ((seq_nx (ρ' := [.val (eS s), .val d]) (expr_ok ((call_ok (ds := [eS s]) rfl).trans (checked_ok v)))).trans (ret_ok ((call_ok (ds := [eS s, d]) rfl).trans h)))
theorem worth_bad {s : Sheet} (v : Valid s) {d : PyData} (h : M_is_one [eS s, d] = .ok (.bool false)) : M_worth [eS s, d] = .exc .piece := by
  refine fun_exc (ρ' := [.val (eS s), .val d]) ((seq_nx (ρ' := [.val (eS s), .val d]) (expr_ok ((call_ok (ds := [eS s]) rfl).trans (checked_ok v)))).trans (seq_exc ((if_t (t_not (x := false) (t_b ((call_ok (ds := [eS s, d]) rfl).trans h)))).trans rfl)))
theorem worth_good {s : Sheet} (v : Valid s) {p : List Cell} (hK : ∀ c ∈ p, c ∈ cellsOf s) (hl : p.length ≤ 100) (h : M_is_one [eS s, eP p] = .ok (.bool true)) : M_worth [eS s, eP p] = .ok (.int (worth s p)) := by
  refine fun_rt ((seq_nx (ρ' := [.val (eS s), .val (eP p)]) (expr_ok ((call_ok (ds := [eS s]) rfl).trans (checked_ok v)))).trans ((seq_nx (ρ' := [.val (eS s), .val (eP p)]) ((if_f (t_not (x := true) (t_b ((call_ok (ds := [eS s, eP p]) rfl).trans h)))).trans rfl)).trans (ret_ok ((call_ok (ds := [eS s, eP p]) rfl).trans (sum_of_ok hK hl)))))
end Stm
set_option Elab.async false
set_option linter.all false
set_option maxRecDepth 100000
set_option maxHeartbeats 4000000
namespace Stm
open PySem PySem.Spec PyProof.Rows L2
/-! ### pairs within a piece -/
def inn (p : List Cell) : Nat := (p.map fun a => (p.filter fun b => decide (clt a b) && decide (a ∈ arnd b)).length).sum
def inn2 (p : List Cell) : Nat := (p.map fun a => ((arnd a).filter fun b => decide (b ∈ p)).length).sum
theorem arnd_nd (c : Cell) : (arnd c).Nodup := by
  obtain ⟨a, b⟩ := c
  simp [arnd]
  omega
theorem arnd_self (c : Cell) : c ∉ arnd c := by
  rw [arnd_iff]; omega
theorem clt_tot {a b : Cell} (h : a ≠ b) : clt a b ∨ clt b a := by
  obtain ⟨a1, a2⟩ := a
  obtain ⟨b1, b2⟩ := b
  have : ¬ (a1 = b1 ∧ a2 = b2) := fun e => h (by rw [e.1, e.2])
  simp only [clt]
  omega
theorem inter_len {p q : List Cell} (hp : p.Nodup) (hq : q.Nodup) : (p.filter fun b => decide (b ∈ q)).length = (q.filter fun b => decide (b ∈ p)).length := by
  refine List.Perm.length_eq ((List.perm_ext_iff_of_nodup (hp.sublist List.filter_sublist) (hq.sublist List.filter_sublist)).mpr fun c => ?_)
  rw [List.mem_filter, List.mem_filter, decide_eq_true_eq, decide_eq_true_eq]
  exact ⟨fun h => ⟨h.2, h.1⟩, fun h => ⟨h.2, h.1⟩⟩
/-- the count of pairs of a relation -/
def cnt2 (r : Cell → Cell → Bool) (p q : List Cell) : Nat := (p.map fun a => (q.filter (r a)).length).sum
theorem cnt2_nil (r : Cell → Cell → Bool) : ∀ p, cnt2 r p [] = 0
  | [] => rfl
  | a :: p => by
    have := cnt2_nil r p
    unfold cnt2 at *
    rw [List.map_cons, List.sum_cons, this]; rfl
theorem cnt2_cons (r : Cell → Cell → Bool) (b : Cell) (q : List Cell) : ∀ p, cnt2 r p (b :: q) = (p.filter fun a => r a b).length + cnt2 r p q
  | [] => rfl
  | a :: p => by
    have ih := cnt2_cons r b q p
    unfold cnt2 at *
    rw [List.map_cons, List.sum_cons, List.map_cons, List.sum_cons, ih]
    by_cases h : r a b = true
    · rw [List.filter_cons_of_pos h, List.filter_cons_of_pos (by exact h), List.length_cons, List.length_cons]; omega
    · rw [List.filter_cons_of_neg h, List.filter_cons_of_neg (by exact h)]; omega
theorem cnt2_swap (r : Cell → Cell → Bool) : ∀ q p, cnt2 r p q = cnt2 (fun a b => r b a) q p
  | [], p => by rw [cnt2_nil]; rfl
  | b :: q, p => by
    rw [cnt2_cons, cnt2_swap r q p]
    unfold cnt2
    rw [List.map_cons, List.sum_cons]
theorem cnt2_congr {r r' : Cell → Cell → Bool} {p q : List Cell} (h : ∀ a ∈ p, ∀ b ∈ q, r a b = r' a b) : cnt2 r p q = cnt2 r' p q := by
  unfold cnt2
  congr 1
  refine List.map_congr_left fun a ha => ?_
  congr 1
  exact List.filter_congr fun b hb => h a ha b hb
theorem cnt2_or {r r' : Cell → Cell → Bool} {q : List Cell} (h : ∀ a b, r a b = true → r' a b = true → False) : ∀ p, cnt2 (fun a b => r a b || r' a b) p q = cnt2 r p q + cnt2 r' p q
  | [] => rfl
  | a :: p => by
    have ih := cnt2_or h (q := q) p
    unfold cnt2 at *
    rw [List.map_cons, List.sum_cons, List.map_cons, List.sum_cons, List.map_cons, List.sum_cons, ih]
    have : ∀ q : List Cell, (q.filter fun b => r a b || r' a b).length = (q.filter (r a)).length + (q.filter (r' a)).length := by
      intro q
      induction q with
      | nil => rfl
      | cons b q ihq =>
        cases h1 : r a b with
        | true =>
          have h2 : r' a b = false := by
            cases h2 : r' a b with
            | false => rfl
            | true => exact (h a b h1 h2).elim
          rw [List.filter_cons_of_pos (by simp [h1]), List.filter_cons_of_pos h1, List.filter_cons_of_neg (by simp [h2]), List.length_cons, List.length_cons, ihq]; omega
        | false =>
          cases h2 : r' a b with
          | true => rw [List.filter_cons_of_pos (by simp [h2]), List.filter_cons_of_neg (by simp [h1]), List.filter_cons_of_pos h2, List.length_cons, List.length_cons, ihq]; omega
          | false => rw [List.filter_cons_of_neg (by simp [h1, h2]), List.filter_cons_of_neg (by simp [h1]), List.filter_cons_of_neg (by simp [h2]), ihq]
    rw [this]; omega
theorem inn2_eq {p : List Cell} (hp : p.Nodup) : inn2 p = 2 * inn p := by
  have h1 : inn2 p = cnt2 (fun a b => decide (b ∈ arnd a)) p p := by
    unfold inn2 cnt2
    congr 1
    refine List.map_congr_left fun a _ => ?_
    exact inter_len (arnd_nd a) hp
  have h2 : inn p = cnt2 (fun a b => decide (clt a b) && decide (a ∈ arnd b)) p p := rfl
  have h3 : cnt2 (fun a b => decide (b ∈ arnd a)) p p = cnt2 (fun a b => (decide (clt a b) && decide (a ∈ arnd b)) || (decide (clt b a) && decide (b ∈ arnd a))) p p := cnt2_congr fun a _ b _ => by
    rw [Bool.eq_iff_iff]
    simp only [decide_eq_true_eq, Bool.or_eq_true, Bool.and_eq_true]
    constructor
    · intro h
      have hne : a ≠ b := fun e => by subst e; exact arnd_self a h
      rcases clt_tot hne with h4 | h4
      · exact .inl ⟨h4, arnd_symm h⟩
      · exact .inr ⟨h4, h⟩
    · rintro (⟨_, h⟩ | ⟨_, h⟩)
      · exact arnd_symm h
      · exact h
  have h4 : ∀ a b, (decide (clt a b) && decide (a ∈ arnd b)) = true → (decide (clt b a) && decide (b ∈ arnd a)) = true → False := fun a b h5 h6 => by
    simp only [decide_eq_true_eq, Bool.and_eq_true] at h5 h6
    exact clt_irr a (clt_tr h5.1 h6.1)
  rw [h1, h3, cnt2_or h4, h2, cnt2_swap (fun a b => decide (clt b a) && decide (b ∈ arnd a))]
  omega

/-! ### growing from a chosen cell -/
theorem reroot {q : List Cell} (hq : q.Nodup) (hc : Conn q) {c : Cell} (hcq : c ∈ q) : ∃ l, Grow l ∧ l.Perm q ∧ l.head? = some c := by
  obtain ⟨g, hg, hgq⟩ := hc
  have go : ∀ n R, Grow R → R.head? = some c → (∀ d ∈ R, d ∈ q) → q.length - R.length ≤ n → ∃ l, Grow l ∧ l.Perm q ∧ l.head? = some c := by
    intro n
    induction n with
    | zero =>
      intro R hR hh hs hn
      refine ⟨R, hR, ?_, hh⟩
      have hl := hR.nodup.length_le_of_subset hs
      refine (List.perm_ext_iff_of_nodup hR.nodup hq).mpr fun d => ⟨hs d, fun hd => ?_⟩
      refine Classical.byContradiction fun hdR => ?_
      have h3 : (d :: R).Nodup := List.nodup_cons.mpr ⟨hdR, hR.nodup⟩
      have h4 := h3.length_le_of_subset (l₂ := q) fun e he => by
        rcases List.mem_cons.mp he with h | h
        · rw [h]; exact hd
        · exact hs e h
      rw [List.length_cons] at h4
      omega
    | succ n ih =>
      intro R hR hh hs hn
      by_cases hcl : ∀ a ∈ R, ∀ b ∈ q, b ∈ arnd a → b ∈ R
      · have h5 := hg.clo (S := fun d => d ∈ R) (by
          have : c ∈ R := List.mem_of_head? hh
          exact ⟨c, hgq.mem_iff.mpr hcq, this⟩) fun a _ b hb hs2 hab => hcl a hs2 b (hgq.mem_iff.mp hb) hab
        exact ⟨R, hR, (List.perm_ext_iff_of_nodup hR.nodup hq).mpr fun d => ⟨hs d, fun hd => h5 d (hgq.mem_iff.mpr hd)⟩, hh⟩
      · obtain ⟨a, ha⟩ := Classical.not_forall.mp hcl
        obtain ⟨haR, hb⟩ := Classical.not_imp.mp ha
        obtain ⟨b, hb⟩ := Classical.not_forall.mp hb
        obtain ⟨hbq, hb⟩ := Classical.not_imp.mp hb
        obtain ⟨hba, hbR⟩ := Classical.not_imp.mp hb
        have hlt : R.length + 1 ≤ q.length := by
          have h3 : (b :: R).Nodup := List.nodup_cons.mpr ⟨hbR, hR.nodup⟩
          exact h3.length_le_of_subset (l₂ := q) fun e he => by
            rcases List.mem_cons.mp he with h | h
            · rw [h]; exact hbq
            · exact hs e h
        refine ih (R ++ [b]) (.ext hR haR hba hbR) ?_ (fun d hd => ?_) ?_
        · rw [List.head?_append, hh]; rfl
        · rcases List.mem_append.mp hd with h | h
          · exact hs d h
          · rw [List.mem_singleton.mp h]; exact hbq
        · rw [List.length_append, List.length_singleton]; omega
  exact go q.length [c] (.one c) rfl (fun d hd => by rw [List.mem_singleton.mp hd]; exact hcq) (by omega)
/-- a piece with a chosen cell is a smaller one with it and one cell more -/
theorem shrink {q : List Cell} (hq : q.Pairwise clt) (hc : Conn q) {c : Cell} (hcq : c ∈ q) (hl : 2 ≤ q.length) : ∃ p d a, p.Pairwise clt ∧ Conn p ∧ c ∈ p ∧ (∀ e ∈ p, e ∈ q) ∧ d ∈ q ∧ d ∉ p ∧ a ∈ p ∧ d ∈ arnd a ∧ q = csort (p ++ [d]) ∧ (p ++ [d]).Perm q := by
  obtain ⟨l, hg, hp, hh⟩ := reroot (up_nodup hq) hc hcq
  have hlen := hp.length_eq
  cases hg with
  | one e => simp at hlen; omega
  | @ext l' d a hl' ha hd hn =>
    have hn' := hl'.nodup
    have hq1 := csort_perm l'
    have hc' : c ∈ l' := by
      have hne := hl'.ne
      obtain ⟨x, r, e⟩ := List.exists_cons_of_ne_nil hne
      rw [e] at hh ⊢
      simp at hh
      rw [hh]; simp
    refine ⟨csort l', d, a, csort_up hn', ⟨l', hl', hq1.symm⟩, hq1.mem_iff.mpr hc', fun e he => hp.mem_iff.mp (List.mem_append_left _ (hq1.mem_iff.mp he)), hp.mem_iff.mp (by simp), fun h => hn (hq1.mem_iff.mp h), hq1.mem_iff.mpr ha, hd, ?_, (hq1.append_right _).trans hp⟩
    refine up_uniq hq (csort_up ?_) ((hp.symm.trans (hq1.symm.append_right _)).trans (csort_perm _).symm)
    exact ((hq1.append_right [d]).trans hp).nodup_iff.mpr (up_nodup hq)

theorem perm_sum {a b : List Int} (h : a.Perm b) : a.sum = b.sum := by
  induction h with
  | nil => rfl
  | cons x _ ih => rw [List.sum_cons, List.sum_cons, ih]
  | swap x y l => simp only [List.sum_cons]; omega
  | trans _ _ h1 h2 => rw [h1, h2]
/-! ### plans -/
def rest (free p : List Cell) : List Cell := free.filter fun c => !decide (c ∈ p)
def tot (pl : List (List Cell)) : Int := (pl.map fun p => (inn p : Int)).sum
structure PlanOf (s : Sheet) (free : List Cell) (ws : List Int) (pl : List (List Cell)) : Prop where
  perm : pl.flatten.Perm free
  pc : ∀ p ∈ pl, p.Pairwise clt ∧ Conn p
  wts : (pl.map (worth s)).Perm ws
/-- what the first free cell may be torn out with -/
structure Cand (s : Sheet) (free : List Cell) (ws : List Int) (p : List Cell) : Prop where
  pc : Pc free p
  cn : Conn p
  hd : ∀ c, free.head? = some c → c ∈ p
  wt : worth s p ∈ ws
theorem plan_nil (s : Sheet) : PlanOf s [] [] [] := ⟨List.Perm.refl _, (fun _ h => nomatch h), List.Perm.refl _⟩
theorem plan_of_nil {s : Sheet} {ws : List Int} {pl : List (List Cell)} (h : PlanOf s [] ws pl) : pl = [] ∧ ws = [] := by
  have e := h.perm.eq_nil
  have hp : pl = [] := by
    cases pl with
    | nil => rfl
    | cons p pl =>
      have := (h.pc p (by simp)).2.ne
      rw [List.flatten_cons, List.append_eq_nil_iff] at e
      exact absurd e.1 this
  subst hp
  exact ⟨rfl, h.wts.symm.eq_nil⟩
theorem plan_len {s : Sheet} {free : List Cell} {ws : List Int} {pl : List (List Cell)} (h : PlanOf s free ws pl) : ws.length ≤ free.length := by
  have h1 := h.wts.length_eq
  have h2 := h.perm.length_eq
  rw [List.length_map] at h1
  have h3 : ∀ pl : List (List Cell), (∀ p ∈ pl, p ≠ []) → pl.length ≤ pl.flatten.length := by
    intro pl
    induction pl with
    | nil => intro _; simp
    | cons p pl ih =>
      intro hp
      have := ih fun q hq => hp q (List.mem_cons_of_mem _ hq)
      have h4 := List.length_pos_iff.mpr (hp p (by simp))
      rw [List.length_cons, List.flatten_cons, List.length_append]; omega
  have := h3 pl fun p hp => (h.pc p hp).2.ne
  omega
theorem rest_up {free p : List Cell} (h : free.Pairwise clt) : (rest free p).Pairwise clt := h.sublist List.filter_sublist
theorem rest_mem {free p : List Cell} {c : Cell} : c ∈ rest free p ↔ c ∈ free ∧ c ∉ p := by
  unfold rest
  rw [List.mem_filter]
  simp
theorem rest_perm {free p : List Cell} (hf : free.Nodup) (hp : p.Nodup) (hs : ∀ c ∈ p, c ∈ free) : (p ++ rest free p).Perm free := by
  refine (List.perm_ext_iff_of_nodup (List.nodup_append.mpr ⟨hp, hf.sublist List.filter_sublist, fun a ha b hb e => (rest_mem.mp hb).2 (e ▸ ha)⟩) hf).mpr fun c => ?_
  rw [List.mem_append]
  show c ∈ p ∨ c ∈ rest free p ↔ _
  rw [rest_mem]
  constructor
  · rintro (h | h)
    · exact hs c h
    · exact h.1
  · intro h
    by_cases hc : c ∈ p
    · exact .inl hc
    · exact .inr ⟨h, hc⟩
theorem rest_lt {free p : List Cell} (hf : free.Nodup) (hp : p.Nodup) (hs : ∀ c ∈ p, c ∈ free) (hne : p ≠ []) : (rest free p).length < free.length := by
  have := (rest_perm hf hp hs).length_eq
  have h2 := List.length_pos_iff.mpr hne
  rw [List.length_append] at this
  omega
theorem plan_cons {s : Sheet} {free : List Cell} {ws : List Int} {p : List Cell} {pl : List (List Cell)} (hf : free.Pairwise clt) (h : Cand s free ws p) (g : PlanOf s (rest free p) (ws.erase (worth s p)) pl) : PlanOf s free ws (p :: pl) ∧ tot (p :: pl) = tot pl + inn p := by
  refine ⟨⟨?_, fun q hq => ?_, ?_⟩, ?_⟩
  · rw [List.flatten_cons]
    exact (g.perm.append_left p).trans (rest_perm (up_nodup hf) (up_nodup h.pc.up) h.pc.sub)
  · rcases List.mem_cons.mp hq with e | e
    · rw [e]; exact ⟨h.pc.up, h.cn⟩
    · exact g.pc q e
  · rw [List.map_cons]
    exact (g.wts.cons _).trans (List.perm_cons_erase h.wt).symm
  · unfold tot
    rw [List.map_cons, List.sum_cons]; omega
theorem plan_uncons {s : Sheet} {free : List Cell} {ws : List Int} {pl : List (List Cell)} (hf : free.Pairwise clt) (hne : free ≠ []) (h : PlanOf s free ws pl) : ∃ p pl', Cand s free ws p ∧ PlanOf s (rest free p) (ws.erase (worth s p)) pl' ∧ tot pl = tot pl' + inn p ∧ pl.Perm (p :: pl') := by
  obtain ⟨c, f', e⟩ := List.exists_cons_of_ne_nil hne
  have hc : c ∈ pl.flatten := h.perm.mem_iff.mpr (by rw [e]; simp)
  obtain ⟨p, hp, hcp⟩ := List.mem_flatten.mp hc
  have hperm := List.perm_cons_erase hp
  have hfl : (p ++ (pl.erase p).flatten).Perm free := by
    have := hperm.flatten
    rw [List.flatten_cons] at this
    exact this.symm.trans h.perm
  have hnd : (p ++ (pl.erase p).flatten).Nodup := hfl.nodup_iff.mpr (up_nodup hf)
  have hsub : ∀ d ∈ p, d ∈ free := fun d hd => hfl.mem_iff.mp (List.mem_append_left _ hd)
  have hw : worth s p ∈ ws := h.wts.mem_iff.mp (List.mem_map_of_mem hp)
  refine ⟨p, pl.erase p, ⟨⟨(h.pc p hp).1, hsub⟩, (h.pc p hp).2, fun d hd => ?_, hw⟩, ⟨?_, fun q hq => h.pc q (List.mem_of_mem_erase hq), ?_⟩, ?_, hperm⟩
  · rw [e] at hd
    simp at hd
    rw [← hd]; exact hcp
  · have h1 := (rest_perm (up_nodup hf) (up_nodup (h.pc p hp).1) hsub)
    exact (List.perm_append_left_iff p).mp (hfl.trans h1.symm)
  · have h1 := hperm.map (worth s)
    rw [List.map_cons] at h1
    exact (List.perm_cons _).mp ((h1.symm.trans h.wts).trans (List.perm_cons_erase hw))
  · unfold tot
    have h1 := perm_sum (hperm.map fun p => (inn p : Int))
    rw [h1, List.map_cons, List.sum_cons]; omega
/-- the greatest count of pairs over all plans -/
def IsBest (s : Sheet) (free : List Cell) (ws : List Int) : Option Int → Prop
  | none => ∀ pl, ¬ PlanOf s free ws pl
  | some m => (∃ pl, PlanOf s free ws pl ∧ tot pl = m) ∧ ∀ pl, PlanOf s free ws pl → tot pl ≤ m
theorem isBest_uniq {s : Sheet} {free : List Cell} {ws : List Int} {a b : Option Int} (h : IsBest s free ws a) (g : IsBest s free ws b) : a = b := by
  cases a with
  | none =>
    cases b with
    | none => rfl
    | some m => obtain ⟨⟨pl, h1, _⟩, _⟩ := g; exact absurd h1 (h pl)
  | some n =>
    cases b with
    | none => obtain ⟨⟨pl, h1, _⟩, _⟩ := h; exact absurd h1 (g pl)
    | some m =>
      obtain ⟨⟨pl, h1, e1⟩, h2⟩ := h
      obtain ⟨⟨pl', g1, e2⟩, g2⟩ := g
      have := h2 pl' g1
      have := g2 pl h1
      congr 1
      omega
theorem isBest_perm {s : Sheet} {free : List Cell} {ws ws' : List Int} (h : ws.Perm ws') : ∀ {o : Option Int}, IsBest s free ws o → IsBest s free ws' o
  | none, g => fun pl hp => g pl ⟨hp.perm, hp.pc, hp.wts.trans h.symm⟩
  | some m, ⟨⟨pl, hp, e⟩, g⟩ => ⟨⟨pl, ⟨hp.perm, hp.pc, hp.wts.trans h⟩, e⟩, fun pl hp => g pl ⟨hp.perm, hp.pc, hp.wts.trans h.symm⟩⟩
theorem isBest_nil (s : Sheet) (ws : List Int) : IsBest s [] ws (if ws = [] then some 0 else none) := by
  by_cases h : ws = []
  · rw [if_pos h]
    subst h
    refine ⟨⟨[], plan_nil s, rfl⟩, fun pl hp => ?_⟩
    rw [(plan_of_nil hp).1]; exact Int.le_refl _
  · rw [if_neg h]
    exact fun pl hp => h (plan_of_nil hp).2
theorem isBest_none {s : Sheet} {free : List Cell} (hne : free ≠ []) : IsBest s free [] none := fun pl hp => by
  have h1 := hp.wts.eq_nil
  have h2 : pl = [] := List.map_eq_nil_iff.mp h1
  have h3 := hp.perm
  rw [h2] at h3
  exact hne h3.symm.eq_nil
/-- the best of the plans that begin with one of pre -/
def BestP (s : Sheet) (free : List Cell) (ws : List Int) (pre : List (List Cell)) : Option Int → Prop
  | none => ∀ p ∈ pre, ∀ pl, ¬ PlanOf s (rest free p) (ws.erase (worth s p)) pl
  | some m => (∃ p ∈ pre, ∃ pl, PlanOf s (rest free p) (ws.erase (worth s p)) pl ∧ tot pl + inn p = m) ∧ ∀ p ∈ pre, ∀ pl, PlanOf s (rest free p) (ws.erase (worth s p)) pl → tot pl + inn p ≤ m
def updB (o o' : Option Int) (i : Int) : Option Int := match o' with
  | none => o
  | some n => match o with
    | none => some (n + i)
    | some m => if n + i > m then some (n + i) else some m
theorem bestP_nil (s : Sheet) (free : List Cell) (ws : List Int) : BestP s free ws [] none := fun _ h => nomatch h
theorem bestP_step {s : Sheet} {free : List Cell} {ws : List Int} {pre : List (List Cell)} {p : List Cell} {o o' : Option Int} (h : BestP s free ws pre o) (g : IsBest s (rest free p) (ws.erase (worth s p)) o') : BestP s free ws (pre ++ [p]) (updB o o' (inn p)) := by
  cases o' with
  | none =>
    show BestP s free ws (pre ++ [p]) o
    cases o with
    | none =>
      intro q hq pl hp
      rcases List.mem_append.mp hq with h1 | h1
      · exact h q h1 pl hp
      · rw [List.mem_singleton.mp h1] at hp; exact g pl hp
    | some m =>
      obtain ⟨⟨q, hq, pl, hp, e⟩, h2⟩ := h
      refine ⟨⟨q, List.mem_append_left _ hq, pl, hp, e⟩, fun q hq pl hp => ?_⟩
      rcases List.mem_append.mp hq with h1 | h1
      · exact h2 q h1 pl hp
      · rw [List.mem_singleton.mp h1] at hp; exact absurd hp (g pl)
  | some n =>
    obtain ⟨⟨pl0, hp0, e0⟩, g2⟩ := g
    cases o with
    | none =>
      show BestP s free ws (pre ++ [p]) (some (n + inn p))
      refine ⟨⟨p, by simp, pl0, hp0, by omega⟩, fun q hq pl hp => ?_⟩
      rcases List.mem_append.mp hq with h1 | h1
      · exact absurd hp (h q h1 pl)
      · rw [List.mem_singleton.mp h1] at hp ⊢
        have := g2 pl hp
        omega
    | some m =>
      obtain ⟨⟨q, hq, pl, hp, e⟩, h2⟩ := h
      show BestP s free ws (pre ++ [p]) (if n + (inn p : Int) > m then some (n + inn p) else some m)
      by_cases hgt : n + (inn p : Int) > m
      · rw [if_pos hgt]
        refine ⟨⟨p, by simp, pl0, hp0, by omega⟩, fun q hq pl hp => ?_⟩
        rcases List.mem_append.mp hq with h1 | h1
        · have := h2 q h1 pl hp; omega
        · rw [List.mem_singleton.mp h1] at hp ⊢
          have := g2 pl hp
          omega
      · rw [if_neg hgt]
        refine ⟨⟨q, List.mem_append_left _ hq, pl, hp, e⟩, fun q hq pl hp => ?_⟩
        rcases List.mem_append.mp hq with h1 | h1
        · exact h2 q h1 pl hp
        · rw [List.mem_singleton.mp h1] at hp ⊢
          have := g2 pl hp
          omega
theorem bestP_all {s : Sheet} {free : List Cell} {ws : List Int} {P : List (List Cell)} (hf : free.Pairwise clt) (hne : free ≠ []) (hP : ∀ p, p ∈ P ↔ Cand s free ws p) : ∀ {o : Option Int}, BestP s free ws P o → IsBest s free ws o
  | none, h => fun pl hp => by
    obtain ⟨p, pl', hc, hp', _⟩ := plan_uncons hf hne hp
    exact h p ((hP p).mpr hc) pl' hp'
  | some m, ⟨⟨p, hp, pl, h1, e⟩, h2⟩ => by
    have hc := (hP p).mp hp
    have h3 := plan_cons hf hc h1
    refine ⟨⟨p :: pl, h3.1, by rw [h3.2]; exact e⟩, fun pl hp => ?_⟩
    obtain ⟨p, pl', hc, hp', e', _⟩ := plan_uncons hf hne hp
    rw [e']
    exact h2 p ((hP p).mpr hc) pl' hp'
end Stm
set_option Elab.async false
set_option linter.all false
set_option maxRecDepth 100000
set_option maxHeartbeats 4000000
namespace Stm
open PySem PySem.Spec PyProof.Rows L2
theorem lst_ok {r : AM} {ρ : Rho} {xs : List PyData} (h : r ρ = .ok xs) (hl : xs.length ≤ LIM) : mLst r ρ = .ok (.list xs) := by
  unfold mLst; rw [h]
  show (if xs.length ≤ LIM then Res.ok (PyData.list xs) else .stuck) = _
  rw [if_pos hl]
theorem tup_ok {r : AM} {ρ : Rho} {xs : List PyData} (h : r ρ = .ok xs) (hl : xs.length ≤ LIM) : mTup r ρ = .ok (.tuple xs) := by
  unfold mTup; rw [h]
  show (if xs.length ≤ LIM then Res.ok (PyData.tuple xs) else .stuck) = _
  rw [if_pos hl]
/-! ### grown, the known cells in a tuple -/
abbrev grT (K : List Cell) (xs : List (List Cell)) (ks : List (List Cell)) (a b c : Sl) : Rho := [.val (eP K), .val (.list (xs.map eP)), .dT (ks.map nkP), a, b, c]
theorem grown_tup {K : List Cell} {xs : List (List Cell)} (hK : KOk K) (hx : ∀ p ∈ xs, Pc K p) : M_grown [eP K, .list (xs.map eP)] = .ok (.list ((psort (putAll [] (candP K xs))).map eP)) := by
  have hlim : ∀ ks qs : List (List Cell), ks.Nodup → (∀ p ∈ ks, Pc K p) → (∀ p ∈ qs, Pc K p) → (putAll ks qs).length < LIM := fun ks qs h1 h2 h3 => lim4096 (hK.lim (putAll_nodup qs ks h1) fun p hp => by
    rcases (putAll_mem qs ks p).mp hp with h | h
    · exact h2 p h
    · exact h3 p h)
  refine fun_rt ?_
  refine (seq_nx (ρ' := grT K xs (putAll [] (candP K [])) .un .un .un) rfl).trans ?_
  have key := for_pre (enc := eP) (t := gN 3) (mb := (sFor (iA (mVar 3)) (gN 4) (sFor (iA (mCall M_around (mCons (mVar 4) mNil))) (gN 5) (sIf (mAnd (mB (m2 dIn (mVar 5) (mVar 0))) (mB (m2 dNotIn (mVar 5) (mVar 3)))) (sPutT 2 (mCB dToTup (mCons (mCB dSorted (mCons (m2 dAdd (mVar 3) (mTup (mCons (mVar 5) mNil))) mNil)) mNil))) sNil))))
    (xs := xs) (J := Sl × Sl × Sl) (fun pre j => grT K xs (putAll [] (candP K pre)) j.1 j.2.1 j.2.2) (fun pre p post j e => by
      have hp : Pc K p := hx p (by rw [e]; simp)
      have hpre : ∀ q ∈ candP K pre, Pc K q := candP_pc fun q hq => hx q (by rw [e]; simp [hq])
      obtain ⟨j1, j2, j3⟩ := j
      have hks : (putAll [] (candP K pre)).Nodup := putAll_nodup _ _ List.nodup_nil
      have hkp : ∀ q ∈ putAll [] (candP K pre), Pc K q := fun q hq => by
        rcases (putAll_mem _ _ _).mp hq with h | h
        · cases h
        · exact hpre q h
      generalize hk1 : putAll [] (candP K pre) = ks at *
      have key2 := for_pre (enc := eC) (t := gN 4) (mb := (sFor (iA (mCall M_around (mCons (mVar 4) mNil))) (gN 5) (sIf (mAnd (mB (m2 dIn (mVar 5) (mVar 0))) (mB (m2 dNotIn (mVar 5) (mVar 3)))) (sPutT 2 (mCB dToTup (mCons (mCB dSorted (mCons (m2 dAdd (mVar 3) (mTup (mCons (mVar 5) mNil))) mNil)) mNil))) sNil)))
        (xs := p) (J := Sl × Sl) (fun pre j => grT K xs (putAll ks (candC K p pre)) (.val (eP p)) j.1 j.2) (fun pre2 c post2 j e2 => by
          obtain ⟨j1, j2⟩ := j
          have hks2 : (putAll ks (candC K p pre2)).Nodup := putAll_nodup _ _ hks
          have hkp2 : ∀ q ∈ putAll ks (candC K p pre2), Pc K q := fun q hq => by
            rcases (putAll_mem _ _ _).mp hq with h | h
            · exact hkp q h
            · exact candC_pc hp q h
          generalize hk2 : putAll ks (candC K p pre2) = ks2 at *
          have key3 := for_pre (enc := eC) (t := gN 5) (mb := (sIf (mAnd (mB (m2 dIn (mVar 5) (mVar 0))) (mB (m2 dNotIn (mVar 5) (mVar 3)))) (sPutT 2 (mCB dToTup (mCons (mCB dSorted (mCons (m2 dAdd (mVar 3) (mTup (mCons (mVar 5) mNil))) mNil)) mNil))) sNil))
            (xs := arnd c) (J := Sl) (fun pre j => grT K xs (putAll ks2 (candD K p pre)) (.val (eP p)) (.val (eC c)) j) (fun pre3 d post3 j e3 => by
              refine ⟨.val (eC d), ?_⟩
              have hlt := hlim ks2 (candD K p pre3) hks2 hkp2 (candD_pc hp)
              rw [candD_app, putAll_app]
              generalize putAll ks2 (candD K p pre3) = ks3 at *
              unfold turn1
              have ht : gN 5 (eC d) (grT K xs ks3 (.val (eP p)) (.val (eC c)) j) = some (grT K xs ks3 (.val (eP p)) (.val (eC c)) (.val (eC d))) := rfl
              rw [ht]
              simp only
              have hcond : (mAnd (mB (m2 dIn (mVar 5) (mVar 0))) (mB (m2 dNotIn (mVar 5) (mVar 3)))) (grT K xs ks3 (.val (eP p)) (.val (eC c)) (.val (eC d))) = .ok (decide (d ∈ K) && !decide (d ∈ p)) :=
                t_and (t_b (m2_ok rfl rfl (cInT d K))) (t_b (m2_ok rfl rfl (cNotInT d p)))
              cases hb : (decide (d ∈ K) && !decide (d ∈ p)) with
              | true =>
                rw [hb] at hcond
                refine (if_t hcond).trans ?_
                have hl12 := hp.len hK
                refine (putT_ok (ks := ks3) (q := csort (p ++ [d])) rfl ?_ hlt).trans ?_
                · refine (cb_ok (ds := [.list ((csort (p ++ [d])).map eC)]) (cons_ok ((cb_ok (ds := [.tuple ((p ++ [d]).map eC)]) (cons_ok (m2_ok (x := eP p) (y := .tuple [eC d]) rfl rfl ?_) rfl)).trans (cells_sort (p ++ [d]) ?_).2) rfl)).trans rfl
                  · unfold eP dAdd
                    simp only
                    rw [if_pos (by rw [List.length_map]; exact lim100 (show p.length + 1 ≤ 100 by omega)), List.map_append]; rfl
                  · rw [List.length_append]; exact lim100 (show p.length + 1 ≤ 100 by omega)
                · unfold candD
                  rw [List.filter_cons_of_pos (by exact hb)]; rfl
              | false =>
                rw [hb] at hcond
                refine (if_f hcond).trans ?_
                unfold candD
                rw [List.filter_cons_of_neg (by rw [hb]; exact Bool.false_ne_true)]; rfl) j2
          obtain ⟨j', e'⟩ := key3
          refine ⟨(.val (eC c), j'), ?_⟩
          unfold turn1
          have ht : gN 4 (eC c) (grT K xs ks2 (.val (eP p)) j1 j2) = some (grT K xs ks2 (.val (eP p)) (.val (eC c)) j2) := rfl
          rw [ht]
          simp only
          refine (sFor_ok (iA_list (ds := (arnd c).map eC) ((call_ok (ds := [eC c]) rfl).trans (around_ok c)))).trans ?_
          refine (Eq.trans (congrArg _ ?_) e').trans ?_
          · rfl
          · show SRes.nx _ = SRes.nx _
            have : candC K p (pre2 ++ [c]) = candC K p pre2 ++ candD K p (arnd c) := by unfold candC; rw [List.flatMap_append]; simp
            rw [this, putAll_app, hk2]) (j2, j3)
      obtain ⟨⟨j2', j3'⟩, e'⟩ := key2
      refine ⟨(.val (eP p), j2', j3'), ?_⟩
      unfold turn1
      have ht : gN 3 (eP p) (grT K xs ks j1 j2 j3) = some (grT K xs ks (.val (eP p)) j2 j3) := rfl
      rw [ht]
      simp only
      refine (sFor_ok (iA_tuple (ds := p.map eC) rfl)).trans ?_
      refine (Eq.trans (congrArg _ ?_) e').trans ?_
      · rfl
      · show SRes.nx _ = SRes.nx _
        have : candP K (pre ++ [p]) = candP K pre ++ candC K p p := by unfold candP; rw [List.flatMap_append]; simp
        rw [this, putAll_app, hk1]) (.un, .un, .un)
  obtain ⟨⟨j1, j2, j3⟩, e⟩ := key
  refine (seq_nx (ρ' := grT K xs (putAll [] (candP K xs)) j1 j2 j3) ((sFor_ok (iA_list (ds := xs.map eP) rfl)).trans e)).trans ?_
  have hfin := hlim [] (candP K xs) List.nodup_nil (fun _ h => nomatch h) (candP_pc hx)
  refine ret_ok ((cb_ok (ds := [.list ((putAll [] (candP K xs)).map eP)]) (cons_ok ?_ rfl)).trans (pieces_sort _ (Nat.le_of_lt hfin) fun p hp => ?_))
  · show Res.ok (PyData.list (((putAll [] (candP K xs)).map nkP).map NestedKey.data)) = _
    rw [map_nk]
  · rcases (putAll_mem _ _ _).mp hp with h | h
    · cases h
    · obtain ⟨q, _, h2⟩ := List.mem_flatMap.mp h
      obtain ⟨c, _, h3⟩ := List.mem_flatMap.mp h2
      obtain ⟨d, _, rfl⟩ := List.mem_map.mp h3
      intro e0
      have := (csort_perm (q ++ [d])).length_eq
      rw [e0] at this
      simp at this
/-! ### pairs within a piece, by the program and by the law -/
theorem natsum (f : Cell → Nat) : ∀ p : List Cell, (p.map fun c => (f c : Int)).sum = (((p.map f).sum : Nat) : Int)
  | [] => rfl
  | c :: p => by
    rw [List.map_cons, List.sum_cons, List.map_cons, List.sum_cons, natsum f p]
    omega
theorem inner_ok {p : List Cell} {d : PyData} (hd : d = eP p ∨ d = eL p) (hp : p.Nodup) (hl : p.length ≤ 100) : M_inner [d] = .ok (.int (inn p : Int)) := by
  have hit : iA (mVar 0) [.val d, .un, .un] = .ok (p.map eC) := by
    rcases hd with rfl | rfl
    · exact iA_tuple rfl
    · exact iA_list rfl
  have hin : ∀ o : Cell, dIn (eC o) d = .ok (.bool (decide (o ∈ p))) := fun o => by
    rcases hd with rfl | rfl
    · exact cInT o p
    · exact cIn o p
  have hsum := sum_ok (enc := eC) (vs := [1]) (mi := iA (mVar 0)) (t := gN 1) (me := (mCB dLen (mCons (mLc [2] (iA (mCall M_around (mCons (mVar 1) mNil))) (gN 2) (mB (m2 dIn (mVar 2) (mVar 0))) (mVar 2)) mNil))) (ρ := [.val d, .un, .un])
    (fun c => (((arnd c).filter fun b => decide (b ∈ p)).length : Int)) p hit (lim100 hl) (fun c hc => ⟨[.val d, .val (eC c), .un], rfl, by
      have hlc := lc_map (enc := eC) (t := gN 2) (mt := (mB (m2 dIn (mVar 2) (mVar 0)))) (me := mVar 2) (ρ := [.val d, .val (eC c), .un]) (fun b => decide (b ∈ p)) eC (arnd c) (fun b _ => ⟨[.val d, .val (eC c), .val (eC b)], rfl, t_b (m2_ok rfl rfl (hin b)), fun _ => rfl⟩)
      exact len_list (enc := eC) (mLc_ok (iA_list (ds := (arnd c).map eC) ((call_ok (ds := [eC c]) rfl).trans (around_ok c))) (by show 4 ≤ LIM; decide) hlc)⟩)
  refine fun_rt (ret_ok (m2_ok hsum rfl ?_))
  rw [natsum (fun c => ((arnd c).filter fun b => decide (b ∈ p)).length)]
  refine (fdiv_pos (by decide) (by decide)).trans ?_
  have := inn2_eq hp
  unfold inn2 at this
  rw [this]
  congr 2
  omega
theorem law_inner_ok {p : List Cell} (hl : p.length ≤ 100) : M_law_inner [eP p] = .ok (.int (inn p : Int)) := by
  refine fun_rt ?_
  refine (seq_nx (ρ' := [.val (eP p), .val (.int 0), .un, .un]) rfl).trans ?_
  have key := for_pre (enc := eC) (t := gN 2) (mb := (sFor (iA (mVar 0)) (gN 3) (sSet 1 (m2 dAdd (mVar 1) (mCB dToIntA (mCons (mAndV (m2 dLtT (mVar 2) (mVar 3)) (mCall M_law_beside (mCons (mVar 2) (mCons (mVar 3) mNil)))) mNil)))))) (xs := p) (J := Sl × Sl)
    (fun pre j => [.val (eP p), .val (.int ((pre.map fun a => (p.filter fun b => decide (clt a b) && decide (a ∈ arnd b)).length).sum : Nat)), j.1, j.2]) (fun pre a post j e => by
      obtain ⟨j1, j2⟩ := j
      generalize hn : (pre.map fun a => (p.filter fun b => decide (clt a b) && decide (a ∈ arnd b)).length).sum = n
      have key2 := for_pre (enc := eC) (t := gN 3) (mb := (sSet 1 (m2 dAdd (mVar 1) (mCB dToIntA (mCons (mAndV (m2 dLtT (mVar 2) (mVar 3)) (mCall M_law_beside (mCons (mVar 2) (mCons (mVar 3) mNil)))) mNil))))) (xs := p) (J := Sl)
        (fun pre j => [.val (eP p), .val (.int ((n + (pre.filter fun b => decide (clt a b) && decide (a ∈ arnd b)).length : Nat) : Int)), .val (eC a), j]) (fun pre2 b post2 j e2 => by
          refine ⟨.val (eC b), ?_⟩
          unfold turn1
          have ht : gN 3 (eC b) [.val (eP p), .val (.int ((n + (pre2.filter fun b => decide (clt a b) && decide (a ∈ arnd b)).length : Nat) : Int)), .val (eC a), j] = some [.val (eP p), .val (.int ((n + (pre2.filter fun b => decide (clt a b) && decide (a ∈ arnd b)).length : Nat) : Int)), .val (eC a), .val (eC b)] := rfl
          rw [ht]
          simp only
          refine (set_ok (d := .int ((n + ((pre2 ++ [b]).filter fun b => decide (clt a b) && decide (a ∈ arnd b)).length : Nat) : Int)) (m2_ok (x := .int ((n + (pre2.filter fun b => decide (clt a b) && decide (a ∈ arnd b)).length : Nat) : Int)) (y := .int (if (decide (clt a b) && decide (a ∈ arnd b)) = true then 1 else 0)) rfl ((cb_ok (ds := [.bool (decide (clt a b) && decide (a ∈ arnd b))]) (cons_ok (v_and (m2_ok rfl rfl (dLtT_cell a b)) ((call_ok (ds := [eC a, eC b]) rfl).trans (beside_ok a b))) rfl)).trans rfl) ?_)).trans rfl
          show Res.ok (PyData.int _) = _
          congr 2
          rw [List.filter_append, List.length_append]
          cases h : (decide (clt a b) && decide (a ∈ arnd b)) with
          | true => rw [if_pos rfl, List.filter_cons_of_pos (by exact h)]; simp; omega
          | false => rw [if_neg Bool.false_ne_true, List.filter_cons_of_neg (by rw [h]; exact Bool.false_ne_true)]; simp) j2
      obtain ⟨j2', e'⟩ := key2
      refine ⟨(.val (eC a), j2'), ?_⟩
      unfold turn1
      have ht : gN 2 (eC a) [.val (eP p), .val (.int (n : Int)), j1, j2] = some [.val (eP p), .val (.int (n : Int)), .val (eC a), j2] := rfl
      rw [ht]
      simp only
      refine (sFor_ok (iA_tuple (ds := p.map eC) rfl)).trans (Eq.trans (congrArg _ ?_) (e'.trans ?_))
      · rfl
      · show SRes.nx _ = SRes.nx _
        rw [List.map_append, List.sum_append, hn]
        simp) (.un, .un)
  obtain ⟨⟨j1, j2⟩, e⟩ := key
  refine (seq_nx (ρ' := [.val (eP p), .val (.int (inn p : Int)), j1, j2]) ((sFor_ok (iA_tuple (ds := p.map eC) rfl)).trans e)).trans (ret_ok rfl)

/-! ### worths of pieces -/
theorem val_pos {s : Sheet} (v : Valid s) {c : Cell} (h : c ∈ cellsOf s) : 1 ≤ val s c ∧ val s c ≤ 9999 := by
  obtain ⟨i, j, rfl, hi, hj, w, hw⟩ := cell_in h
  have : val s ((i : Int), (j : Int)) = w := by
    unfold val
    simp only [Int.toNat_natCast]
    rw [hw]; rfl
  rw [this]
  refine v.worth _ (rowOf_mem hi) w ?_
  rw [List.getD_eq_getElem?_getD, List.getElem?_eq_getElem hj] at hw
  have hw2 : (rowOf s i)[j] = some w := hw
  rw [← hw2]
  exact List.getElem_mem hj
theorem worth_perm {s : Sheet} {p q : List Cell} (h : p.Perm q) : worth s p = worth s q := perm_sum (h.map _)
theorem worth_app (s : Sheet) (p q : List Cell) : worth s (p ++ q) = worth s p + worth s q := by
  unfold worth
  rw [List.map_append, List.sum_append_int]
theorem dMax_ok {ws : List Int} (h : ws ≠ []) : dMax [eI ws] = .ok (.int (maxL ws)) := by
  unfold dMax eI
  simp only [intsOf_map, if_neg h]

/-! ### the pieces with the first free cell -/
noncomputable def plv (s : Sheet) (free : List Cell) (c : Cell) (M : Int) : Nat → List (List Cell)
  | 0 => [[c]]
  | n + 1 => (psort (putAll [] (candP free (plv s free c M n)))).filter fun p => decide (worth s p ≤ M)
section
variable {s : Sheet} {free : List Cell} {c : Cell} {M : Int}
theorem plv_pc (hc : c ∈ free) : ∀ n, ∀ p ∈ plv s free c M n, Pc free p
  | 0 => fun p hp => by
    rw [List.mem_singleton.mp hp]
    exact ⟨List.pairwise_singleton _ _, fun d hd => by rw [List.mem_singleton.mp hd]; exact hc⟩
  | n + 1 => fun p hp => by
    have h := psort_mem.mp (List.mem_filter.mp hp).1
    rcases (putAll_mem _ _ _).mp h with h | h
    · cases h
    · exact candP_pc (plv_pc hc n) p h
theorem plv_nodup : ∀ n, (plv s free c M n).Nodup
  | 0 => by simp [plv]
  | n + 1 => (psort_nodup (putAll_nodup _ _ List.nodup_nil)).sublist List.filter_sublist
theorem plv_spec (v : Valid s) (hs : ∀ d ∈ free, d ∈ cellsOf s) (hc : c ∈ free) : ∀ n p, p ∈ plv s free c M n ↔ Pc free p ∧ p.length = n + 1 ∧ Conn p ∧ c ∈ p ∧ (n = 0 ∨ worth s p ≤ M)
  | 0, p => by
    constructor
    · intro h
      have hp := plv_pc hc 0 p h
      rw [List.mem_singleton.mp h] at hp ⊢
      exact ⟨hp, rfl, ⟨[c], .one c, List.Perm.refl _⟩, by simp, .inl rfl⟩
    · rintro ⟨h1, h2, _, h3, _⟩
      obtain ⟨d, rfl⟩ := List.length_eq_one_iff.mp h2
      rw [List.mem_singleton.mp h3]
      show _ ∈ [[d]]
      simp
  | n + 1, p => by
    constructor
    · intro h
      obtain ⟨h1, h2⟩ := List.mem_filter.mp h
      rcases (putAll_mem _ _ _).mp (psort_mem.mp h1) with h3 | h3
      · cases h3
      · obtain ⟨q, hq, h4⟩ := List.mem_flatMap.mp h3
        obtain ⟨a, ha, h5⟩ := List.mem_flatMap.mp h4
        obtain ⟨d, hd, rfl⟩ := List.mem_map.mp h5
        obtain ⟨hd1, hd2⟩ := List.mem_filter.mp hd
        simp only [Bool.and_eq_true, Bool.not_eq_true', decide_eq_true_eq, decide_eq_false_iff_not] at hd2
        obtain ⟨q1, q2, ⟨l, hl, hlq⟩, q4, _⟩ := (plv_spec v hs hc n q).mp hq
        have hperm := csort_perm (q ++ [d])
        exact ⟨plv_pc hc (n + 1) _ h, by rw [hperm.length_eq, List.length_append, List.length_singleton, q2],
          ⟨l ++ [d], .ext hl (hlq.mem_iff.mpr ha) hd1 (fun hh => hd2.2 (hlq.mem_iff.mp hh)), (hlq.append_right _).trans hperm.symm⟩, hperm.mem_iff.mpr (List.mem_append_left _ q4), .inr (of_decide_eq_true h2)⟩
    · rintro ⟨h1, h2, h3, h4, h5⟩
      have h5 := h5.resolve_left (by omega)
      obtain ⟨q, d, a, g1, g2, g3, g4, g5, g6, g7, g8, g9, g10⟩ := shrink h1.up h3 h4 (by omega)
      have hw : worth s p = worth s q + val s d := by
        rw [← worth_perm g10, worth_app]
        congr 1
        show val s d + 0 = val s d
        omega
      have hd := val_pos v (hs d (h1.sub d g5))
      have hq : q ∈ plv s free c M n := (plv_spec v hs hc n q).mpr ⟨⟨g1, fun e he => h1.sub e (g4 e he)⟩, by
        have := g10.length_eq
        rw [List.length_append, List.length_singleton] at this
        omega, g2, g3, .inr (by omega)⟩
      refine List.mem_filter.mpr ⟨psort_mem.mpr ((putAll_mem _ _ _).mpr (.inr (List.mem_flatMap.mpr ⟨q, hq, List.mem_flatMap.mpr ⟨a, g7, List.mem_map.mpr ⟨d, List.mem_filter.mpr ⟨g8, ?_⟩, g9.symm⟩⟩⟩))), decide_eq_true h5⟩
      simp [h1.sub d g5, g6]
theorem plv_nil {n : Nat} (h : plv s free c M n = []) : ∀ m, plv s free c M (n + m) = []
  | 0 => h
  | m + 1 => by
    show (psort (putAll [] (candP free (plv s free c M (n + m))))).filter _ = []
    rw [plv_nil h m]
    show ((([] : List (List Cell)).mergeSort fun p q => dle (eP p) (eP q)).filter _) = []
    rw [List.mergeSort_nil]; rfl
end
noncomputable abbrev pwS (s : Sheet) (free : List Cell) (ws : List Int) (c : Cell) (n : Nat) (x : Sl) : Rho :=
  [.val (eS s), .val (eP free), .val (eI ws), .val (.list ((plv s free c (maxL ws) n).map eP)), .own (((List.range n).flatMap fun k => (plv s free c (maxL ws) k).filter fun p => decide (worth s p ∈ ws)).map eP), x]
theorem pieces_with_ok {s : Sheet} (v : Valid s) {free : List Cell} (hf : free.Pairwise clt) (hs : ∀ c ∈ free, c ∈ cellsOf s) (hne : free ≠ []) {ws : List Int} (hw : ws ≠ []) (hwl : ws.length ≤ 1000) :
    ∃ P : List (List Cell), M_pieces_with [eS s, eP free, eI ws] = .ok (.list (P.map eP)) ∧ (∀ p, p ∈ P ↔ Cand s free ws p) ∧ P.length ≤ LIM := by
  obtain ⟨c, f', hcf⟩ := List.exists_cons_of_ne_nil hne
  have hc : c ∈ free := by rw [hcf]; simp
  have hk12 : free.length ≤ 12 := Nat.le_trans ((up_nodup hf).length_le_of_subset hs) v.kok.len
  have hK : KOk free := ⟨hf, hk12⟩
  have hlim : ∀ n, (plv s free c (maxL ws) n).length ≤ 4096 := fun n => hK.lim (plv_nodup n) (plv_pc hc n)
  have hmade : ∀ n, n ≤ 13 → ((List.range n).flatMap fun k => (plv s free c (maxL ws) k).filter fun p => decide (worth s p ∈ ws)).length ≤ 4096 * n := by
    intro n
    induction n with
    | zero => intro _; simp
    | succ n ih =>
      intro hn
      rw [List.range_succ, List.flatMap_append, List.length_append]
      have h1 := ih (by omega)
      have h2 := List.length_filter_le (fun p => decide (worth s p ∈ ws)) (plv s free c (maxL ws) n)
      have h3 := hlim n
      simp only [List.flatMap_cons, List.flatMap_nil, List.append_nil]
      omega
  have hsum : ∀ n, ∀ p ∈ plv s free c (maxL ws) n, M_sum_of [eS s, eP p] = .ok (.int (worth s p)) := fun n p hp => by
    have h := plv_pc hc n p hp
    exact sum_of_ok (fun d hd => hs d (h.sub d hd)) (Nat.le_trans (h.len hK) (by decide))
  have hbody : ∀ n x, n ≤ 12 → ∃ x', (sSeq (sExt 4 (mLc [5] (iA (mVar 3)) (gN 5) (mB (m2 dIn (mCall M_sum_of (mCons (mVar 0) (mCons (mVar 5) mNil))) (mVar 2))) (mVar 5))) (sSet 3 (mLc [5] (iA (mCall M_grown (mCons (mVar 1) (mCons (mVar 3) mNil)))) (gN 5) (mB (m2 dLe (mCall M_sum_of (mCons (mVar 0) (mCons (mVar 5) mNil))) (mCB dMax (mCons (mVar 2) mNil)))) (mVar 5)))) (pwS s free ws c n x) = .nx (pwS s free ws c (n + 1) x') := by
    intro n x hn
    refine ⟨x, ?_⟩
    generalize hA : plv s free c (maxL ws) n = A at *
    have hAl : A.length ≤ 4096 := by rw [← hA]; exact hlim n
    have hAs : ∀ p ∈ A, M_sum_of [eS s, eP p] = .ok (.int (worth s p)) := by rw [← hA]; exact hsum n
    have hm1 := hmade n (by omega)
    have hm2 := hmade (n + 1) (by omega)
    obtain ⟨made, hmd⟩ : ∃ made, made = (List.range n).flatMap fun k => (plv s free c (maxL ws) k).filter fun p => decide (worth s p ∈ ws) := ⟨_, rfl⟩
    have hmd2 : ((List.range (n + 1)).flatMap fun k => (plv s free c (maxL ws) k).filter fun p => decide (worth s p ∈ ws)) = made ++ A.filter fun p => decide (worth s p ∈ ws) := by
      rw [List.range_succ, List.flatMap_append, ← hmd]
      simp only [List.flatMap_cons, List.flatMap_nil, List.append_nil, hA]
    have e1 : pwS s free ws c n x = [.val (eS s), .val (eP free), .val (eI ws), .val (.list (A.map eP)), .own (made.map eP), x] := by
      unfold pwS
      rw [hA, hmd]
    rw [e1]
    rw [← hmd] at hm1
    have hlc := lc_map (enc := eP) (t := gN 5) (mt := (mB (m2 dIn (mCall M_sum_of (mCons (mVar 0) (mCons (mVar 5) mNil))) (mVar 2)))) (me := mVar 5) (ρ := [.val (eS s), .val (eP free), .val (eI ws), .val (.list (A.map eP)), .own (made.map eP), .un])
      (fun p => decide (worth s p ∈ ws)) eP A (fun p hp => ⟨[.val (eS s), .val (eP free), .val (eI ws), .val (.list (A.map eP)), .own (made.map eP), .val (eP p)], rfl, t_b (m2_ok (x := .int (worth s p)) (y := eI ws) ((call_ok (ds := [eS s, eP p]) rfl).trans (hAs p hp)) rfl (Enc.int.dIn (by decide) _ _)), fun _ => rfl⟩)
    refine (seq_nx (ρ' := [.val (eS s), .val (eP free), .val (eI ws), .val (.list (A.map eP)), .own ((made ++ A.filter fun p => decide (worth s p ∈ ws)).map eP), x]) ((ext_ok (ds := made.map eP) rfl (mLc_ok (iA_list (ds := A.map eP) rfl) (by rw [List.length_map]; exact Nat.le_of_lt (lim4096 hAl)) hlc) ?_).trans ?_)).trans ?_
    · rw [List.length_map, List.length_map]
      have := List.length_filter_le (fun p => decide (worth s p ∈ ws)) A
      have : LIM = 100000 := rfl
      omega
    · rw [List.map_append]; rfl
    · have hgr := grown_tup (K := free) (xs := A) hK (by rw [← hA]; exact plv_pc hc n)
      have hB : plv s free c (maxL ws) (n + 1) = (psort (putAll [] (candP free A))).filter fun p => decide (worth s p ≤ maxL ws) := by
        show (psort (putAll [] (candP free (plv s free c (maxL ws) n)))).filter _ = _
        rw [hA]
      have hpcA : ∀ p ∈ A, Pc free p := by rw [← hA]; exact plv_pc hc n
      have hG : ∀ p ∈ psort (putAll [] (candP free A)), Pc free p := fun p hp => by
        rcases (putAll_mem _ _ _).mp (psort_mem.mp hp) with h | h
        · cases h
        · exact candP_pc hpcA p h
      have hGl : (psort (putAll [] (candP free A))).length ≤ 4096 := hK.lim (psort_nodup (putAll_nodup _ _ List.nodup_nil)) hG
      have e2 : pwS s free ws c (n + 1) x = [.val (eS s), .val (eP free), .val (eI ws), .val (.list (((psort (putAll [] (candP free A))).filter fun p => decide (worth s p ≤ maxL ws)).map eP)), .own ((made ++ A.filter fun p => decide (worth s p ∈ ws)).map eP), x] := by
        unfold pwS
        rw [hB, hmd2]
      rw [e2]
      generalize psort (putAll [] (candP free A)) = G at *
      generalize (made ++ A.filter fun p => decide (worth s p ∈ ws)) = made2 at *
      have hlc2 := lc_map (enc := eP) (t := gN 5) (mt := (mB (m2 dLe (mCall M_sum_of (mCons (mVar 0) (mCons (mVar 5) mNil))) (mCB dMax (mCons (mVar 2) mNil))))) (me := mVar 5) (ρ := [.val (eS s), .val (eP free), .val (eI ws), .val (.list (A.map eP)), .own (made2.map eP), .un])
        (fun p => decide (worth s p ≤ maxL ws)) eP G (fun p hp => ⟨[.val (eS s), .val (eP free), .val (eI ws), .val (.list (A.map eP)), .own (made2.map eP), .val (eP p)], rfl, t_b (m2_ok (x := .int (worth s p)) (y := .int (maxL ws)) ((call_ok (ds := [eS s, eP p]) rfl).trans (sum_of_ok (fun d hd => hs d ((hG p hp).sub d hd)) (Nat.le_trans ((hG p hp).len hK) (by decide)))) ((cb_ok (ds := [eI ws]) rfl).trans (dMax_ok hw)) rfl), fun _ => rfl⟩)
      exact (set_ok (mLc_ok (iA_list (ds := G.map eP) ((call_ok (ds := [eP free, .list (A.map eP)]) rfl).trans hgr)) (by rw [List.length_map]; exact Nat.le_of_lt (lim4096 hGl)) hlc2)).trans rfl
  have hcond : ∀ n x, (mB (m2 dNe (mVar 3) (mLst mNil))) (pwS s free ws c n x) = .ok (!decide (plv s free c (maxL ws) n = [])) := fun n x => t_b (m2_ok (x := eLP2 (plv s free c (maxL ws) n)) (y := eLP2 []) rfl rfl (encLP2.dNe (by decide) _ _))
  have hend : plv s free c (maxL ws) free.length = [] := by
    refine List.eq_nil_iff_forall_not_mem.mpr fun p hp => ?_
    obtain ⟨h1, h2, _⟩ := (plv_spec v hs hc _ p).mp hp
    have := (up_nodup h1.up).length_le_of_subset h1.sub
    omega
  have hloop : ∀ k n fuel x, n ≤ free.length → free.length - n ≤ k → k < fuel → ∃ N x', N ≤ free.length ∧ plv s free c (maxL ws) N = [] ∧ whGo (mB (m2 dNe (mVar 3) (mLst mNil))) (sSeq (sExt 4 (mLc [5] (iA (mVar 3)) (gN 5) (mB (m2 dIn (mCall M_sum_of (mCons (mVar 0) (mCons (mVar 5) mNil))) (mVar 2))) (mVar 5))) (sSet 3 (mLc [5] (iA (mCall M_grown (mCons (mVar 1) (mCons (mVar 3) mNil)))) (gN 5) (mB (m2 dLe (mCall M_sum_of (mCons (mVar 0) (mCons (mVar 5) mNil))) (mCB dMax (mCons (mVar 2) mNil)))) (mVar 5)))) fuel (pwS s free ws c n x) = .nx (pwS s free ws c N x') := by
    intro k
    induction k with
    | zero =>
      intro n fuel x hn hk hfu
      obtain ⟨fuel, rfl⟩ : ∃ f', fuel = f' + 1 := ⟨fuel - 1, by omega⟩
      have e : n = free.length := by omega
      subst e
      refine ⟨_, x, hn, hend, wh_f ((hcond _ x).trans ?_)⟩
      rw [hend]; rfl
    | succ k ih =>
      intro n fuel x hn hk hfu
      obtain ⟨fuel, rfl⟩ : ∃ f', fuel = f' + 1 := ⟨fuel - 1, by omega⟩
      by_cases h0 : plv s free c (maxL ws) n = []
      · refine ⟨n, x, hn, h0, wh_f ((hcond _ x).trans ?_)⟩
        rw [h0]; rfl
      · have hlt : n < free.length := by
          rcases Nat.lt_or_ge n free.length with h | h
          · exact h
          · have : n = free.length := by omega
            rw [this] at h0
            exact absurd hend h0
        obtain ⟨x1, hb⟩ := hbody n x (by omega)
        obtain ⟨N, x', g1, g2, g3⟩ := ih (n + 1) fuel x1 (by omega) (by omega) (by omega)
        exact ⟨N, x', g1, g2, (wh_t ((hcond n x).trans (by rw [decide_eq_false h0]; rfl)) hb).trans g3⟩
  obtain ⟨N, x', hN, hN0, hwh⟩ := hloop 12 0 100 .un (Nat.zero_le _) (by omega) (by omega)
  refine ⟨(List.range N).flatMap fun k => (plv s free c (maxL ws) k).filter fun p => decide (worth s p ∈ ws), ?_, fun p => ?_, ?_⟩
  · refine fun_rt ?_
    refine (seq_nx (ρ' := [.val (eS s), .val (eP free), .val (eI ws), .val (.list [eP [c]]), .un, .un]) ?_).trans ?_
    · refine (set_ok (d := .list [eP [c]]) ?_).trans rfl
      have hcut : mCut (mVar 1) mNoPart (mPart (mC (.int 1))) [.val (eS s), .val (eP free), .val (eI ws), .un, .un, .un] = .ok (eP [c]) := by
        show Res.ok (PyData.tuple (cutD (free.map eC) none (some 1))) = _
        have : cutD (free.map eC) none (some 1) = [eC c] := by
          rw [hcf]
          unfold cutD
          have e1 : HT.sIx ((c :: f').map eC).length 0 none = 0 := rfl
          have e2 : HT.sIx ((c :: f').map eC).length ((c :: f').map eC).length (some 1) = 1 := by
            show (if (1 : Int) < 0 then ((1 : Int) + (((c :: f').map eC).length : Int)).toNat else min (1 : Int).toNat ((c :: f').map eC).length) = 1
            rw [if_neg (by decide), List.length_map, List.length_cons]
            show min 1 (f'.length + 1) = 1
            omega
          rw [e1, e2]; rfl
        rw [this]; rfl
      have : mCons (mCut (mVar 1) mNoPart (mPart (mC (.int 1)))) mNil [.val (eS s), .val (eP free), .val (eI ws), .un, .un, .un] = .ok [eP [c]] := cons_ok hcut rfl
      exact lst_ok this (show 1 ≤ LIM by decide)
    refine (seq_nx (ρ' := pwS s free ws c 0 .un) rfl).trans ((seq_nx hwh).trans ?_)
    rfl
  · rw [List.mem_flatMap]
    constructor
    · rintro ⟨k, hk, hp⟩
      obtain ⟨h1, h2⟩ := List.mem_filter.mp hp
      obtain ⟨g1, g2, g3, g4, _⟩ := (plv_spec v hs hc k p).mp h1
      exact ⟨g1, g3, fun d hd => by rw [hcf] at hd; simp at hd; rw [← hd]; exact g4, of_decide_eq_true h2⟩
    · intro h
      have hcp := h.hd c (by rw [hcf]; rfl)
      have hpl : 1 ≤ p.length := List.length_pos_iff.mpr h.cn.ne
      have hin : p ∈ plv s free c (maxL ws) (p.length - 1) := (plv_spec v hs hc _ p).mpr ⟨h.pc, by omega, h.cn, hcp, .inr (maxL_le _ h.wt)⟩
      refine ⟨p.length - 1, List.mem_range.mpr ?_, List.mem_filter.mpr ⟨hin, decide_eq_true h.wt⟩⟩
      rcases Nat.lt_or_ge (p.length - 1) N with h1 | h1
      · exact h1
      · have := plv_nil hN0 (p.length - 1 - N)
        rw [show N + (p.length - 1 - N) = p.length - 1 by omega] at this
        rw [this] at hin
        cases hin
  · have := hmade N (by omega)
    have : LIM = 100000 := rfl
    omega
end Stm
set_option Elab.async false
set_option linter.all false
set_option maxRecDepth 100000
set_option maxHeartbeats 4000000
namespace Stm
open PySem PySem.Spec PyProof.Rows L2
/-! ### the best plan -/
abbrev Pln := List (Int × List Cell)
def eQ (x : Int × List Cell) : PyData := .tuple [.int x.1, eP x.2]
def eR : Option (Int × Pln) → PyData
  | none => .none
  | some x => .tuple [.int x.1, .list (x.2.map eQ)]
/-- a plan for what is left, with its count -/
structure GoodP (s : Sheet) (free : List Cell) (left : List Cell) (x : Int × Pln) : Prop where
  plan : PlanOf s free (left.map Prod.fst) (x.2.map Prod.snd)
  tot : tot (x.2.map Prod.snd) = x.1
  left : (x.2.map fun y => (worth s y.2, y.1)).Perm left
def updR (B r : Option (Int × Pln)) (i k : Int) (p : List Cell) : Option (Int × Pln) := match r with
  | none => B
  | some n => match B with
    | none => some (n.1 + i, (k, p) :: n.2)
    | some m => if n.1 + i > m.1 then some (n.1 + i, (k, p) :: n.2) else some m
theorem updR_fst (B r : Option (Int × Pln)) (i k : Int) (p : List Cell) : (updR B r i k p).map Prod.fst = updB (B.map Prod.fst) (r.map Prod.fst) i := by
  cases r with
  | none => rfl
  | some n =>
    cases B with
    | none => rfl
    | some m =>
      show (if n.1 + i > m.1 then some (n.1 + i, (k, p) :: n.2) else some m).map Prod.fst = (if n.1 + i > m.1 then some (n.1 + i) else some m.1)
      split <;> rfl
theorem or_short {a b : TM} {ρ : Rho} (h : a ρ = .ok true) : mOr a b ρ = .ok true := t_orl h
theorem and_shortf {a b : TM} {ρ : Rho} (h : a ρ = .ok false) : mAnd a b ρ = .ok false := by
  unfold mAnd; rw [h]; rfl
theorem and_t {a b : TM} {ρ : Rho} {y : Bool} (h : a ρ = .ok true) (g : b ρ = .ok y) : mAnd a b ρ = .ok y := by
  unfold mAnd; rw [h]; exact g
theorem left_split {left : List Cell} (hn : left.Nodup) {w : Int} (hw : w ∈ left.map Prod.fst) : ∃ k, (left.filter fun x => decide (x.1 = w)).head? = some (w, k) ∧ left.Perm ((w, k) :: left.filter fun x => !decide (x = (w, k))) := by
  obtain ⟨x, hx, e⟩ := List.mem_map.mp hw
  have hne : left.filter (fun x => decide (x.1 = w)) ≠ [] := by
    intro z
    have : x ∈ left.filter (fun x => decide (x.1 = w)) := List.mem_filter.mpr ⟨hx, decide_eq_true e⟩
    rw [z] at this; cases this
  obtain ⟨y, ys, ey⟩ := List.exists_cons_of_ne_nil hne
  have hy : y ∈ left.filter (fun x => decide (x.1 = w)) := by rw [ey]; simp
  obtain ⟨hy1, hy2⟩ := List.mem_filter.mp hy
  have hyw : y.1 = w := of_decide_eq_true hy2
  have hye : y = (w, y.2) := by rw [← hyw]
  refine ⟨y.2, by rw [ey, ← hye]; rfl, ?_⟩
  rw [← hye]
  refine (List.perm_ext_iff_of_nodup hn (List.nodup_cons.mpr ⟨by simp [List.mem_filter], hn.sublist List.filter_sublist⟩)).mpr fun z => ?_
  rw [List.mem_cons, List.mem_filter]
  simp only [Bool.not_eq_true', decide_eq_false_iff_not]
  constructor
  · intro h
    by_cases hz : z = y
    · exact .inl hz
    · exact .inr ⟨h, hz⟩
  · rintro (h | h)
    · rw [h]; exact hy1
    · exact h.1
theorem good_cons {s : Sheet} {free : List Cell} {left left' : List Cell} {p : List Cell} {k : Int} {x : Int × Pln} (hf : free.Pairwise clt) (hc : Cand s free (left.map Prod.fst) p) (hl : left.Perm ((worth s p, k) :: left')) (g : GoodP s (rest free p) left' x) : GoodP s free left (x.1 + inn p, (k, p) :: x.2) := by
  have hw : (left'.map Prod.fst).Perm ((left.map Prod.fst).erase (worth s p)) := by
    have h1 := hl.map Prod.fst
    rw [List.map_cons] at h1
    exact ((List.perm_cons (worth s p)).mp (h1.symm.trans (List.perm_cons_erase hc.wt)))
  have h2 : PlanOf s (rest free p) ((left.map Prod.fst).erase (worth s p)) (x.2.map Prod.snd) := ⟨g.plan.perm, g.plan.pc, g.plan.wts.trans hw⟩
  have h3 := plan_cons hf hc h2
  refine ⟨h3.1, ?_, ?_⟩
  · show tot (p :: x.2.map Prod.snd) = _
    rw [h3.2, g.tot]
  · show ((worth s p, k) :: x.2.map fun y => (worth s y.2, y.1)).Perm left
    exact (g.left.cons _).trans hl.symm
abbrev bpS (s : Sheet) (free left : List Cell) (B : Option (Int × Pln)) (a b c d : Sl) : Rho := [.val (eS s), .val (eP free), .val (eL left), .val (eR B), a, b, c, d, .un, .un, .un, .un]
theorem best_step {s : Sheet} (v : Valid s) {free left : List Cell} (hf : free.Pairwise clt) (hs : ∀ c ∈ free, c ∈ cellsOf s) (hn : left.Nodup) (hll : left.length ≤ 1000) {p : List Cell} (hc : Cand s free (left.map Prod.fst) p) {M : DM}
    (ih : ∀ left' : List Cell, left'.Nodup → left'.length ≤ 1000 → ∃ r, M [eS s, eP (rest free p), eL left'] = .ok (eR r) ∧ IsBest s (rest free p) (left'.map Prod.fst) (r.map Prod.fst) ∧ ∀ x, r = some x → GoodP s (rest free p) left' x) (B : Option (Int × Pln)) (a b c d : Sl) :
    ∃ k r left', left.Perm ((worth s p, k) :: left') ∧ IsBest s (rest free p) (left'.map Prod.fst) (r.map Prod.fst) ∧ (∀ x, r = some x → GoodP s (rest free p) left' x) ∧
      ∃ a' b' c' d', turn1 (gN 4) (sSeq (sSet 5 (m2 dIx (mLc [10] (iA (mVar 2)) (gN 10) (mB (m2 dEq (m2 dIx (mVar 10) (mC (.int 0))) (mCall M_sum_of (mCons (mVar 0) (mCons (mVar 4) mNil))))) (mVar 10)) (mC (.int 0)))) (sSeq (sSet 6 (mCB dToTup (mCons (mLc [11] (iA (mVar 1)) (gN 11) (mB (m2 dNotIn (mVar 11) (mVar 4))) (mVar 11)) mNil))) (sSeq (sSet 7 (mCall M (mCons (mVar 0) (mCons (mVar 6) (mCons (mLc [10] (iA (mVar 2)) (gN 10) (mB (m2 dNe (mVar 10) (mVar 5))) (mVar 10)) mNil))))) (sIf (mAnd (mB (m2 dIsNotN (mVar 7) (mC .none))) (mOr (mB (m2 dIsN (mVar 3) (mC .none))) (mB (m2 dGt (m2 dAdd (m2 dIx (mVar 7) (mC (.int 0))) (mCall M_inner (mCons (mVar 4) mNil))) (m2 dIx (mVar 3) (mC (.int 0))))))) (sSet 3 (mTup (mCons (m2 dAdd (m2 dIx (mVar 7) (mC (.int 0))) (mCall M_inner (mCons (mVar 4) mNil))) (mCons (m2 dAdd (mLst (mCons (mTup (mCons (m2 dIx (mVar 5) (mC (.int 1))) (mCons (mVar 4) mNil))) mNil)) (m2 dIx (mVar 7) (mC (.int 1)))) mNil)))) sNil)))) (eP p) (bpS s free left B a b c d) = .nx (bpS s free left (updR B r (inn p) k p) a' b' c' d') := by
  have hk12 : free.length ≤ 12 := Nat.le_trans ((up_nodup hf).length_le_of_subset hs) v.kok.len
  have hpl : p.length ≤ 12 := Nat.le_trans ((up_nodup hc.pc.up).length_le_of_subset hc.pc.sub) hk12
  have hsum : M_sum_of [eS s, eP p] = .ok (.int (worth s p)) := sum_of_ok (fun d hd => hs d (hc.pc.sub d hd)) (by omega)
  have hinn : M_inner [eP p] = .ok (.int (inn p : Int)) := inner_ok (.inl rfl) (up_nodup hc.pc.up) (by omega)
  obtain ⟨k, hk1, hk2⟩ := left_split hn hc.wt
  generalize hL' : (left.filter fun x => !decide (x = (worth s p, k))) = left' at *
  have hn' : left'.Nodup := by rw [← hL']; exact hn.sublist List.filter_sublist
  have hl' : left'.length ≤ 1000 := by
    have := hk2.length_eq
    rw [List.length_cons] at this
    omega
  obtain ⟨r, hr, hb, hg⟩ := ih left' hn' hl'
  refine ⟨k, r, left', hk2, hb, hg, .val (eP p), .val (eC (worth s p, k)), .val (eP (rest free p)), .val (eR r), ?_⟩
  unfold turn1
  have ht : gN 4 (eP p) (bpS s free left B a b c d) = some (bpS s free left B (.val (eP p)) b c d) := rfl
  rw [ht]
  simp only
  -- the pair
  have hlc1 := lc_map (enc := eC) (t := gN 10) (mt := (mB (m2 dEq (m2 dIx (mVar 10) (mC (.int 0))) (mCall M_sum_of (mCons (mVar 0) (mCons (mVar 4) mNil)))))) (me := mVar 10) (ρ := bpS s free left B (.val (eP p)) b c d) (fun x => decide (x.1 = worth s p)) eC left
    (fun x hx => ⟨[.val (eS s), .val (eP free), .val (eL left), .val (eR B), .val (eP p), b, c, d, .un, .un, .val (eC x), .un], rfl, t_b (m2_ok (x := .int x.1) (y := .int (worth s p)) rfl ((call_ok (ds := [eS s, eP p]) rfl).trans hsum) (Enc.int.dEq (by decide) _ _)), fun _ => rfl⟩)
  refine (seq_nx (ρ' := bpS s free left B (.val (eP p)) (.val (eC (worth s p, k))) c d) ((set_ok (m2_ok (x := .list ((left.filter fun x => decide (x.1 = worth s p)).map eC)) (y := .int 0) (mLc_ok (iA_list (ds := left.map eC) rfl) (by rw [List.length_map]; exact Nat.le_trans hll (by decide)) hlc1) rfl (dIx_nat (j := 0) ?_))).trans rfl)).trans ?_
  · rw [List.getElem?_map, ← List.head?_eq_getElem?, hk1]; rfl
  -- the others
  have hlc2 := lc_map (enc := eC) (t := gN 11) (mt := (mB (m2 dNotIn (mVar 11) (mVar 4)))) (me := mVar 11) (ρ := bpS s free left B (.val (eP p)) (.val (eC (worth s p, k))) c d) (fun x => !decide (x ∈ p)) eC free
    (fun x hx => ⟨[.val (eS s), .val (eP free), .val (eL left), .val (eR B), .val (eP p), .val (eC (worth s p, k)), c, d, .un, .un, .un, .val (eC x)], rfl, t_b (m2_ok rfl rfl (cNotInT x p)), fun _ => rfl⟩)
  refine (seq_nx (ρ' := bpS s free left B (.val (eP p)) (.val (eC (worth s p, k))) (.val (eP (rest free p))) d) ((set_ok (d := eP (rest free p)) ((cb_ok (ds := [eL (rest free p)]) (cons_ok (mLc_ok (iA_tuple (ds := free.map eC) rfl) (by rw [List.length_map]; exact lim100 (by omega)) hlc2) rfl)).trans rfl)).trans rfl)).trans ?_
  -- the rest
  have hlc3 := lc_map (enc := eC) (t := gN 10) (mt := (mB (m2 dNe (mVar 10) (mVar 5)))) (me := mVar 10) (ρ := bpS s free left B (.val (eP p)) (.val (eC (worth s p, k))) (.val (eP (rest free p))) d) (fun x => !decide (x = (worth s p, k))) eC left
    (fun x hx => ⟨[.val (eS s), .val (eP free), .val (eL left), .val (eR B), .val (eP p), .val (eC (worth s p, k)), .val (eP (rest free p)), d, .un, .un, .val (eC x), .un], rfl, t_b (m2_ok rfl rfl (encC.dNe (by decide) _ _)), fun _ => rfl⟩)
  rw [hL'] at hlc3
  refine (seq_nx (ρ' := bpS s free left B (.val (eP p)) (.val (eC (worth s p, k))) (.val (eP (rest free p))) (.val (eR r))) ((set_ok ((call_ok (ds := [eS s, eP (rest free p), eL left']) (cons_ok rfl (cons_ok rfl (cons_ok (mLc_ok (iA_list (ds := left.map eC) rfl) (by rw [List.length_map]; exact Nat.le_trans hll (by decide)) hlc3) rfl)))).trans hr)).trans rfl)).trans ?_
  cases r with
  | none =>
    exact (if_f (and_shortf (t_b rfl))).trans rfl
  | some n =>
    have hgn := hg n rfl
    have hlenp : n.2.length ≤ 12 := by
      have h1 := plan_len hgn.plan
      have h2 := hgn.left.length_eq
      rw [List.length_map] at h1 h2
      have h3 := (rest_perm (up_nodup hf) (up_nodup hc.pc.up) hc.pc.sub).length_eq
      rw [List.length_append] at h3
      omega
    have hadd : (m2 dAdd (m2 dIx (mVar 7) (mC (.int 0))) (mCall M_inner (mCons (mVar 4) mNil))) (bpS s free left B (.val (eP p)) (.val (eC (worth s p, k))) (.val (eP (rest free p))) (.val (eR (some n)))) = .ok (.int (n.1 + inn p)) :=
      m2_ok (x := .int n.1) (y := .int (inn p : Int)) rfl ((call_ok (ds := [eP p]) rfl).trans hinn) rfl
    have hset : (sSet 3 (mTup (mCons (m2 dAdd (m2 dIx (mVar 7) (mC (.int 0))) (mCall M_inner (mCons (mVar 4) mNil))) (mCons (m2 dAdd (mLst (mCons (mTup (mCons (m2 dIx (mVar 5) (mC (.int 1))) (mCons (mVar 4) mNil))) mNil)) (m2 dIx (mVar 7) (mC (.int 1)))) mNil)))) (bpS s free left B (.val (eP p)) (.val (eC (worth s p, k))) (.val (eP (rest free p))) (.val (eR (some n)))) = .nx (bpS s free left (some (n.1 + inn p, (k, p) :: n.2)) (.val (eP p)) (.val (eC (worth s p, k))) (.val (eP (rest free p))) (.val (eR (some n)))) := by
      refine (set_ok (d := eR (some (n.1 + inn p, (k, p) :: n.2))) (tup_ok (xs := [.int (n.1 + inn p), .list (((k, p) :: n.2).map eQ)]) (cons_ok hadd (cons_ok (m2_ok (x := .list [eQ (k, p)]) (y := .list (n.2.map eQ)) rfl rfl ?_) rfl)) (show 2 ≤ LIM by decide))).trans rfl
      unfold dAdd
      simp only
      rw [if_pos (by rw [List.length_map]; exact lim100 (show 1 + n.2.length ≤ 100 by omega))]; rfl
    cases B with
    | none => exact (if_t (and_t (t_b rfl) (or_short (t_b rfl)))).trans hset
    | some m =>
      have hcond : (mAnd (mB (m2 dIsNotN (mVar 7) (mC .none))) (mOr (mB (m2 dIsN (mVar 3) (mC .none))) (mB (m2 dGt (m2 dAdd (m2 dIx (mVar 7) (mC (.int 0))) (mCall M_inner (mCons (mVar 4) mNil))) (m2 dIx (mVar 3) (mC (.int 0))))))) (bpS s free left (some m) (.val (eP p)) (.val (eC (worth s p, k))) (.val (eP (rest free p))) (.val (eR (some n)))) = .ok (decide (m.1 < n.1 + inn p)) :=
        and_t (t_b rfl) (t_orr (t_b rfl) (t_b (m2_ok (x := .int (n.1 + inn p)) (y := .int m.1) hadd rfl rfl)))
      by_cases hgt : n.1 + (inn p : Int) > m.1
      · rw [decide_eq_true hgt] at hcond
        refine ((if_t hcond).trans hset).trans ?_
        show _ = SRes.nx (bpS s free left (if n.1 + (inn p : Int) > m.1 then some (n.1 + inn p, (k, p) :: n.2) else some m) _ _ _ _)
        rw [if_pos hgt]
      · rw [decide_eq_false hgt] at hcond
        refine (if_f hcond).trans ?_
        show _ = SRes.nx (bpS s free left (if n.1 + (inn p : Int) > m.1 then some (n.1 + inn p, (k, p) :: n.2) else some m) _ _ _ _)
        rw [if_neg hgt]; rfl
theorem best_plan_ok {s : Sheet} (v : Valid s) : ∀ (n : Nat) (free left : List Cell), free.Pairwise clt → (∀ c ∈ free, c ∈ cellsOf s) → left.Nodup → left.length ≤ 1000 → free.length < n →
    ∃ r, M_best_planN n [eS s, eP free, eL left] = .ok (eR r) ∧ IsBest s free (left.map Prod.fst) (r.map Prod.fst) ∧ ∀ x, r = some x → GoodP s free left x
  | 0, _, _, _, _, _, _, h => absurd h (Nat.not_lt_zero _)
  | n + 1, free, left, hf, hs, hn, hll, hlt => by
    have ihn := best_plan_ok v n
    have hk12 : free.length ≤ 12 := Nat.le_trans ((up_nodup hf).length_le_of_subset hs) v.kok.len
    show ∃ r, M_best_planF (M_best_planN n) [eS s, eP free, eL left] = .ok (eR r) ∧ _
    have hc1 : (mB (m2 dEq (mVar 1) (mTup mNil))) [.val (eS s), .val (eP free), .val (eL left), .un, .un, .un, .un, .un, .un, .un, .un, .un] = .ok (decide (free = [])) := t_b (m2_ok (x := eP free) (y := eP []) rfl rfl (encP.dEq (by decide) _ _))
    by_cases h0 : free = []
    · subst h0
      rw [decide_eq_true rfl] at hc1
      refine ⟨if left = [] then some (0, []) else none, fun_rt (seq_rt ((if_t hc1).trans (ret_ok ?_))), ?_, fun x hx => ?_⟩
      · refine m2_ok (x := .list [.tuple [.int 0, .list []], .none]) (y := .int (if (!decide (left = [])) = true then 1 else 0)) rfl ((cb_ok (ds := [.bool (!decide (left = []))]) (cons_ok (m2_ok (x := eL left) (y := eL []) rfl rfl (encL.dNe (by decide) _ _)) rfl)).trans rfl) ?_
        by_cases hl : left = []
        · rw [decide_eq_true hl, if_pos hl]; rfl
        · rw [decide_eq_false hl, if_neg hl]; rfl
      · have := isBest_nil s (left.map Prod.fst)
        by_cases hl : left = []
        · rw [if_pos hl]; rw [hl] at this ⊢; exact this
        · rw [if_neg hl]; rw [if_neg (by simpa using hl)] at this; exact this
      · by_cases hl : left = []
        · rw [if_pos hl] at hx
          cases hx
          subst hl
          exact ⟨plan_nil s, rfl, List.Perm.refl _⟩
        · rw [if_neg hl] at hx; cases hx
    rw [decide_eq_false h0] at hc1
    have hc2 : (mB (m2 dEq (mVar 2) (mLst mNil))) [.val (eS s), .val (eP free), .val (eL left), .un, .un, .un, .un, .un, .un, .un, .un, .un] = .ok (decide (left = [])) := t_b (m2_ok (x := eL left) (y := eL []) rfl rfl (encL.dEq (by decide) _ _))
    by_cases hl : left = []
    · subst hl
      rw [decide_eq_true rfl] at hc2
      exact ⟨none, fun_rt ((seq_nx ((if_f hc1).trans rfl)).trans (seq_rt ((if_t hc2).trans rfl))), isBest_none h0, fun x hx => by cases hx⟩
    rw [decide_eq_false hl] at hc2
    obtain ⟨P, hP1, hP2, hP3⟩ := pieces_with_ok v hf hs h0 (ws := left.map Prod.fst) (by simpa using hl) (by rw [List.length_map]; exact hll)
    have hlw : (mLc [8, 9] (iA (mVar 2)) (gN2 8 9) mYes (mVar 8)) (bpS s free left none .un .un .un .un) = .ok (eI (left.map Prod.fst)) := by
      have hlc := lc_all (enc := eC) (t := gN2 8 9) (me := mVar 8) (ρ := bpS s free left none .un .un .un .un) (fun x => .int x.1) left (fun x hx => ⟨[.val (eS s), .val (eP free), .val (eL left), .val .none, .un, .un, .un, .un, .val (.int x.1), .val (.int x.2), .un, .un], rfl, rfl⟩)
      refine (mLc_ok (iA_list (ds := left.map eC) rfl) (by rw [List.length_map]; exact Nat.le_trans hll (by decide)) hlc).trans ?_
      unfold eI
      rw [List.map_map]; rfl
    have key := for_inv (enc := eP) (t := gN 4) (mb := (sSeq (sSet 5 (m2 dIx (mLc [10] (iA (mVar 2)) (gN 10) (mB (m2 dEq (m2 dIx (mVar 10) (mC (.int 0))) (mCall M_sum_of (mCons (mVar 0) (mCons (mVar 4) mNil))))) (mVar 10)) (mC (.int 0)))) (sSeq (sSet 6 (mCB dToTup (mCons (mLc [11] (iA (mVar 1)) (gN 11) (mB (m2 dNotIn (mVar 11) (mVar 4))) (mVar 11)) mNil))) (sSeq (sSet 7 (mCall (M_best_planN n) (mCons (mVar 0) (mCons (mVar 6) (mCons (mLc [10] (iA (mVar 2)) (gN 10) (mB (m2 dNe (mVar 10) (mVar 5))) (mVar 10)) mNil))))) (sIf (mAnd (mB (m2 dIsNotN (mVar 7) (mC .none))) (mOr (mB (m2 dIsN (mVar 3) (mC .none))) (mB (m2 dGt (m2 dAdd (m2 dIx (mVar 7) (mC (.int 0))) (mCall M_inner (mCons (mVar 4) mNil))) (m2 dIx (mVar 3) (mC (.int 0))))))) (sSet 3 (mTup (mCons (m2 dAdd (m2 dIx (mVar 7) (mC (.int 0))) (mCall M_inner (mCons (mVar 4) mNil))) (mCons (m2 dAdd (mLst (mCons (mTup (mCons (m2 dIx (mVar 5) (mC (.int 1))) (mCons (mVar 4) mNil))) mNil)) (m2 dIx (mVar 7) (mC (.int 1)))) mNil)))) sNil)))))
      (xs := P) (J := Option (Int × Pln) × Sl × Sl × Sl × Sl) (fun j => bpS s free left j.1 j.2.1 j.2.2.1 j.2.2.2.1 j.2.2.2.2)
      (fun pre j => BestP s free (left.map Prod.fst) pre (j.1.map Prod.fst) ∧ ∀ x, j.1 = some x → GoodP s free left x) (fun pre p post j e ⟨hI1, hI2⟩ => by
        obtain ⟨B, a, b, c, d⟩ := j
        have hc := (hP2 p).mp (by rw [e]; simp)
        have hlt2 := rest_lt (up_nodup hf) (up_nodup hc.pc.up) hc.pc.sub hc.cn.ne
        obtain ⟨k, r, left', h1, h2, h3, a', b', c', d', h4⟩ := best_step v hf hs hn hll hc (M := M_best_planN n) (fun left' g1 g2 => ihn (rest free p) left' (rest_up hf) (fun c hc => hs c (rest_mem.mp hc).1) g1 g2 (by omega)) B a b c d
        have hw : (left'.map Prod.fst).Perm ((left.map Prod.fst).erase (worth s p)) := by
          have g1 := h1.map Prod.fst
          rw [List.map_cons] at g1
          exact ((List.perm_cons (worth s p)).mp (g1.symm.trans (List.perm_cons_erase hc.wt)))
        refine ⟨(updR B r (inn p) k p, a', b', c', d'), h4, ?_, fun x hx => ?_⟩
        · show BestP s free (left.map Prod.fst) (pre ++ [p]) ((updR B r (inn p) k p).map Prod.fst)
          rw [updR_fst]
          exact bestP_step hI1 (isBest_perm hw h2)
        · have hx : updR B r (inn p) k p = some x := hx
          cases r with
          | none => exact hI2 x hx
          | some n =>
            have hgc := good_cons hf hc h1 (h3 n rfl)
            cases B with
            | none =>
              have hx : some (n.1 + (inn p : Int), (k, p) :: n.2) = some x := hx
              cases hx
              exact hgc
            | some m =>
              have hx : (if n.1 + (inn p : Int) > m.1 then some (n.1 + (inn p : Int), (k, p) :: n.2) else some m) = some x := hx
              split at hx
              · cases hx; exact hgc
              · exact hI2 x hx) (none, .un, .un, .un, .un) ⟨bestP_nil _ _ _, fun x hx => by cases hx⟩
    obtain ⟨⟨B, a, b, c, d⟩, e, hI1, hI2⟩ := key
    refine ⟨B, fun_rt ?_, bestP_all hf h0 hP2 hI1, hI2⟩
    refine (seq_nx ((if_f hc1).trans rfl)).trans ((seq_nx ((if_f hc2).trans rfl)).trans ?_)
    refine (seq_nx (ρ' := bpS s free left none .un .un .un .un) rfl).trans ?_
    refine (seq_nx (ρ' := bpS s free left B a b c d) ((sFor_ok (iA_list (ds := P.map eP) ((call_ok (ds := [eS s, eP free, eI (left.map Prod.fst)]) (cons_ok rfl (cons_ok rfl (cons_ok hlw rfl)))).trans hP1))).trans e)).trans ?_
    rfl
end Stm
set_option Elab.async false
set_option linter.all false
set_option maxRecDepth 100000
set_option maxHeartbeats 4000000
namespace Stm
open PySem PySem.Spec PyProof.Rows L2
/-! ### the law's own best plan -/
def eB : Option Int → PyData
  | none => .none
  | some m => .int m
noncomputable abbrev lbS (s : Sheet) (A : List (List Cell)) (free : List Cell) (ws : List Int) (B : Option Int) (a b c d e : Sl) : Rho := [.val (eS s), .val (eLP2 A), .val (eP free), .val (eI ws), .val (eB B), a, b, c, d, e, .un]
def lbC (s : Sheet) (free : List Cell) (ws : List Int) (p : List Cell) : Bool := decide (p.head? = free.head?) && (decide (worth s p ∈ ws) && decide (p.filter (fun c => !decide (c ∈ free)) = []))
theorem lbC_cand {s : Sheet} {K free : List Cell} {ws : List Int} {p : List Cell} (hf : free.Pairwise clt) (hne : free ≠ []) (hK : KOk K) (hs : ∀ c ∈ free, c ∈ K) : p ∈ (lawAll K).filter (lbC s free ws) ↔ Cand s free ws p := by
  rw [List.mem_filter, lawAll_mem hK]
  unfold lbC
  simp only [Bool.and_eq_true, decide_eq_true_eq]
  obtain ⟨c, f', e⟩ := List.exists_cons_of_ne_nil hne
  have hsub : p.filter (fun c => !decide (c ∈ free)) = [] ↔ ∀ d ∈ p, d ∈ free := by
    rw [List.filter_eq_nil_iff]
    simp
  constructor
  · rintro ⟨⟨h1, h2⟩, h3, h4, h5⟩
    refine ⟨⟨h1.up, hsub.mp h5⟩, h2, fun d hd => List.mem_of_head? (h3.trans hd), h4⟩
  · intro h
    refine ⟨⟨⟨h.pc.up, fun d hd => hs d (h.pc.sub d hd)⟩, h.cn⟩, ?_, h.wt, hsub.mpr h.pc.sub⟩
    obtain ⟨a, p', ep⟩ := List.exists_cons_of_ne_nil h.cn.ne
    have hcp := h.hd c (by rw [e]; rfl)
    have haf := h.pc.sub a (by rw [ep]; simp)
    rw [ep, e]
    have hup := h.pc.up
    rw [ep] at hup hcp
    rw [e] at haf hf
    have h1 : a = c ∨ clt a c := by
      rcases List.mem_cons.mp hcp with h1 | h1
      · exact .inl h1.symm
      · exact .inr ((List.pairwise_cons.mp hup).1 c h1)
    have h2 : a = c ∨ clt c a := by
      rcases List.mem_cons.mp haf with h2 | h2
      · exact .inl h2
      · exact .inr ((List.pairwise_cons.mp hf).1 a h2)
    rcases h1 with h1 | h1
    · rw [h1]; rfl
    · rcases h2 with h2 | h2
      · rw [h2]; rfl
      · exact absurd (clt_tr h1 h2) (clt_irr a)
theorem updB_case (B : Option Int) (o : Option Int) (i : Int) : updB B o i = match o with
    | none => B
    | some n => match B with
      | none => some (n + i)
      | some m => if n + i > m then some (n + i) else some m := rfl
theorem law_best_step {s : Sheet} (v : Valid s) {free : List Cell} {ws : List Int} (hf : free.Pairwise clt) (hs : ∀ c ∈ free, c ∈ cellsOf s) (hne : free ≠ []) (hwl : ws.length ≤ 1000) {p : List Cell} (hp : p ∈ lawAll (cellsOf s)) {M : DM}
    (ih : Cand s free ws p → ∃ o, M [eS s, eLP2 (lawAll (cellsOf s)), eP (rest free p), eI (ws.erase (worth s p))] = .ok (eB o) ∧ IsBest s (rest free p) (ws.erase (worth s p)) o) (B : Option Int) (a b c d e : Sl) :
    ∃ B', (lbC s free ws p = false → B' = B) ∧ (lbC s free ws p = true → ∃ o, IsBest s (rest free p) (ws.erase (worth s p)) o ∧ B' = updB B o (inn p)) ∧
      ∃ a' b' c' d' e', turn1 (gN 5) (sSeq (sSet 6 (mCall M_law_worth (mCons (mVar 0) (mCons (mVar 5) mNil)))) (sIf (mAnd (mB (m2 dEq (m2 dIx (mVar 5) (mC (.int 0))) (m2 dIx (mVar 2) (mC (.int 0))))) (mAnd (mB (m2 dIn (mVar 6) (mVar 3))) (mB (m2 dEq (mLc [10] (iA (mVar 5)) (gN 10) (mB (m2 dNotIn (mVar 10) (mVar 2))) (mVar 10)) (mLst mNil))))) (sSeq (sOwnC 7 (mVar 3)) (sSeq (sRem 7 (mVar 6)) (sSeq (sFrz 7) (sSeq (sSet 8 (mCB dToTup (mCons (mLc [10] (iA (mVar 2)) (gN 10) (mB (m2 dNotIn (mVar 10) (mVar 5))) (mVar 10)) mNil))) (sSeq (sSet 9 (mCall M (mCons (mVar 0) (mCons (mVar 1) (mCons (mVar 8) (mCons (mVar 7) mNil)))))) (sIf (mAnd (mB (m2 dIsNotN (mVar 9) (mC .none))) (mOr (mB (m2 dIsN (mVar 4) (mC .none))) (mB (m2 dGt (m2 dAdd (mVar 9) (mCall M_law_inner (mCons (mVar 5) mNil))) (mVar 4))))) (sSet 4 (m2 dAdd (mVar 9) (mCall M_law_inner (mCons (mVar 5) mNil)))) sNil)))))) sNil)) (eP p) (lbS s (lawAll (cellsOf s)) free ws B a b c d e) = .nx (lbS s (lawAll (cellsOf s)) free ws B' a' b' c' d' e') := by
  have hK := v.kok
  have hk12 : free.length ≤ 12 := Nat.le_trans ((up_nodup hf).length_le_of_subset hs) hK.len
  obtain ⟨hp1, hp2⟩ := (lawAll_mem hK).mp hp
  have hpl : p.length ≤ 12 := hp1.len hK
  have hcand := lbC_cand (s := s) (ws := ws) (p := p) hf hne hK hs
  rw [List.mem_filter] at hcand
  generalize hA : lawAll (cellsOf s) = A at *
  have hwp : M_law_worth [eS s, eP p] = .ok (.int (worth s p)) := law_worth_ok hp1.sub (by omega)
  have hinn : M_law_inner [eP p] = .ok (.int (inn p : Int)) := law_inner_ok (by omega)
  obtain ⟨x, p', ep⟩ := List.exists_cons_of_ne_nil hp2.ne
  obtain ⟨y, f', ef⟩ := List.exists_cons_of_ne_nil hne
  unfold turn1
  have ht : gN 5 (eP p) (lbS s A free ws B a b c d e) = some (lbS s A free ws B (.val (eP p)) b c d e) := rfl
  rw [ht]
  simp only
  have h6 : (sSet 6 (mCall M_law_worth (mCons (mVar 0) (mCons (mVar 5) mNil)))) (lbS s A free ws B (.val (eP p)) b c d e) = .nx (lbS s A free ws B (.val (eP p)) (.val (.int (worth s p))) c d e) := (set_ok ((call_ok (ds := [eS s, eP p]) rfl).trans hwp)).trans rfl
  have hcond : (mAnd (mB (m2 dEq (m2 dIx (mVar 5) (mC (.int 0))) (m2 dIx (mVar 2) (mC (.int 0))))) (mAnd (mB (m2 dIn (mVar 6) (mVar 3))) (mB (m2 dEq (mLc [10] (iA (mVar 5)) (gN 10) (mB (m2 dNotIn (mVar 10) (mVar 2))) (mVar 10)) (mLst mNil))))) (lbS s A free ws B (.val (eP p)) (.val (.int (worth s p))) c d e) = .ok (lbC s free ws p) := by
    have hhd : decide (p.head? = free.head?) = decide (x = y) := by
      rw [decide_eq_decide, ep, ef]; simp
    unfold lbC
    rw [hhd]
    refine t_and (t_b (m2_ok (x := eC x) (y := eC y) (m2_ok rfl rfl (dIx_natT (j := 0) (by rw [ep]; rfl))) (m2_ok rfl rfl (dIx_natT (j := 0) (by rw [ef]; rfl))) (encC.dEq (by decide) _ _))) (t_and (t_b (m2_ok (x := .int (worth s p)) (y := eI ws) rfl rfl (Enc.int.dIn (by decide) _ _))) (t_b (m2_ok (x := eL (p.filter fun c => !decide (c ∈ free))) (y := eL []) ?_ rfl (encL.dEq (by decide) _ _))))
    have hlc := lc_map (enc := eC) (t := gN 10) (mt := (mB (m2 dNotIn (mVar 10) (mVar 2)))) (me := mVar 10) (ρ := lbS s A free ws B (.val (eP p)) (.val (.int (worth s p))) c d e) (fun z => !decide (z ∈ free)) eC p
      (fun z hz => ⟨[.val (eS s), .val (eLP2 A), .val (eP free), .val (eI ws), .val (eB B), .val (eP p), .val (.int (worth s p)), c, d, e, .val (eC z)], rfl, t_b (m2_ok rfl rfl (cNotInT z free)), fun _ => rfl⟩)
    exact mLc_ok (iA_tuple (ds := p.map eC) rfl) (by rw [List.length_map]; exact lim100 (by omega)) hlc
  cases hlb : lbC s free ws p with
  | false =>
    rw [hlb] at hcond
    exact ⟨B, fun _ => rfl, (fun h => by cases h), .val (eP p), .val (.int (worth s p)), c, d, e, (seq_nx h6).trans ((if_f hcond).trans rfl)⟩
  | true =>
    rw [hlb] at hcond
    have hc := hcand.mp ⟨hp, hlb⟩
    obtain ⟨o, ho1, ho2⟩ := ih hc
    refine ⟨updB B o (inn p), (fun h => by cases h), fun _ => ⟨o, ho2, rfl⟩, .val (eP p), .val (.int (worth s p)), .val (eI (ws.erase (worth s p))), .val (eP (rest free p)), .val (eB o), ?_⟩
    refine (seq_nx h6).trans ((if_t hcond).trans ?_)
    refine (seq_nx (ρ' := lbS s A free ws B (.val (eP p)) (.val (.int (worth s p))) (.own (ws.map .int)) d e) rfl).trans ?_
    refine (seq_nx (ρ' := lbS s A free ws B (.val (eP p)) (.val (.int (worth s p))) (.own ((ws.erase (worth s p)).map .int)) d e) ?_).trans ?_
    · show (match PyData.int (worth s p), intsOf (ws.map PyData.int) with
        | .int k, some ns => if k ∈ ns then SRes.nx ((lbS s A free ws B (.val (eP p)) (.val (.int (worth s p))) (.own (ws.map .int)) d e).set 7 (.own ((ns.erase k).map .int))) else .stuck
        | _, _ => .stuck) = _
      rw [intsOf_map]
      show (if worth s p ∈ ws then SRes.nx ((lbS s A free ws B (.val (eP p)) (.val (.int (worth s p))) (.own (ws.map .int)) d e).set 7 (.own ((ws.erase (worth s p)).map .int))) else .stuck) = _
      rw [if_pos hc.wt]; rfl
    refine (seq_nx (ρ' := lbS s A free ws B (.val (eP p)) (.val (.int (worth s p))) (.val (eI (ws.erase (worth s p)))) d e) rfl).trans ?_
    have hlc2 := lc_map (enc := eC) (t := gN 10) (mt := (mB (m2 dNotIn (mVar 10) (mVar 5)))) (me := mVar 10) (ρ := lbS s A free ws B (.val (eP p)) (.val (.int (worth s p))) (.val (eI (ws.erase (worth s p)))) d e) (fun z => !decide (z ∈ p)) eC free
      (fun z hz => ⟨[.val (eS s), .val (eLP2 A), .val (eP free), .val (eI ws), .val (eB B), .val (eP p), .val (.int (worth s p)), .val (eI (ws.erase (worth s p))), d, e, .val (eC z)], rfl, t_b (m2_ok rfl rfl (cNotInT z p)), fun _ => rfl⟩)
    refine (seq_nx (ρ' := lbS s A free ws B (.val (eP p)) (.val (.int (worth s p))) (.val (eI (ws.erase (worth s p)))) (.val (eP (rest free p))) e) ((set_ok (d := eP (rest free p)) ((cb_ok (ds := [eL (rest free p)]) (cons_ok (mLc_ok (iA_tuple (ds := free.map eC) rfl) (by rw [List.length_map]; exact lim100 (by omega)) hlc2) rfl)).trans rfl)).trans rfl)).trans ?_
    refine (seq_nx (ρ' := lbS s A free ws B (.val (eP p)) (.val (.int (worth s p))) (.val (eI (ws.erase (worth s p)))) (.val (eP (rest free p))) (.val (eB o))) ((set_ok ((call_ok (ds := [eS s, eLP2 A, eP (rest free p), eI (ws.erase (worth s p))]) rfl).trans ho1)).trans rfl)).trans ?_
    cases o with
    | none => exact (if_f (and_shortf (t_b rfl))).trans rfl
    | some n =>
      have hadd : (m2 dAdd (mVar 9) (mCall M_law_inner (mCons (mVar 5) mNil))) (lbS s A free ws B (.val (eP p)) (.val (.int (worth s p))) (.val (eI (ws.erase (worth s p)))) (.val (eP (rest free p))) (.val (eB (some n)))) = .ok (.int (n + inn p)) :=
        m2_ok (x := .int n) (y := .int (inn p : Int)) rfl ((call_ok (ds := [eP p]) rfl).trans hinn) rfl
      cases B with
      | none => exact (if_t (and_t (t_b rfl) (or_short (t_b rfl)))).trans ((set_ok hadd).trans rfl)
      | some m =>
        have hcond2 : (mAnd (mB (m2 dIsNotN (mVar 9) (mC .none))) (mOr (mB (m2 dIsN (mVar 4) (mC .none))) (mB (m2 dGt (m2 dAdd (mVar 9) (mCall M_law_inner (mCons (mVar 5) mNil))) (mVar 4))))) (lbS s A free ws (some m) (.val (eP p)) (.val (.int (worth s p))) (.val (eI (ws.erase (worth s p)))) (.val (eP (rest free p))) (.val (eB (some n)))) = .ok (decide (m < n + inn p)) :=
          and_t (t_b rfl) (t_orr (t_b rfl) (t_b (m2_ok (x := .int (n + inn p)) (y := .int m) hadd rfl rfl)))
        rw [updB_case]
        simp only
        by_cases hgt : n + (inn p : Int) > m
        · rw [decide_eq_true hgt] at hcond2
          rw [if_pos hgt]
          exact (if_t hcond2).trans ((set_ok hadd).trans rfl)
        · rw [decide_eq_false hgt] at hcond2
          rw [if_neg hgt]
          exact (if_f hcond2).trans rfl
theorem law_best_ok {s : Sheet} (v : Valid s) : ∀ (n : Nat) (free : List Cell) (ws : List Int), free.Pairwise clt → (∀ c ∈ free, c ∈ cellsOf s) → ws.length ≤ 1000 → free.length < n →
    ∃ o, M_law_bestN n [eS s, eLP2 (lawAll (cellsOf s)), eP free, eI ws] = .ok (eB o) ∧ IsBest s free ws o
  | 0, _, _, _, _, _, h => absurd h (Nat.not_lt_zero _)
  | n + 1, free, ws, hf, hs, hwl, hlt => by
    have ihn := law_best_ok v n
    have hal := lawAll_len v.kok
    show ∃ o, M_law_bestF (M_law_bestN n) [eS s, eLP2 (lawAll (cellsOf s)), eP free, eI ws] = .ok (eB o) ∧ _
    have hc1 : (mB (m2 dEq (mVar 2) (mTup mNil))) [.val (eS s), .val (eLP2 (lawAll (cellsOf s))), .val (eP free), .val (eI ws), .un, .un, .un, .un, .un, .un, .un] = .ok (decide (free = [])) := t_b (m2_ok (x := eP free) (y := eP []) rfl rfl (encP.dEq (by decide) _ _))
    by_cases h0 : free = []
    · subst h0
      rw [decide_eq_true rfl] at hc1
      refine ⟨if ws = [] then some 0 else none, fun_rt (seq_rt ((if_t hc1).trans (ret_ok ?_))), isBest_nil s ws⟩
      refine m2_ok (x := .list [.int 0, .none]) (y := .int (if (!decide (ws = [])) = true then 1 else 0)) rfl ((cb_ok (ds := [.bool (!decide (ws = []))]) (cons_ok (m2_ok (x := eI ws) (y := eI []) rfl rfl (encI.dNe (by decide) _ _)) rfl)).trans rfl) ?_
      by_cases hl : ws = []
      · rw [decide_eq_true hl, if_pos hl]; rfl
      · rw [decide_eq_false hl, if_neg hl]; rfl
    rw [decide_eq_false h0] at hc1
    have key := for_inv (enc := eP) (t := gN 5) (mb := (sSeq (sSet 6 (mCall M_law_worth (mCons (mVar 0) (mCons (mVar 5) mNil)))) (sIf (mAnd (mB (m2 dEq (m2 dIx (mVar 5) (mC (.int 0))) (m2 dIx (mVar 2) (mC (.int 0))))) (mAnd (mB (m2 dIn (mVar 6) (mVar 3))) (mB (m2 dEq (mLc [10] (iA (mVar 5)) (gN 10) (mB (m2 dNotIn (mVar 10) (mVar 2))) (mVar 10)) (mLst mNil))))) (sSeq (sOwnC 7 (mVar 3)) (sSeq (sRem 7 (mVar 6)) (sSeq (sFrz 7) (sSeq (sSet 8 (mCB dToTup (mCons (mLc [10] (iA (mVar 2)) (gN 10) (mB (m2 dNotIn (mVar 10) (mVar 5))) (mVar 10)) mNil))) (sSeq (sSet 9 (mCall (M_law_bestN n) (mCons (mVar 0) (mCons (mVar 1) (mCons (mVar 8) (mCons (mVar 7) mNil)))))) (sIf (mAnd (mB (m2 dIsNotN (mVar 9) (mC .none))) (mOr (mB (m2 dIsN (mVar 4) (mC .none))) (mB (m2 dGt (m2 dAdd (mVar 9) (mCall M_law_inner (mCons (mVar 5) mNil))) (mVar 4))))) (sSet 4 (m2 dAdd (mVar 9) (mCall M_law_inner (mCons (mVar 5) mNil)))) sNil)))))) sNil)))
      (xs := lawAll (cellsOf s)) (J := Option Int × Sl × Sl × Sl × Sl × Sl) (fun j => lbS s (lawAll (cellsOf s)) free ws j.1 j.2.1 j.2.2.1 j.2.2.2.1 j.2.2.2.2.1 j.2.2.2.2.2)
      (fun pre j => BestP s free ws (pre.filter (lbC s free ws)) j.1) (fun pre p post j e hI => by
        obtain ⟨B, a, b, c, d, e2⟩ := j
        have hp : p ∈ lawAll (cellsOf s) := by rw [e]; simp
        obtain ⟨B', g1, g2, a', b', c', d', e', g3⟩ := law_best_step v hf hs h0 hwl hp (M := M_law_bestN n) (fun hc => by
          have hlt2 := rest_lt (up_nodup hf) (up_nodup hc.pc.up) hc.pc.sub hc.cn.ne
          exact ihn (rest free p) (ws.erase (worth s p)) (rest_up hf) (fun c hc => hs c (rest_mem.mp hc).1) (Nat.le_trans (List.length_erase_le) hwl) (by omega)) B a b c d e2
        refine ⟨(B', a', b', c', d', e'), g3, ?_⟩
        show BestP s free ws ((pre ++ [p]).filter (lbC s free ws)) B'
        rw [List.filter_append]
        cases hlb : lbC s free ws p with
        | false =>
          rw [List.filter_cons_of_neg (by rw [hlb]; exact Bool.false_ne_true), g1 hlb]
          simpa using hI
        | true =>
          obtain ⟨o, ho, eB'⟩ := g2 hlb
          rw [List.filter_cons_of_pos hlb, eB']
          exact bestP_step hI ho) (none, .un, .un, .un, .un, .un) (bestP_nil _ _ _)
    obtain ⟨⟨B, a, b, c, d, e2⟩, e, hI⟩ := key
    refine ⟨B, fun_rt ?_, bestP_all hf h0 (fun p => lbC_cand hf h0 v.kok hs) hI⟩
    refine (seq_nx ((if_f hc1).trans rfl)).trans ?_
    refine (seq_nx (ρ' := lbS s (lawAll (cellsOf s)) free ws none .un .un .un .un .un) rfl).trans ?_
    refine (seq_nx (ρ' := lbS s (lawAll (cellsOf s)) free ws B a b c d e2) ((sFor_ok (iA_list (ds := (lawAll (cellsOf s)).map eP) rfl)).trans e)).trans ?_
    rfl

/-! ### plan_for -/
def enumW (ws : List Int) : List Cell := ((List.range ws.length).zip ws).map fun x => (x.2, (x.1 : Int))
theorem enumW_fst (ws : List Int) : (enumW ws).map Prod.fst = ws := by
  unfold enumW
  rw [List.map_map]
  show ((List.range ws.length).zip ws).map Prod.snd = ws
  exact List.map_snd_zip (by rw [List.length_range]; exact Nat.le_refl _)
theorem enumW_snd (ws : List Int) : (enumW ws).map Prod.snd = (List.range ws.length).map fun (i : Nat) => (i : Int) := by
  unfold enumW
  rw [List.map_map]
  have h : ((List.range ws.length).zip ws).map Prod.fst = List.range ws.length := List.map_fst_zip (by rw [List.length_range]; exact Nat.le_refl _)
  have h2 := congrArg (List.map fun (i : Nat) => (i : Int)) h
  rw [List.map_map] at h2
  exact h2
theorem range_lt (n : Nat) : ((List.range n).map fun (i : Nat) => (i : Int)).Pairwise (· < ·) := by
  rw [List.pairwise_map]
  exact List.pairwise_lt_range.imp fun h => by omega
theorem enumW_up (ws : List Int) : (enumW ws).Pairwise fun a b => a.2 < b.2 := by
  have := range_lt ws.length
  rw [← enumW_snd, List.pairwise_map] at this
  exact this
theorem enumW_nodup (ws : List Int) : (enumW ws).Nodup := (enumW_up ws).imp fun h e => by rw [e] at h; omega
theorem enumW_len (ws : List Int) : (enumW ws).length = ws.length := by
  have := congrArg List.length (enumW_fst ws)
  rwa [List.length_map] at this
theorem dSum_ok (ws : List Int) : dSum [eI ws] = .ok (.int ws.sum) := by
  unfold dSum eI
  simp only [intsOf_map]
theorem plan_for_ok {s : Sheet} (v : Valid s) {ws : List Int} (hwl : ws.length ≤ 1000) : ∃ r, M_plan_for [eS s, eI ws] = .ok (eR r) ∧ ((ws.sum ≠ worth s (cellsOf s) → r = none)) ∧ (ws.sum = worth s (cellsOf s) → IsBest s (cellsOf s) ws (r.map Prod.fst)) ∧ ∀ x, r = some x → GoodP s (cellsOf s) (enumW ws) x := by
  have hK := v.kok
  have hk12 := hK.len
  have hcells := cells_ok v.fit
  have hbest := best_plan_ok v 13 (cellsOf s) (enumW ws) hK.up (fun c hc => hc) (enumW_nodup ws) (by rw [enumW_len]; exact hwl) (by omega)
  rw [enumW_fst] at hbest
  have hsum : M_sum_of [eS s, eP (cellsOf s)] = .ok (.int (worth s (cellsOf s))) := sum_of_ok (fun c hc => hc) (by omega)
  generalize hKK : cellsOf s = K at *
  have h1 : (sSet 2 (mCB dToTup (mCons (mCall M_cells_of (mCons (mVar 0) mNil)) mNil))) [.val (eS s), .val (eI ws), .un, .un, .un] = .nx [.val (eS s), .val (eI ws), .val (eP K), .un, .un] := (set_ok (d := eP K) ((cb_ok (ds := [eL K]) (cons_ok ((call_ok (ds := [eS s]) rfl).trans hcells) rfl)).trans rfl)).trans rfl
  have hcond : (mOr (mB (m2 dNe (mCB dSum (mCons (mVar 1) mNil)) (mCall M_sum_of (mCons (mVar 0) (mCons (mVar 2) mNil))))) (mB (m2 dGt (mCB dLen (mCons (mVar 1) mNil)) (mCB dLen (mCons (mVar 2) mNil))))) [.val (eS s), .val (eI ws), .val (eP K), .un, .un] = .ok (!decide (ws.sum = worth s K) || decide ((K.length : Int) < (ws.length : Int))) := by
    refine t_or (t_b (m2_ok (x := .int ws.sum) (y := .int (worth s K)) ((cb_ok (ds := [eI ws]) rfl).trans (dSum_ok ws)) ((call_ok (ds := [eS s, eP K]) rfl).trans hsum) (Enc.int.dNe (by decide) _ _))) (t_b (m2_ok (x := .int (ws.length : Int)) (y := .int (K.length : Int)) (len_list (enc := PyData.int) (xs := ws) rfl) (len_piece rfl) rfl))
  by_cases hq : (!decide (ws.sum = worth s K) || decide ((K.length : Int) < (ws.length : Int))) = true
  · rw [hq] at hcond
    refine ⟨none, fun_rt ((seq_nx h1).trans (seq_rt ((if_t hcond).trans rfl))), fun _ => rfl, fun he pl hp => ?_, fun x hx => by cases hx⟩
    rw [decide_eq_true he, Bool.not_true, Bool.false_or, decide_eq_true_eq] at hq
    have := plan_len hp
    omega
  · rw [Bool.not_eq_true] at hq
    rw [hq] at hcond
    obtain ⟨r, hr1, hr2, hr3⟩ := hbest
    have hlc := lc_all (enc := eEn PyData.int) (t := gN2 3 4) (me := (mTup (mCons (mVar 4) (mCons (mVar 3) mNil)))) (ρ := [.val (eS s), .val (eI ws), .val (eP K), .un, .un]) (fun x => eC (x.2, (x.1 : Int))) ((List.range ws.length).zip ws) (fun x hx => ⟨[.val (eS s), .val (eI ws), .val (eP K), .val (.int (x.1 : Int)), .val (.int x.2)], rfl, rfl⟩)
    have hlst : (mLc [3, 4] (iEn (mCons (mVar 1) mNil)) (gN2 3 4) mYes (mTup (mCons (mVar 4) (mCons (mVar 3) mNil)))) [.val (eS s), .val (eI ws), .val (eP K), .un, .un] = .ok (eL (enumW ws)) := by
      refine (mLc_ok (iEn_ok (enc := PyData.int) (xs := ws) rfl) (by rw [List.length_map, List.length_zip, List.length_range]; exact Nat.le_trans (show min ws.length ws.length ≤ 1000 by omega) (by decide)) hlc).trans ?_
      unfold eL enumW
      rw [List.map_map]; rfl
    refine ⟨r, fun_rt ((seq_nx h1).trans ((seq_nx ((if_f hcond).trans rfl)).trans (ret_ok ((call_ok (ds := [eS s, eP K, eL (enumW ws)]) (cons_ok rfl (cons_ok rfl (cons_ok hlst rfl)))).trans hr1)))), fun he => ?_, fun _ => hr2, hr3⟩
    rw [Bool.or_eq_false_iff, Bool.not_eq_false', decide_eq_true_eq] at hq
    exact absurd hq.1 he

/-! ### told -/
theorem alike_Q (a b : Int × List Cell) : PySem.W.alike (eQ a) (eQ b) = true := by
  have := alike_piece a.2 b.2
  unfold eQ
  simp [PySem.W.alike, PySem.W.alikeAll, this]
theorem toks_Q (a : Int × List Cell) : PySem.W.keyToks (eQ a) = .inl 1 :: .inl a.1 :: .inl 1 :: (PySem.W.keyToks (eP a.2) ++ [.inl 0]) := by
  unfold eQ
  simp only [PySem.W.keyToks, PySem.W.keyToksAll, List.cons_append, List.nil_append]
theorem dle_Q {a b : Int × List Cell} (h : dle (eQ a) (eQ b) = true) : a.1 ≤ b.1 := by
  refine Classical.byContradiction fun hn => ?_
  rw [dle_lex, toks_Q, toks_Q, lex_self (O := itemOrd), lex_diff (O := itemOrd) (by intro e; injection e with e; omega), blt_int, decide_eq_true (by omega)] at h
  cases h
theorem told_none : M_told [.none] = .ok .none := rfl
theorem told_ok {s : Sheet} {free : List Cell} {ws : List Int} (hwl : ws.length ≤ 1000) {x : Int × Pln} (g : GoodP s free (enumW ws) x) : ∃ pl : List (List Cell), M_told [eR (some x)] = .ok (eLP2 pl) ∧ pl.map (worth s) = ws ∧ pl.Perm (x.2.map Prod.snd) := by
  have hl : x.2.length ≤ LIM := by
    have := g.left.length_eq
    rw [List.length_map, enumW_len] at this
    rw [this]
    exact Nat.le_trans hwl (by decide)
  have hsrt := (sorted_enc (enc := eQ) alike_Q (.inl fun c => by unfold eQ tupB; rfl) (fun c => by
    have := encP.dp c.2
    unfold eQ
    simp only [PyData.depth, PyData.depthAll]
    omega) x.2 hl).1
  generalize hS : (x.2.mergeSort fun a b => dle (eQ a) (eQ b)) = S at *
  have hSp : S.Perm x.2 := by rw [← hS]; exact List.mergeSort_perm _ _
  have hSs : S.Pairwise fun a b => dle (eQ a) (eQ b) = true := by rw [← hS]; exact PySem.W.sort_pairwise (tot_of eQ) x.2
  have hmp : (S.map fun y => (worth s y.2, y.1)).Perm (enumW ws) := (hSp.map _).trans g.left
  have heq : (S.map fun y => (worth s y.2, y.1)) = enumW ws := by
    have h1 : (S.map fun y => (worth s y.2, y.1)).Pairwise fun a b => a.2 ≤ b.2 := by
      rw [List.pairwise_map]
      exact hSs.imp fun h => dle_Q h
    have h2 := enumW_up ws
    have hinj : ∀ a ∈ enumW ws, ∀ b ∈ enumW ws, a.2 = b.2 → a = b := by
      intro a ha b hb e
      obtain ⟨i, hi, rfl⟩ := List.mem_iff_getElem.mp ha
      obtain ⟨j, hj, rfl⟩ := List.mem_iff_getElem.mp hb
      rcases Nat.lt_trichotomy i j with h | h | h
      · have := List.pairwise_iff_getElem.mp h2 i j hi hj h; omega
      · subst h; rfl
      · have := List.pairwise_iff_getElem.mp h2 j i hj hi h; omega
    refine List.Perm.eq_of_pairwise (le := fun a b => a.2 ≤ b.2) (fun a b ha hb h3 h4 => ?_) h1 (h2.imp fun h => by omega) hmp
    exact hinj a (hmp.mem_iff.mp ha) b hb (by omega)
  refine ⟨S.map Prod.snd, ?_, ?_, hSp.map _⟩
  · have hlc := lc_all (enc := eQ) (t := gN2 1 2) (me := mVar 2) (ρ := [.val (eR (some x)), .un, .un]) (fun y => eP y.2) S (fun y hy => ⟨[.val (eR (some x)), .val (.int y.1), .val (eP y.2)], rfl, rfl⟩)
    refine fun_rt ((seq_nx ((if_f (t_b rfl)).trans rfl)).trans (ret_ok ((mLc_ok (iA_list (ds := S.map eQ) ((cb_ok (ds := [.list (x.2.map eQ)]) rfl).trans hsrt)) ?_ hlc).trans ?_)))
    · rw [List.length_map, hSp.length_eq]; exact hl
    · unfold eLP2
      rw [List.map_map]; rfl
  · have := congrArg (List.map Prod.fst) heq
    rw [enumW_fst, List.map_map] at this
    rw [List.map_map]
    exact this
end Stm
set_option Elab.async false
set_option linter.all false
set_option maxRecDepth 100000
set_option maxHeartbeats 4000000
namespace Stm
open PySem PySem.Spec PyProof.Rows L2
/-! ### torn, fair -/
theorem told_plan {s : Sheet} {K : List Cell} {ws : List Int} {x : Int × Pln} {pl : List (List Cell)} (g : GoodP s K (enumW ws) x) (hp : pl.Perm (x.2.map Prod.snd)) : PlanOf s K ws pl ∧ tot pl = x.1 := by
  have h := g.plan
  rw [enumW_fst] at h
  refine ⟨⟨hp.flatten.trans h.perm, fun p hq => h.pc p (hp.mem_iff.mp hq), (hp.map _).trans h.wts⟩, ?_⟩
  rw [← g.tot]
  exact perm_sum (hp.map _)
theorem plan_piece {s : Sheet} {K : List Cell} {ws : List Int} {pl : List (List Cell)} (h : PlanOf s K ws pl) {p : List Cell} (hp : p ∈ pl) : Pc K p ∧ Conn p := by
  obtain ⟨h1, h2⟩ := h.pc p hp
  exact ⟨⟨h1, fun c hc => h.perm.mem_iff.mp (List.mem_flatten.mpr ⟨p, hp, hc⟩)⟩, h2⟩
/-- what a plan for wants comes to -/
theorem planned {s : Sheet} (v : Valid s) {ws : List Int} (hwl : ws.length ≤ 1000) : ∃ q d, M_plan_for [eS s, eI ws] = .ok q ∧ M_told [q] = .ok d ∧
    ((d = .none ∧ (ws.sum = worth s (cellsOf s) → ∀ pl, ¬ PlanOf s (cellsOf s) ws pl)) ∨ ∃ pl, d = eLP2 pl ∧ PlanOf s (cellsOf s) ws pl ∧ pl.map (worth s) = ws ∧ ∃ m, IsBest s (cellsOf s) ws (some m) ∧ tot pl = m) := by
  obtain ⟨r, h1, h2, h3, h4⟩ := plan_for_ok v hwl
  cases r with
  | none => exact ⟨eR none, .none, h1, told_none, .inl ⟨rfl, fun he => h3 he⟩⟩
  | some x =>
    obtain ⟨pl, g1, g2, g3⟩ := told_ok hwl (h4 x rfl)
    obtain ⟨g4, g5⟩ := told_plan (h4 x rfl) g3
    have hs : ws.sum = worth s (cellsOf s) := by
      refine Classical.byContradiction fun hn => ?_
      have := h2 hn
      cases this
    refine ⟨eR (some x), eLP2 pl, h1, g1, .inr ⟨pl, rfl, g4, g2, x.1, h3 hs, g5⟩⟩
theorem sum_rep (n : Nat) (x : Int) : (List.replicate n x).sum = x * (n : Int) := by
  induction n with
  | zero => simp
  | succ n ih =>
    rw [List.replicate_succ, List.sum_cons, ih]
    have : ((n + 1 : Nat) : Int) = (n : Int) + 1 := by omega
    rw [this, Int.mul_add, Int.mul_one]; omega
theorem fair_ok {s : Sheet} (v : Valid s) {n : Nat} (h1 : 1 ≤ n) (h2 : n ≤ 12) : ∃ d, M_fair [eS s, .int (n : Int)] = .ok d ∧
    ((d = .none ∧ (worth s (cellsOf s) / (n : Int) * (n : Int) = worth s (cellsOf s) → ∀ pl, ¬ PlanOf s (cellsOf s) (List.replicate n (worth s (cellsOf s) / (n : Int))) pl)) ∨
      ∃ pl, d = eLP2 pl ∧ PlanOf s (cellsOf s) (List.replicate n (worth s (cellsOf s) / (n : Int))) pl ∧ pl.map (worth s) = List.replicate n (worth s (cellsOf s) / (n : Int)) ∧ worth s (cellsOf s) / (n : Int) * (n : Int) = worth s (cellsOf s)) := by
  have hK := v.kok
  have hk12 := hK.len
  have hsum : M_sum_of [eS s, eL (cellsOf s)] = .ok (.int (worth s (cellsOf s))) := by
    refine fun_rt (ret_ok ((sum_ok (enc := eC) (val s) (cellsOf s) (iA_list rfl) (lim100 (by omega)) (fun c hc => ?_)).trans rfl))
    obtain ⟨r, g1, g2⟩ := val_ix hc
    exact ⟨[.val (eS s), .val (eL (cellsOf s)), .val (.int c.1), .val (.int c.2)], rfl, m2_ok (m2_ok (x := eS s) (y := .int c.1) rfl rfl g1) (y := .int c.2) rfl g2⟩
  have hcells := cells_ok v.fit
  have hpl := planned v (ws := List.replicate n (worth s (cellsOf s) / (n : Int))) (by rw [List.length_replicate]; omega)
  rw [sum_rep] at hpl
  generalize hW : worth s (cellsOf s) = W at *
  have e1 : (sExpr (mCall M_checked (mCons (mVar 0) mNil))) [.val (eS s), .val (.int (n : Int)), .un] = .nx [.val (eS s), .val (.int (n : Int)), .un] := expr_ok ((call_ok (ds := [eS s]) rfl).trans (checked_ok v))
  have e2 : (sExpr (mCall M_need_number (mCons (mVar 1) (mCons (mC (.int 12)) mNil)))) [.val (eS s), .val (.int (n : Int)), .un] = .nx [.val (eS s), .val (.int (n : Int)), .un] := expr_ok ((call_ok (ds := [.int (n : Int), .int 12]) rfl).trans (need_number_ok _ _ (by omega) (by omega)))
  have e3 : (sSet 2 (mCall M_sum_of (mCons (mVar 0) (mCons (mCall M_cells_of (mCons (mVar 0) mNil)) mNil)))) [.val (eS s), .val (.int (n : Int)), .un] = .nx [.val (eS s), .val (.int (n : Int)), .val (.int W)] := (set_ok ((call_ok (ds := [eS s, eL (cellsOf s)]) (cons_ok rfl (cons_ok ((call_ok (ds := [eS s]) rfl).trans hcells) rfl))).trans hsum)).trans rfl
  have hcond : (mB (m2 dGt (m2 dMod (mVar 2) (mVar 1)) (mC (.int 0)))) [.val (eS s), .val (.int (n : Int)), .val (.int W)] = .ok (decide (0 < W % (n : Int))) := t_b (m2_ok (x := .int (W % (n : Int))) (y := .int 0) (m2_ok rfl rfl (mod_pos (by omega))) rfl rfl)
  have hdm := Int.mul_ediv_add_emod W (n : Int)
  have hml : W / (n : Int) * (n : Int) = (n : Int) * (W / (n : Int)) := Int.mul_comm _ _
  by_cases hm : 0 < W % (n : Int)
  · rw [decide_eq_true hm] at hcond
    refine ⟨.none, fun_rt ((seq_nx e1).trans ((seq_nx e2).trans ((seq_nx e3).trans (seq_rt ((if_t hcond).trans rfl))))), .inl ⟨rfl, fun he => ?_⟩⟩
    exfalso
    omega
  · rw [decide_eq_false hm] at hcond
    have hnn : 0 ≤ W % (n : Int) := Int.emod_nonneg _ (by omega)
    have heq : W / (n : Int) * (n : Int) = W := by omega
    obtain ⟨q, d, hq1, hd, hd2⟩ := hpl
    refine ⟨d, fun_rt ((seq_nx e1).trans ((seq_nx e2).trans ((seq_nx e3).trans ((seq_nx ((if_f hcond).trans rfl)).trans (ret_ok ?_))))), ?_⟩
    · have hrep : (mRepL (m2 dFdiv (mVar 2) (mVar 1)) (mVar 1)) [.val (eS s), .val (.int (n : Int)), .val (.int W)] = .ok (eI (List.replicate n (W / (n : Int)))) := by
        have hq : (m2 dFdiv (mVar 2) (mVar 1)) [.val (eS s), .val (.int (n : Int)), .val (.int W)] = .ok (.int (W / (n : Int))) := m2_ok rfl rfl (fdiv_pos (by omega) (by omega))
        unfold mRepL
        rw [hq]
        show (if 0 ≤ (n : Int) ∧ (n : Int) ≤ (LIM : Int) then Res.ok (PyData.list (List.replicate (n : Int).toNat (.int (W / (n : Int))))) else .stuck) = _
        rw [if_pos ⟨by omega, by have : (LIM : Int) = 100000 := rfl; omega⟩, Int.toNat_natCast]
        unfold eI
        rw [List.map_replicate]
      exact (call_ok (ds := [q]) (cons_ok ((call_ok (ds := [eS s, eI (List.replicate n (W / (n : Int)))]) (cons_ok rfl (cons_ok hrep rfl))).trans hq1) rfl)).trans hd
    · rcases hd2 with ⟨g1, g2⟩ | ⟨pl, g1, g2, g3, _⟩
      · exact .inl ⟨g1, g2⟩
      · exact .inr ⟨pl, g1, g2, g3, heq⟩
/-- the cells of all pieces of a plan, put in order -/
theorem plan_sorted {s : Sheet} {K : List Cell} {ws : List Int} {pl : List (List Cell)} (hK : KOk K) (h : PlanOf s K ws pl) : dSorted [eL pl.flatten] = .ok (eL K) := by
  have hl := h.perm.length_eq
  refine (cells_sort pl.flatten (lim100 (by have := hK.len; omega))).1.trans ?_
  have hn : pl.flatten.Nodup := h.perm.nodup_iff.mpr (up_nodup hK.up)
  have : csort pl.flatten = K := up_uniq (csort_up hn) hK.up ((csort_perm _).trans h.perm)
  unfold csort at this
  rw [this]; rfl
end Stm
set_option Elab.async false
set_option linter.all false
set_option maxRecDepth 100000
set_option maxHeartbeats 4000000
namespace Stm
open PySem PySem.Spec PyProof.Rows L2
/-! ### wants, torn, fewest_tears, tears -/
structure Wants (ws : List Int) : Prop where
  len : 1 ≤ ws.length ∧ ws.length ≤ 12
  pos : ∀ w ∈ ws, 1 ≤ w
theorem need_wants_ok {ws : List Int} (h : Stm.Wants ws) : M_need_wants [eI ws] = .ok .none := by
  obtain ⟨h1, h2⟩ := h.len
  have hc1 : (mOr (mNot (mB (mIsi "list" (mVar 0)))) (mNot (mB (mCh dLe dLe (mC (.int 1)) (mCB dLen (mCons (mVar 0) mNil)) (mC (.int 12)))))) [.val (eI ws), .un] = .ok false := by
    refine t_orr (t_not (x := true) (t_b rfl)) (t_not (x := true) (t_b ((ch_int (p := fun i j => decide (i ≤ j)) (q := fun i j => decide (i ≤ j)) rfl (len_list (enc := PyData.int) (xs := ws) rfl) rfl).trans ?_)))
    rw [decide_eq_true (by omega), decide_eq_true (by omega)]; rfl
  have hall := all_ok (enc := PyData.int) (vs := [1]) (mi := iA (mVar 0)) (t := gN 1) (me := (mAndV (mCall M_is_whole (mCons (mVar 1) mNil)) (m2 dGe (mVar 1) (mC (.int 1))))) (ρ := [.val (eI ws), .un]) (fun _ => true) ws (iA_list rfl) (lim100 (by omega)) (fun w hw => ⟨[.val (eI ws), .val (.int w)], rfl, by
    refine v_andt ((call_ok (ds := [.int w]) rfl).trans (is_whole_int w)) (m2_ok (x := .int w) (y := .int 1) rfl rfl ?_)
    show Res.ok (PyData.bool (decide ((1 : Int) ≤ w))) = _
    rw [decide_eq_true (h.pos w hw)]⟩)
  have e : ws.all (fun _ => true) = true := by simp
  rw [e] at hall
  exact fun_nx ((seq_nx ((if_f hc1).trans rfl)).trans ((if_f (t_not (x := true) (t_b hall))).trans rfl))
theorem torn_ok {s : Sheet} (v : Valid s) {ws : List Int} (hw : Stm.Wants ws) : ∃ d, M_torn [eS s, eI ws] = .ok d ∧
    ((d = .none ∧ (ws.sum = worth s (cellsOf s) → ∀ pl, ¬ PlanOf s (cellsOf s) ws pl)) ∨ ∃ pl, d = eLP2 pl ∧ PlanOf s (cellsOf s) ws pl ∧ pl.map (worth s) = ws ∧ ∃ m, IsBest s (cellsOf s) ws (some m) ∧ tot pl = m) := by
  obtain ⟨q, d, h1, h2, h3⟩ := planned v (ws := ws) (by have := hw.len; omega)
  refine ⟨d, fun_rt ?_, h3⟩
  refine (seq_nx (ρ' := [.val (eS s), .val (eI ws)]) (expr_ok ((call_ok (ds := [eS s]) rfl).trans (checked_ok v)))).trans ?_
  refine (seq_nx (ρ' := [.val (eS s), .val (eI ws)]) (expr_ok ((call_ok (ds := [eI ws]) rfl).trans (need_wants_ok hw)))).trans (ret_ok ?_)
  exact (call_ok (ds := [q]) (cons_ok ((call_ok (ds := [eS s, eI ws]) rfl).trans h1) rfl)).trans h2
def eF (n : Int) : Option Int → PyData
  | none => .none
  | some m => .int (n - m)
theorem fewest_ok {s : Sheet} (v : Valid s) {ws : List Int} (hw : Stm.Wants ws) : ∃ o, M_fewest_tears [eS s, eI ws] = .ok (eF (inn (cellsOf s)) o) ∧ (ws.sum = worth s (cellsOf s) → IsBest s (cellsOf s) ws o) ∧ (ws.sum ≠ worth s (cellsOf s) → o = none) := by
  obtain ⟨r, h1, h2, h3, h4⟩ := plan_for_ok v (ws := ws) (by have := hw.len; omega)
  have hk12 := v.kok.len
  have hinn : M_inner [eL (cellsOf s)] = .ok (.int (inn (cellsOf s) : Int)) := inner_ok (.inr rfl) (up_nodup v.kok.up) (by omega)
  refine ⟨r.map Prod.fst, fun_rt ?_, h3, fun hn => by rw [h2 hn]; rfl⟩
  refine (seq_nx (ρ' := [.val (eS s), .val (eI ws), .un]) (expr_ok ((call_ok (ds := [eS s]) rfl).trans (checked_ok v)))).trans ?_
  refine (seq_nx (ρ' := [.val (eS s), .val (eI ws), .un]) (expr_ok ((call_ok (ds := [eI ws]) rfl).trans (need_wants_ok hw)))).trans ?_
  refine (seq_nx (ρ' := [.val (eS s), .val (eI ws), .val (eR r)]) ((set_ok ((call_ok (ds := [eS s, eI ws]) rfl).trans h1)).trans rfl)).trans ?_
  cases r with
  | none => exact seq_rt ((if_t (t_b rfl)).trans rfl)
  | some x =>
    refine (seq_nx ((if_f (t_b rfl)).trans rfl)).trans (ret_ok ?_)
    exact m2_ok (x := .int (inn (cellsOf s) : Int)) (y := .int x.1) ((call_ok (ds := [eL (cellsOf s)]) (cons_ok ((call_ok (ds := [eS s]) rfl).trans (cells_ok v.fit)) rfl)).trans hinn) rfl rfl
theorem plan_count {s : Sheet} {K : List Cell} {ws : List Int} {pl : List (List Cell)} (h : PlanOf s K ws pl) : pl.length ≤ K.length := by
  have h1 := plan_len h
  have h2 := h.wts.length_eq
  rw [List.length_map] at h2
  omega
theorem tot_sum (pl : List (List Cell)) : tot pl = (pl.map fun p => (inn p : Int)).sum := rfl
theorem tears_ok {s : Sheet} (v : Valid s) {ws : List Int} {pl : List (List Cell)} (h : PlanOf s (cellsOf s) ws pl) : M_tears [eS s, eLP2 pl] = .ok (.int ((inn (cellsOf s) : Int) - tot pl)) := by
  have hK := v.kok
  have hk12 := hK.len
  have hc := plan_count h
  have hpc : ∀ p ∈ pl, Pc (cellsOf s) p ∧ Conn p := fun p hp => plan_piece h hp
  have hall := all_ok (enc := eP) (vs := [3]) (mi := iA (mVar 1)) (t := gN 3) (me := (mCall M_is_one (mCons (mVar 0) (mCons (mVar 3) mNil)))) (ρ := [.val (eS s), .val (eLP2 pl), .un, .un]) (fun _ => true) pl (iA_list rfl) (lim100 (by omega)) (fun p hp => ⟨[.val (eS s), .val (eLP2 pl), .un, .val (eP p)], rfl, by
    obtain ⟨h1, h2⟩ := hpc p hp
    refine (call_ok (ds := [eS s, eP p]) rfl).trans ((is_one_ok v h1.sub h2.ne (Nat.le_trans (h1.len hK) (by decide))).trans ?_)
    rw [decide_eq_true h1.up, connB_iff.mpr h2]; rfl⟩)
  have e : pl.all (fun _ => true) = true := by simp
  rw [e] at hall
  refine fun_rt ?_
  refine (seq_nx (ρ' := [.val (eS s), .val (eLP2 pl), .un, .un]) (expr_ok ((call_ok (ds := [eS s]) rfl).trans (checked_ok v)))).trans ?_
  refine (seq_nx ((if_f (t_orr (t_not (x := true) (t_b rfl)) (t_not (x := true) (t_b hall)))).trans rfl)).trans ?_
  refine (seq_nx (ρ' := [.val (eS s), .val (eLP2 pl), .own [], .un]) rfl).trans ?_
  have hfl : ∀ pre post, pl = pre ++ post → pre.flatten.length ≤ 12 := fun pre post e => by
    have := h.perm.length_eq
    rw [e, List.flatten_append, List.length_append] at this
    omega
  have key := for_pre (enc := eP) (t := gN 3) (mb := (sExt 2 (mCB dToList (mCons (mVar 3) mNil)))) (xs := pl) (J := Sl) (fun pre j => [.val (eS s), .val (eLP2 pl), .own (pre.flatten.map eC), j]) (fun pre p post j e => by
    refine ⟨.val (eP p), ?_⟩
    have hpre := hfl (pre ++ [p]) post (by rw [e]; simp)
    rw [List.flatten_append, List.length_append] at hpre
    simp only [List.flatten_cons, List.flatten_nil, List.append_nil] at hpre
    unfold turn1
    have ht : gN 3 (eP p) [.val (eS s), .val (eLP2 pl), .own (pre.flatten.map eC), j] = some [.val (eS s), .val (eLP2 pl), .own (pre.flatten.map eC), .val (eP p)] := rfl
    rw [ht]
    simp only
    refine (ext_ok (ds := pre.flatten.map eC) (es := p.map eC) rfl ((cb_ok (ds := [eP p]) rfl).trans rfl) (by rw [List.length_map, List.length_map]; exact lim100 (by omega))).trans ?_
    rw [List.flatten_append, List.map_append]
    simp) .un
  obtain ⟨j, e2⟩ := key
  refine (seq_nx (ρ' := [.val (eS s), .val (eLP2 pl), .own (pl.flatten.map eC), j]) ((sFor_ok (iA_list (ds := pl.map eP) rfl)).trans e2)).trans ?_
  refine (seq_nx ((if_f (t_b (m2_ok (x := eL (cellsOf s)) (y := eL (cellsOf s)) ((cb_ok (ds := [eL pl.flatten]) rfl).trans (plan_sorted hK h)) ((call_ok (ds := [eS s]) rfl).trans (cells_ok v.fit)) ((encL.dNe (by decide) _ _).trans (by rw [decide_eq_true rfl]; rfl))))).trans rfl)).trans (ret_ok ?_)
  have hsum := sum_ok (enc := eP) (vs := [3]) (mi := iA (mVar 1)) (t := gN 3) (me := (mCall M_inner (mCons (mVar 3) mNil))) (ρ := [.val (eS s), .val (eLP2 pl), .own (pl.flatten.map eC), j]) (fun p => (inn p : Int)) pl (iA_list rfl) (lim100 (by omega)) (fun p hp => ⟨[.val (eS s), .val (eLP2 pl), .own (pl.flatten.map eC), .val (eP p)], rfl, (call_ok (ds := [eP p]) rfl).trans (inner_ok (.inl rfl) (up_nodup (hpc p hp).1.up) (Nat.le_trans ((hpc p hp).1.len hK) (by decide)))⟩)
  exact m2_ok (x := .int (inn (cellsOf s) : Int)) (y := .int (tot pl)) ((call_ok (ds := [eL (cellsOf s)]) (cons_ok ((call_ok (ds := [eS s]) rfl).trans (cells_ok v.fit)) rfl)).trans (inner_ok (.inr rfl) (up_nodup hK.up) (by omega))) hsum rfl
theorem worth_flat (s : Sheet) : ∀ pl : List (List Cell), worth s pl.flatten = (pl.map (worth s)).sum
  | [] => rfl
  | p :: pl => by rw [List.flatten_cons, worth_app, worth_flat s pl, List.map_cons, List.sum_cons]
theorem worth_pos {s : Sheet} (v : Valid s) : ∀ {p : List Cell}, (∀ c ∈ p, c ∈ cellsOf s) → (p.length : Int) ≤ worth s p
  | [], _ => Int.le_refl _
  | c :: p, h => by
    have := worth_pos v (p := p) fun d hd => h d (by simp [hd])
    have h2 := (val_pos v (h c (by simp))).1
    unfold worth at *
    rw [List.map_cons, List.sum_cons, List.length_cons]
    omega
/-- the wants of a plan are wants -/
theorem plan_wok {s : Sheet} (v : Valid s) {pl : List (List Cell)} (h : PlanOf s (cellsOf s) (pl.map (worth s)) pl) : Stm.Wants (pl.map (worth s)) ∧ (pl.map (worth s)).sum = worth s (cellsOf s) := by
  have hk12 := v.kok.len
  have hkn := v.kne
  have hc := plan_count h
  refine ⟨⟨⟨?_, by rw [List.length_map]; omega⟩, fun w hw => ?_⟩, ?_⟩
  · rw [List.length_map]
    cases pl with
    | nil =>
      have := h.perm.length_eq
      simp at this
      omega
    | cons p pl => simp
  · obtain ⟨p, hp, rfl⟩ := List.mem_map.mp hw
    obtain ⟨h1, h2⟩ := plan_piece h hp
    have := worth_pos v h1.sub
    have := List.length_pos_iff.mpr h2.ne
    omega
  · rw [← worth_flat]
    exact worth_perm h.perm

/-! ### the law's own parts -/
theorem rest_rest {K p : List Cell} : K.filter (fun c => !decide (c ∈ p)) = rest K p := rfl
noncomputable abbrev ptS (ns : List Int) (at_ : Int) (s : Sheet) (free : List Cell) (pl : List (List Cell)) (a b : Sl) : Rho := [.val (eI ns), .val (.int at_), .val (eS s), .val (eLP2 (lawAll (cellsOf s))), .val (eL free), .own (pl.map eP), a, b, .un]
theorem parted_ok {s : Sheet} (v : Valid s) (ns : List Int) {at_ : Int} (h0 : 0 ≤ at_) : ∃ pl, M_law_parted [eI ns, .int at_, eS s] = .ok (eLP2 pl) ∧ PlanOf s (cellsOf s) (pl.map (worth s)) pl := by
  have hK := v.kok
  have hk12 := hK.len
  have hal := lawAll_len hK
  have hcond : ∀ free pl a b, (mB (m2 dNe (mVar 4) (mLst mNil))) (ptS ns at_ s free pl a b) = .ok (!decide (free = [])) := fun free pl a b => t_b (m2_ok (x := eL free) (y := eL []) rfl rfl (encL.dNe (by decide) _ _))
  have hbody : ∀ free pl a b, free.Pairwise clt → (∀ c ∈ free, c ∈ cellsOf s) → free ≠ [] → pl.length ≤ 100 → ∃ p a' b', Pc free p ∧ Conn p ∧ (sSeq (sSet 6 (mLc [7] (iA (mVar 3)) (gN 7) (mAnd (mB (m2 dEq (m2 dIx (mVar 7) (mC (.int 0))) (m2 dIx (mVar 4) (mC (.int 0))))) (mB (m2 dEq (mLc [8] (iA (mVar 7)) (gN 8) (mB (m2 dNotIn (mVar 8) (mVar 4))) (mVar 8)) (mLst mNil)))) (mVar 7))) (sSeq (sSet 7 (m2 dIx (mVar 6) (mCall M_law_mixed (mCons (mVar 0) (mCons (m2 dAdd (mVar 1) (mCB dLen (mCons (mOwn 5) mNil))) (mCons (mCB dMin2 (mCons (mCB dLen (mCons (mVar 6) mNil)) (mCons (mC (.int 9)) mNil))) mNil)))))) (sSeq (sApp 5 (mVar 7)) (sSet 4 (mLc [8] (iA (mVar 4)) (gN 8) (mB (m2 dNotIn (mVar 8) (mVar 7))) (mVar 8)))))) (ptS ns at_ s free pl a b) = .nx (ptS ns at_ s (rest free p) (pl ++ [p]) a' b') := by
    intro free pl a b hf hs hne hpl
    have hfl : free.length ≤ 12 := Nat.le_trans ((up_nodup hf).length_le_of_subset hs) hk12
    obtain ⟨c, f', ef⟩ := List.exists_cons_of_ne_nil hne
    have hcf : c ∈ free := by rw [ef]; simp
    have hmemA : ∀ p ∈ lawAll (cellsOf s), Pc (cellsOf s) p ∧ Conn p := fun p hp => (lawAll_mem hK).mp hp
    have hone : [c] ∈ lawAll (cellsOf s) := (lawAll_mem hK).mpr ⟨⟨List.pairwise_singleton _ _, fun d hd => by rw [List.mem_singleton.mp hd]; exact hs c hcf⟩, ⟨[c], .one c, List.Perm.refl _⟩⟩
    have hlc := lc_map (enc := eP) (t := gN 7) (mt := (mAnd (mB (m2 dEq (m2 dIx (mVar 7) (mC (.int 0))) (m2 dIx (mVar 4) (mC (.int 0))))) (mB (m2 dEq (mLc [8] (iA (mVar 7)) (gN 8) (mB (m2 dNotIn (mVar 8) (mVar 4))) (mVar 8)) (mLst mNil))))) (me := mVar 7) (ρ := [.val (eI ns), .val (.int at_), .val (eS s), .val (eLP2 (lawAll (cellsOf s))), .val (eL free), .own (pl.map eP), a, .un, .un])
      (fun p => decide (p.head? = free.head?) && decide (p.filter (fun c => !decide (c ∈ free)) = [])) eP (lawAll (cellsOf s)) (fun p hp => ⟨[.val (eI ns), .val (.int at_), .val (eS s), .val (eLP2 (lawAll (cellsOf s))), .val (eL free), .own (pl.map eP), a, .val (eP p), .un], rfl, by
        obtain ⟨h1, h2⟩ := hmemA p hp
        obtain ⟨x, p', ep⟩ := List.exists_cons_of_ne_nil h2.ne
        have hhd : decide (p.head? = free.head?) = decide (x = c) := by
          rw [decide_eq_decide, ep, ef]; simp
        rw [hhd]
        have hl2 := lc_map (enc := eC) (t := gN 8) (mt := (mB (m2 dNotIn (mVar 8) (mVar 4)))) (me := mVar 8) (ρ := [.val (eI ns), .val (.int at_), .val (eS s), .val (eLP2 (lawAll (cellsOf s))), .val (eL free), .own (pl.map eP), a, .val (eP p), .un]) (fun z => !decide (z ∈ free)) eC p
          (fun z hz => ⟨[.val (eI ns), .val (.int at_), .val (eS s), .val (eLP2 (lawAll (cellsOf s))), .val (eL free), .own (pl.map eP), a, .val (eP p), .val (eC z)], rfl, t_b (m2_ok rfl rfl (cNotIn z free)), fun _ => rfl⟩)
        exact t_and (t_b (m2_ok (x := eC x) (y := eC c) (m2_ok rfl rfl (dIx_natT (j := 0) (by rw [ep]; rfl))) (m2_ok rfl rfl (dIx_nat (j := 0) (by rw [ef]; rfl))) (encC.dEq (by decide) _ _))) (t_b (m2_ok (x := eL (p.filter fun z => !decide (z ∈ free))) (y := eL []) (mLc_ok (iA_tuple (ds := p.map eC) rfl) (by rw [List.length_map]; exact Nat.le_trans (h1.len hK) (by decide)) hl2) rfl (encL.dEq (by decide) _ _))), fun _ => rfl⟩)
    generalize hS : (lawAll (cellsOf s)).filter (fun p => decide (p.head? = free.head?) && decide (p.filter (fun c => !decide (c ∈ free)) = [])) = S at *
    have hcS : [c] ∈ S := by
      rw [← hS, List.mem_filter]
      refine ⟨hone, ?_⟩
      rw [ef]
      simp
    have hSpos : 0 < S.length := List.length_pos_of_mem hcS
    have hSm : ∀ p ∈ S, Pc free p ∧ Conn p := fun p hp => by
      rw [← hS, List.mem_filter] at hp
      obtain ⟨h1, h2⟩ := hp
      obtain ⟨h3, h4⟩ := hmemA p h1
      simp only [Bool.and_eq_true, decide_eq_true_eq] at h2
      refine ⟨⟨h3.up, fun d hd => ?_⟩, h4⟩
      have := List.filter_eq_nil_iff.mp h2.2 d hd
      simpa using this
    obtain ⟨i, hi, i0, i1⟩ := mixed_ok ns (at_ + (pl.length : Int)) (if (9 : Int) < (S.length : Int) then 9 else (S.length : Int)) (by omega) (by split <;> omega)
    have hilt : i.toNat < S.length := by split at i1 <;> omega
    obtain ⟨p, hp⟩ : ∃ p, S[i.toNat]? = some p := ⟨_, List.getElem?_eq_getElem hilt⟩
    have hpS := List.mem_of_getElem? hp
    obtain ⟨hp1, hp2⟩ := hSm p hpS
    refine ⟨p, .val (eLP2 S), .val (eP p), hp1, hp2, ?_⟩
    refine (seq_nx (ρ' := [.val (eI ns), .val (.int at_), .val (eS s), .val (eLP2 (lawAll (cellsOf s))), .val (eL free), .own (pl.map eP), .val (eLP2 S), b, .un]) ((set_ok (mLc_ok (iA_list (ds := (lawAll (cellsOf s)).map eP) rfl) (by rw [List.length_map]; exact Nat.le_of_lt (lim4096 hal)) hlc)).trans rfl)).trans ?_
    refine (seq_nx (ρ' := [.val (eI ns), .val (.int at_), .val (eS s), .val (eLP2 (lawAll (cellsOf s))), .val (eL free), .own (pl.map eP), .val (eLP2 S), .val (eP p), .un]) ?_).trans ?_
    · refine (set_ok (m2_ok (x := eLP2 S) (y := .int i) rfl ((call_ok (ds := [eI ns, .int (at_ + (pl.length : Int)), .int (if (9 : Int) < (S.length : Int) then 9 else (S.length : Int))]) (cons_ok rfl (cons_ok (m2_ok (x := .int at_) (y := .int (pl.length : Int)) rfl (len_list (enc := eP) (xs := pl) rfl) rfl) (cons_ok ((cb_ok (ds := [.int (S.length : Int), .int 9]) (cons_ok (len_list (enc := eP) (xs := S) rfl) rfl)).trans rfl) rfl)))).trans hi) (dIx_int i0 ?_))).trans rfl
      rw [List.getElem?_map, hp]; rfl
    refine (seq_nx (ρ' := [.val (eI ns), .val (.int at_), .val (eS s), .val (eLP2 (lawAll (cellsOf s))), .val (eL free), .own ((pl ++ [p]).map eP), .val (eLP2 S), .val (eP p), .un]) ((app_ok (ds := pl.map eP) (d := eP p) rfl rfl (by rw [List.length_map]; exact Nat.lt_of_le_of_lt hpl (by decide))).trans ?_)).trans ?_
    · rw [List.map_append]; rfl
    have hl3 := lc_map (enc := eC) (t := gN 8) (mt := (mB (m2 dNotIn (mVar 8) (mVar 7)))) (me := mVar 8) (ρ := [.val (eI ns), .val (.int at_), .val (eS s), .val (eLP2 (lawAll (cellsOf s))), .val (eL free), .own ((pl ++ [p]).map eP), .val (eLP2 S), .val (eP p), .un]) (fun z => !decide (z ∈ p)) eC free
      (fun z hz => ⟨[.val (eI ns), .val (.int at_), .val (eS s), .val (eLP2 (lawAll (cellsOf s))), .val (eL free), .own ((pl ++ [p]).map eP), .val (eLP2 S), .val (eP p), .val (eC z)], rfl, t_b (m2_ok rfl rfl (cNotInT z p)), fun _ => rfl⟩)
    exact (set_ok (mLc_ok (iA_list (ds := free.map eC) rfl) (by rw [List.length_map]; exact lim100 (by omega)) hl3)).trans rfl
  have hloop : ∀ k free pl a b fuel, free.Pairwise clt → (∀ c ∈ free, c ∈ cellsOf s) → free.length ≤ k → pl.length + k ≤ 50 → k < fuel → ∃ pl' a' b', whGo (mB (m2 dNe (mVar 4) (mLst mNil))) (sSeq (sSet 6 (mLc [7] (iA (mVar 3)) (gN 7) (mAnd (mB (m2 dEq (m2 dIx (mVar 7) (mC (.int 0))) (m2 dIx (mVar 4) (mC (.int 0))))) (mB (m2 dEq (mLc [8] (iA (mVar 7)) (gN 8) (mB (m2 dNotIn (mVar 8) (mVar 4))) (mVar 8)) (mLst mNil)))) (mVar 7))) (sSeq (sSet 7 (m2 dIx (mVar 6) (mCall M_law_mixed (mCons (mVar 0) (mCons (m2 dAdd (mVar 1) (mCB dLen (mCons (mOwn 5) mNil))) (mCons (mCB dMin2 (mCons (mCB dLen (mCons (mVar 6) mNil)) (mCons (mC (.int 9)) mNil))) mNil)))))) (sSeq (sApp 5 (mVar 7)) (sSet 4 (mLc [8] (iA (mVar 4)) (gN 8) (mB (m2 dNotIn (mVar 8) (mVar 7))) (mVar 8)))))) fuel (ptS ns at_ s free pl a b) = .nx (ptS ns at_ s [] (pl ++ pl') a' b') ∧ pl'.flatten.Perm free ∧ ∀ p ∈ pl', p.Pairwise clt ∧ Conn p := by
    intro k
    induction k with
    | zero =>
      intro free pl a b fuel hf hs hk h50 hfu
      obtain ⟨fuel, rfl⟩ : ∃ f', fuel = f' + 1 := ⟨fuel - 1, by omega⟩
      have e : free = [] := List.eq_nil_of_length_eq_zero (by omega)
      subst e
      exact ⟨[], a, b, by rw [List.append_nil]; exact wh_f (hcond _ _ _ _), List.Perm.refl _, fun _ h => by cases h⟩
    | succ k ih =>
      intro free pl a b fuel hf hs hk h50 hfu
      obtain ⟨fuel, rfl⟩ : ∃ f', fuel = f' + 1 := ⟨fuel - 1, by omega⟩
      by_cases h0 : free = []
      · subst h0
        exact ⟨[], a, b, by rw [List.append_nil]; exact wh_f (hcond _ _ _ _), List.Perm.refl _, fun _ h => by cases h⟩
      · obtain ⟨p, a1, b1, hp1, hp2, hb⟩ := hbody free pl a b hf hs h0 (by omega)
        have hlt := rest_lt (up_nodup hf) (up_nodup hp1.up) hp1.sub hp2.ne
        obtain ⟨pl', a', b', g1, g2, g3⟩ := ih (rest free p) (pl ++ [p]) a1 b1 fuel (rest_up hf) (fun c hc => hs c (rest_mem.mp hc).1) (by omega) (by rw [List.length_append, List.length_singleton]; omega) (by omega)
        refine ⟨p :: pl', a', b', ?_, ?_, fun q hq => ?_⟩
        · refine (wh_t ((hcond _ _ _ _).trans (by rw [decide_eq_false h0]; rfl)) hb).trans ?_
          rw [g1, List.append_assoc]; rfl
        · rw [List.flatten_cons]
          exact (g2.append_left p).trans (rest_perm (up_nodup hf) (up_nodup hp1.up) hp1.sub)
        · rcases List.mem_cons.mp hq with h | h
          · rw [h]; exact ⟨hp1.up, hp2⟩
          · exact g3 q h
  obtain ⟨pl, a, b, g1, g2, g3⟩ := hloop 12 (cellsOf s) [] .un .un 100 hK.up (fun c hc => hc) hk12 (by simp) (by omega)
  refine ⟨pl, fun_rt ?_, ⟨g2, g3, List.Perm.refl _⟩⟩
  refine (seq_nx (ρ' := [.val (eI ns), .val (.int at_), .val (eS s), .val (eLP2 (lawAll (cellsOf s))), .un, .un, .un, .un, .un]) ((set_ok ((call_ok (ds := [eS s]) rfl).trans (law_all_ok v.fit hK))).trans rfl)).trans ?_
  refine (seq_nx (ρ' := [.val (eI ns), .val (.int at_), .val (eS s), .val (eLP2 (lawAll (cellsOf s))), .val (eL (cellsOf s)), .un, .un, .un, .un]) ((set_ok ((call_ok (ds := [eS s]) rfl).trans (law_cells_ok v.fit))).trans rfl)).trans ?_
  refine (seq_nx (ρ' := ptS ns at_ s (cellsOf s) [] .un .un) rfl).trans ?_
  refine (seq_nx g1).trans ?_
  rfl
end Stm
set_option Elab.async false
set_option linter.all false
set_option maxRecDepth 100000
set_option maxHeartbeats 4000000
namespace Stm
open PySem PySem.Spec PyProof.Rows L2
/-! ### sheets turned and mirrored -/
def at2 (s : Sheet) (i j : Nat) : Option Int := (rowOf s i).getD j none
structure Rect (s : Sheet) (n w : Nat) : Prop where
  len : s.length = n
  n1 : 1 ≤ n
  w1 : 1 ≤ w
  row : ∀ r ∈ s, r.length = w
def turnS (s : Sheet) : Sheet := (List.range (rowOf s 0).length).map fun c => s.reverse.map fun r => r.getD c none
def mirS (s : Sheet) : Sheet := s.map List.reverse
theorem Rect.rowl {s : Sheet} {n w i : Nat} (h : Rect s n w) (hi : i < n) : (rowOf s i).length = w := h.row _ (rowOf_mem (by rw [h.len]; exact hi))
theorem Rect.ext {s t : Sheet} {n w : Nat} (h : Rect s n w) (g : Rect t n w) (e : ∀ i j, i < n → j < w → at2 s i j = at2 t i j) : s = t := by
  refine List.ext_getElem (by rw [h.len, g.len]) fun i h1 h2 => ?_
  have hi : i < n := by rw [← h.len]; exact h1
  have e1 : s[i] = rowOf s i := by unfold rowOf; rw [List.getD_eq_getElem?_getD, List.getElem?_eq_getElem h1]; rfl
  have e2 : t[i] = rowOf t i := by unfold rowOf; rw [List.getD_eq_getElem?_getD, List.getElem?_eq_getElem h2]; rfl
  rw [e1, e2]
  refine List.ext_getElem (by rw [h.rowl hi, g.rowl hi]) fun j g1 g2 => ?_
  have hj : j < w := by rw [← h.rowl hi]; exact g1
  have := e i j hi hj
  unfold at2 at this
  rw [List.getD_eq_getElem?_getD, List.getD_eq_getElem?_getD, List.getElem?_eq_getElem g1, List.getElem?_eq_getElem g2] at this
  exact this
theorem turn_rect {s : Sheet} {n w : Nat} (h : Rect s n w) : Rect (turnS s) w n := by
  have e := h.rowl (i := 0) h.n1
  refine ⟨by unfold turnS; rw [List.length_map, List.length_range, e], h.w1, h.n1, fun r hr => ?_⟩
  obtain ⟨c, _, rfl⟩ := List.mem_map.mp hr
  rw [List.length_map, List.length_reverse, h.len]
theorem turn_at {s : Sheet} {n w j k : Nat} (h : Rect s n w) (hj : j < w) (hk : k < n) : at2 (turnS s) j k = at2 s (n - 1 - k) j := by
  have e := h.rowl (i := 0) h.n1
  have e1 : rowOf (turnS s) j = s.reverse.map fun r => r.getD j none := by
    unfold rowOf turnS
    rw [List.getD_eq_getElem?_getD, List.getElem?_map, List.getElem?_range (by rw [e]; exact hj)]; rfl
  unfold at2
  rw [e1, List.getD_eq_getElem?_getD, List.getElem?_map]
  have hl : k < s.reverse.length := by rw [List.length_reverse, h.len]; exact hk
  have hl2 : n - 1 - k < s.length := by rw [h.len]; omega
  have hl3 : s.length - 1 - k < s.length := by rw [h.len]; omega
  rw [List.getElem?_eq_getElem hl, List.getElem_reverse]
  show ((s[s.length - 1 - k]'hl3).getD j none) = _
  unfold rowOf
  rw [List.getD_eq_getElem?_getD (l := s), List.getElem?_eq_getElem hl2]
  have : s[s.length - 1 - k]'hl3 = s[n - 1 - k]'hl2 := by congr 1; rw [h.len]
  rw [this]; rfl
theorem mir_rect {s : Sheet} {n w : Nat} (h : Rect s n w) : Rect (mirS s) n w := by
  refine ⟨by unfold mirS; rw [List.length_map, h.len], h.n1, h.w1, fun r hr => ?_⟩
  obtain ⟨q, hq, rfl⟩ := List.mem_map.mp hr
  rw [List.length_reverse, h.row q hq]
theorem mir_at {s : Sheet} {n w i j : Nat} (h : Rect s n w) (hi : i < n) (hj : j < w) : at2 (mirS s) i j = at2 s i (w - 1 - j) := by
  have hl : i < s.length := by rw [h.len]; exact hi
  have e1 : rowOf (mirS s) i = (rowOf s i).reverse := by
    unfold rowOf mirS
    rw [List.getD_eq_getElem?_getD, List.getElem?_map, List.getElem?_eq_getElem hl, List.getD_eq_getElem?_getD, List.getElem?_eq_getElem hl]; rfl
  have hr := h.rowl hi
  unfold at2
  rw [e1, List.getD_eq_getElem?_getD]
  have h1 : j < (rowOf s i).reverse.length := by rw [List.length_reverse, hr]; exact hj
  have h2 : w - 1 - j < (rowOf s i).length := by rw [hr]; omega
  rw [List.getElem?_eq_getElem h1, List.getElem_reverse, List.getD_eq_getElem?_getD, List.getElem?_eq_getElem h2]
  show (rowOf s i)[_] = (rowOf s i)[_]
  congr 1
  rw [hr]
theorem turn4 {s : Sheet} {n w : Nat} (h : Rect s n w) : turnS (turnS (turnS (turnS s))) = s := by
  have h1 := turn_rect h
  have h2 := turn_rect h1
  have h3 := turn_rect h2
  refine (turn_rect h3).ext h fun i j hi hj => ?_
  rw [turn_at h3 hi hj, turn_at h2 (by omega) hi, turn_at h1 (by omega) (by omega), turn_at h (by omega) (by omega)]
  congr 1 <;> omega
theorem mir2 {s : Sheet} {n w : Nat} (h : Rect s n w) : mirS (mirS s) = s := by
  refine (mir_rect (mir_rect h)).ext h fun i j hi hj => ?_
  rw [mir_at (mir_rect h) hi hj, mir_at h hi (by omega)]
  congr 1; omega
theorem turn_mir {s : Sheet} {n w : Nat} (h : Rect s n w) : turnS (mirS s) = mirS (turnS (turnS (turnS s))) := by
  have h1 := turn_rect h
  have h2 := turn_rect h1
  have h3 := turn_rect h2
  refine (turn_rect (mir_rect h)).ext (mir_rect h3) fun i j hi hj => ?_
  rw [turn_at (mir_rect h) hi hj, mir_at h (by omega) hi, mir_at h3 hi hj, turn_at h2 hi (by omega), turn_at h1 (by omega) (by omega), turn_at h (by omega) (by omega)]
  congr 1 <;> omega
/-- a sheet's eight -/
def eightS (s : Sheet) : List Sheet := [s, mirS s, turnS s, mirS (turnS s), turnS (turnS s), mirS (turnS (turnS s)), turnS (turnS (turnS s)), mirS (turnS (turnS (turnS s)))]
theorem eight_m {s z : Sheet} {n w : Nat} (h : Rect s n w) (hz : z ∈ eightS s) : mirS z ∈ eightS s := by
  have h1 := turn_rect h
  have h2 := turn_rect h1
  have h3 := turn_rect h2
  unfold eightS at *
  simp only [List.mem_cons, List.not_mem_nil, or_false] at *
  rcases hz with rfl | rfl | rfl | rfl | rfl | rfl | rfl | rfl
  · exact .inr (.inl rfl)
  · exact .inl (mir2 h)
  · exact .inr (.inr (.inr (.inl rfl)))
  · exact .inr (.inr (.inl (mir2 h1)))
  · exact .inr (.inr (.inr (.inr (.inr (.inl rfl)))))
  · exact .inr (.inr (.inr (.inr (.inl (mir2 h2)))))
  · exact .inr (.inr (.inr (.inr (.inr (.inr (.inr rfl))))))
  · exact .inr (.inr (.inr (.inr (.inr (.inr (.inl (mir2 h3)))))))
theorem eight_r {s z : Sheet} {n w : Nat} (h : Rect s n w) (hz : z ∈ eightS s) : turnS z ∈ eightS s := by
  have h1 := turn_rect h
  have h2 := turn_rect h1
  have h3 := turn_rect h2
  have e4 := turn4 h
  have e5 := turn4 h1
  have e6 := turn4 h2
  unfold eightS at *
  simp only [List.mem_cons, List.not_mem_nil, or_false] at *
  rcases hz with rfl | rfl | rfl | rfl | rfl | rfl | rfl | rfl
  · exact .inr (.inr (.inl rfl))
  · exact .inr (.inr (.inr (.inr (.inr (.inr (.inr (turn_mir h)))))))
  · exact .inr (.inr (.inr (.inr (.inl rfl))))
  · exact .inr (.inl ((turn_mir h1).trans (by rw [e4])))
  · exact .inr (.inr (.inr (.inr (.inr (.inr (.inl rfl))))))
  · exact .inr (.inr (.inr (.inl ((turn_mir h2).trans (by rw [e4])))))
  · exact .inl e4
  · exact .inr (.inr (.inr (.inr (.inr (.inl ((turn_mir h3).trans (by rw [e4])))))))
theorem eight_sub {s z : Sheet} {n w : Nat} (h : Rect s n w) (hz : z ∈ eightS s) : ∀ y ∈ eightS z, y ∈ eightS s := fun y hy => by
  have a1 := eight_r h hz
  have a2 := eight_r h a1
  have a3 := eight_r h a2
  unfold eightS at hy
  simp only [List.mem_cons, List.not_mem_nil, or_false] at hy
  rcases hy with rfl | rfl | rfl | rfl | rfl | rfl | rfl | rfl
  · exact hz
  · exact eight_m h hz
  · exact a1
  · exact eight_m h a1
  · exact a2
  · exact eight_m h a2
  · exact a3
  · exact eight_m h a3
theorem eight_self (s : Sheet) : s ∈ eightS s := by unfold eightS; simp
theorem eight_rect {s z : Sheet} {n w : Nat} (h : Rect s n w) (hz : z ∈ eightS s) : Rect z n w ∨ Rect z w n := by
  have h1 := turn_rect h
  have h2 := turn_rect h1
  have h3 := turn_rect h2
  unfold eightS at hz
  simp only [List.mem_cons, List.not_mem_nil, or_false] at hz
  rcases hz with rfl | rfl | rfl | rfl | rfl | rfl | rfl | rfl
  · exact .inl h
  · exact .inl (mir_rect h)
  · exact .inr h1
  · exact .inr (mir_rect h1)
  · exact .inl h2
  · exact .inl (mir_rect h2)
  · exact .inr h3
  · exact .inr (mir_rect h3)
theorem eight_back {s z : Sheet} {n w : Nat} (h : Rect s n w) (hz : z ∈ eightS s) : s ∈ eightS z := by
  have h1 := turn_rect h
  have h2 := turn_rect h1
  have h3 := turn_rect h2
  have e4 := turn4 h
  unfold eightS at hz
  simp only [List.mem_cons, List.not_mem_nil, or_false] at hz
  have mm : ∀ {y : Sheet} {a b : Nat}, Rect y a b → y ∈ eightS (mirS y) := fun {y a b} hy => by
    have := eight_m (mir_rect hy) (eight_self (mirS y))
    rwa [mir2 hy] at this
  have r1 : s ∈ eightS (turnS s) := by
    have := eight_r h1 (eight_r h1 (eight_r h1 (eight_self (turnS s))))
    rwa [e4] at this
  have r2 : s ∈ eightS (turnS (turnS s)) := by
    have := eight_r h2 (eight_r h2 (eight_self (turnS (turnS s))))
    rwa [e4] at this
  have r3 : s ∈ eightS (turnS (turnS (turnS s))) := by
    have := eight_r h3 (eight_self (turnS (turnS (turnS s))))
    rwa [e4] at this
  rcases hz with rfl | rfl | rfl | rfl | rfl | rfl | rfl | rfl
  · exact eight_self _
  · exact mm h
  · exact r1
  · exact eight_sub (mir_rect h1) (mm h1) _ r1
  · exact r2
  · exact eight_sub (mir_rect h2) (mm h2) _ r2
  · exact r3
  · exact eight_sub (mir_rect h3) (mm h3) _ r3
end Stm
set_option Elab.async false
set_option linter.all false
set_option maxRecDepth 100000
set_option maxHeartbeats 4000000
namespace Stm
open PySem PySem.Spec PyProof.Rows L2
theorem mem_at {s : Sheet} {n w : Nat} (h : Rect s n w) {c : Cell} : c ∈ cellsOf s ↔ ∃ i j : Nat, c = ((i : Int), (j : Int)) ∧ i < n ∧ j < w ∧ (at2 s i j).isSome = true := by
  constructor
  · intro hc
    obtain ⟨i, j, rfl, hi, hj, v, hv⟩ := cell_in hc
    have hi' : i < n := by rw [← h.len]; exact hi
    refine ⟨i, j, rfl, hi', by rw [← h.rowl hi']; exact hj, ?_⟩
    unfold at2
    rw [hv]; rfl
  · rintro ⟨i, j, rfl, hi, hj, hv⟩
    refine List.mem_flatMap.mpr ⟨i, List.mem_range.mpr (by rw [h.len]; exact hi), ?_⟩
    exact List.mem_map.mpr ⟨j, List.mem_filter.mpr ⟨List.mem_range.mpr (by rw [h.rowl hi]; exact hj), hv⟩, rfl⟩
theorem val_at (s : Sheet) (i j : Nat) : val s ((i : Int), (j : Int)) = (at2 s i j).getD 0 := by
  unfold val at2
  simp only [Int.toNat_natCast]
/-- a map of the cells that keeps worths and neighbours -/
structure Iso (s t : Sheet) (φ : Cell → Cell) : Prop where
  inj : ∀ c d, φ c = φ d → c = d
  mem : ∀ c ∈ cellsOf s, φ c ∈ cellsOf t
  sur : ∀ d ∈ cellsOf t, ∃ c ∈ cellsOf s, φ c = d
  val : ∀ c ∈ cellsOf s, val t (φ c) = val s c
  adj : ∀ c d, d ∈ arnd c ↔ φ d ∈ arnd (φ c)
theorem Iso.refl (s : Sheet) : Iso s s id := ⟨fun _ _ h => h, fun _ h => h, fun d h => ⟨d, h, rfl⟩, fun _ _ => rfl, fun _ _ => Iff.rfl⟩
theorem Iso.trans {s t u : Sheet} {φ ψ : Cell → Cell} (h : Iso s t φ) (g : Iso t u ψ) : Iso s u (ψ ∘ φ) :=
  ⟨fun c d e => h.inj _ _ (g.inj _ _ e), fun c hc => g.mem _ (h.mem _ hc), fun d hd => by
    obtain ⟨e, he, rfl⟩ := g.sur d hd
    obtain ⟨c, hc, rfl⟩ := h.sur e he
    exact ⟨c, hc, rfl⟩, fun c hc => (g.val _ (h.mem _ hc)).trans (h.val _ hc), fun c d => (h.adj c d).trans (g.adj _ _)⟩
theorem iso_turn {s : Sheet} {n w : Nat} (h : Rect s n w) : Iso s (turnS s) fun c => (c.2, (n : Int) - 1 - c.1) := by
  have g := turn_rect h
  refine ⟨fun c d e => ?_, fun c hc => ?_, fun d hd => ?_, fun c hc => ?_, fun c d => ?_⟩
  · have e1 := congrArg Prod.fst e
    have e2 := congrArg Prod.snd e
    simp only at e1 e2
    exact Prod.ext (by omega) (by omega)
  · obtain ⟨i, j, rfl, hi, hj, hv⟩ := (mem_at h).mp hc
    refine (mem_at g).mpr ⟨j, n - 1 - i, Prod.ext rfl (by simp only; omega), hj, by omega, ?_⟩
    rw [turn_at h hj (by omega)]
    have : n - 1 - (n - 1 - i) = i := by omega
    rw [this]; exact hv
  · obtain ⟨j, k, rfl, hj, hk, hv⟩ := (mem_at g).mp hd
    rw [turn_at h hj hk] at hv
    exact ⟨(((n - 1 - k : Nat) : Int), (j : Int)), (mem_at h).mpr ⟨n - 1 - k, j, rfl, by omega, hj, hv⟩, Prod.ext rfl (by simp only; omega)⟩
  · obtain ⟨i, j, rfl, hi, hj, hv⟩ := (mem_at h).mp hc
    have e : ((j : Int), (n : Int) - 1 - (i : Int)) = ((j : Int), ((n - 1 - i : Nat) : Int)) := Prod.ext rfl (by simp only; omega)
    show val (turnS s) ((j : Int), (n : Int) - 1 - (i : Int)) = _
    rw [e, val_at, val_at, turn_at h hj (by omega)]
    have : n - 1 - (n - 1 - i) = i := by omega
    rw [this]
  · rw [arnd_iff, arnd_iff]
    simp only
    omega
theorem iso_mir {s : Sheet} {n w : Nat} (h : Rect s n w) : Iso s (mirS s) fun c => (c.1, (w : Int) - 1 - c.2) := by
  have g := mir_rect h
  refine ⟨fun c d e => ?_, fun c hc => ?_, fun d hd => ?_, fun c hc => ?_, fun c d => ?_⟩
  · have e1 := congrArg Prod.fst e
    have e2 := congrArg Prod.snd e
    simp only at e1 e2
    exact Prod.ext (by omega) (by omega)
  · obtain ⟨i, j, rfl, hi, hj, hv⟩ := (mem_at h).mp hc
    refine (mem_at g).mpr ⟨i, w - 1 - j, Prod.ext rfl (by simp only; omega), hi, by omega, ?_⟩
    rw [mir_at h hi (by omega)]
    have : w - 1 - (w - 1 - j) = j := by omega
    rw [this]; exact hv
  · obtain ⟨i, k, rfl, hi, hk, hv⟩ := (mem_at g).mp hd
    rw [mir_at h hi hk] at hv
    exact ⟨((i : Int), ((w - 1 - k : Nat) : Int)), (mem_at h).mpr ⟨i, w - 1 - k, rfl, hi, by omega, hv⟩, Prod.ext rfl (by simp only; omega)⟩
  · obtain ⟨i, j, rfl, hi, hj, hv⟩ := (mem_at h).mp hc
    have e : ((i : Int), (w : Int) - 1 - (j : Int)) = ((i : Int), ((w - 1 - j : Nat) : Int)) := Prod.ext rfl (by simp only; omega)
    show val (mirS s) ((i : Int), (w : Int) - 1 - (j : Int)) = _
    rw [e, val_at, val_at, mir_at h hi (by omega)]
    have : w - 1 - (w - 1 - j) = j := by omega
    rw [this]
  · rw [arnd_iff, arnd_iff]
    simp only
    omega
/-- alike up to turning -/
def Sym (s t : Sheet) : Prop := (∃ φ, Iso s t φ) ∧ ∃ ψ, Iso t s ψ
theorem Sym.refl (s : Sheet) : Sym s s := ⟨⟨_, Iso.refl s⟩, ⟨_, Iso.refl s⟩⟩
theorem Sym.symm {s t : Sheet} (h : Sym s t) : Sym t s := ⟨h.2, h.1⟩
theorem Sym.trans {s t u : Sheet} (h : Sym s t) (g : Sym t u) : Sym s u := by
  obtain ⟨⟨a, ha⟩, ⟨b, hb⟩⟩ := h
  obtain ⟨⟨c, hc⟩, ⟨d, hd⟩⟩ := g
  exact ⟨⟨_, ha.trans hc⟩, ⟨_, hd.trans hb⟩⟩
theorem sym_mir {s : Sheet} {n w : Nat} (h : Rect s n w) : Sym s (mirS s) := by
  have := iso_mir (mir_rect h)
  rw [mir2 h] at this
  exact ⟨⟨_, iso_mir h⟩, ⟨_, this⟩⟩
theorem sym_turn {s : Sheet} {n w : Nat} (h : Rect s n w) : Sym s (turnS s) := by
  have h1 := turn_rect h
  have h2 := turn_rect h1
  have h3 := turn_rect h2
  have := ((iso_turn h1).trans (iso_turn h2)).trans (iso_turn h3)
  rw [turn4 h] at this
  exact ⟨⟨_, iso_turn h⟩, ⟨_, this⟩⟩
theorem sym_eight {s z : Sheet} {n w : Nat} (h : Rect s n w) (hz : z ∈ eightS s) : Sym s z := by
  have h1 := turn_rect h
  have h2 := turn_rect h1
  have h3 := turn_rect h2
  have s1 := sym_turn h
  have s2 := s1.trans (sym_turn h1)
  have s3 := s2.trans (sym_turn h2)
  unfold eightS at hz
  simp only [List.mem_cons, List.not_mem_nil, or_false] at hz
  rcases hz with rfl | rfl | rfl | rfl | rfl | rfl | rfl | rfl
  · exact Sym.refl _
  · exact sym_mir h
  · exact s1
  · exact s1.trans (sym_mir h1)
  · exact s2
  · exact s2.trans (sym_mir h2)
  · exact s3
  · exact s3.trans (sym_mir h3)
/-! ### pieces carried over -/
def img (φ : Cell → Cell) (p : List Cell) : List Cell := csort (p.map φ)
section
variable {s t : Sheet} {φ : Cell → Cell}
theorem img_perm (p : List Cell) : (img φ p).Perm (p.map φ) := csort_perm _
theorem Iso.nd (h : Iso s t φ) {p : List Cell} (hp : p.Nodup) : (p.map φ).Nodup := List.Pairwise.map φ (fun a b hab e => hab (h.inj _ _ e)) hp
theorem Iso.pc (h : Iso s t φ) {p : List Cell} (hp : Pc (cellsOf s) p) : Pc (cellsOf t) (img φ p) := ⟨csort_up (h.nd (up_nodup hp.up)), fun c hc => by
  obtain ⟨d, hd, rfl⟩ := List.mem_map.mp ((img_perm p).mem_iff.mp hc)
  exact h.mem _ (hp.sub d hd)⟩
theorem Iso.grow (h : Iso s t φ) {l : List Cell} (hl : Grow l) : Grow (l.map φ) := by
  induction hl with
  | one c => exact .one _
  | @ext l c d _ hd hc hn ih =>
    rw [List.map_append]
    exact .ext ih (List.mem_map_of_mem hd) ((h.adj _ _).mp hc) fun z => by
      obtain ⟨e, he, ee⟩ := List.mem_map.mp z
      exact hn (h.inj _ _ ee ▸ he)
theorem Iso.conn (h : Iso s t φ) {p : List Cell} (hp : Conn p) : Conn (img φ p) := by
  obtain ⟨l, hl, hlp⟩ := hp
  exact ⟨l.map φ, h.grow hl, (hlp.map φ).trans (img_perm p).symm⟩
theorem img_len (p : List Cell) : (img φ p).length = p.length := by rw [(img_perm p).length_eq, List.length_map]
theorem Iso.worth (h : Iso s t φ) {p : List Cell} (hp : ∀ c ∈ p, c ∈ cellsOf s) : Stm.worth t (img φ p) = Stm.worth s p := by
  rw [worth_perm (img_perm p)]
  unfold Stm.worth
  rw [List.map_map]
  congr 1
  exact List.map_congr_left fun c hc => h.val c (hp c hc)
theorem inn2_perm {p q : List Cell} (h : p.Perm q) : inn2 p = inn2 q := by
  unfold inn2
  have e : (fun a => ((arnd a).filter fun b => decide (b ∈ p)).length) = fun a => ((arnd a).filter fun b => decide (b ∈ q)).length := by
    funext a
    congr 2
    funext b
    rw [decide_eq_decide]
    exact h.mem_iff
  rw [e]
  exact (h.map _).sum_nat
theorem Iso.inn (h : Iso s t φ) {p : List Cell} (hp : p.Pairwise clt) : Stm.inn (img φ p) = Stm.inn p := by
  have hn := up_nodup hp
  have e1 := inn2_eq hn
  have e2 := inn2_eq (up_nodup (csort_up (h.nd hn)) : (img φ p).Nodup)
  have e3 : inn2 (img φ p) = inn2 (p.map φ) := inn2_perm (img_perm p)
  have e4 : inn2 (p.map φ) = inn2 p := by
    unfold inn2
    rw [List.map_map]
    congr 1
    refine List.map_congr_left fun a ha => ?_
    show ((arnd (φ a)).filter fun b => decide (b ∈ p.map φ)).length = ((arnd a).filter fun b => decide (b ∈ p)).length
    rw [← List.length_map (f := φ) (as := (arnd a).filter fun b => decide (b ∈ p))]
    refine List.Perm.length_eq ((List.perm_ext_iff_of_nodup ((arnd_nd _).filter _) (h.nd ((arnd_nd a).filter _))).mpr fun b => ?_)
    constructor
    · intro hb
      obtain ⟨h1, h2⟩ := List.mem_filter.mp hb
      obtain ⟨c, hc, rfl⟩ := List.mem_map.mp (of_decide_eq_true h2)
      exact List.mem_map_of_mem (List.mem_filter.mpr ⟨(h.adj a c).mpr h1, decide_eq_true hc⟩)
    · intro hb
      obtain ⟨c, hc, rfl⟩ := List.mem_map.mp hb
      obtain ⟨h1, h2⟩ := List.mem_filter.mp hc
      exact List.mem_filter.mpr ⟨(h.adj a c).mp h1, decide_eq_true (List.mem_map_of_mem (of_decide_eq_true h2))⟩
  omega
theorem img_inj (h : Iso s t φ) {p q : List Cell} (hp : p.Pairwise clt) (hq : q.Pairwise clt) (e : img φ p = img φ q) : p = q := by
  have h1 : (p.map φ).Perm (q.map φ) := (img_perm p).symm.trans (by rw [e]; exact img_perm q)
  refine up_uniq hp hq ((List.perm_ext_iff_of_nodup (up_nodup hp) (up_nodup hq)).mpr fun c => ?_)
  constructor
  · intro hc
    obtain ⟨d, hd, e⟩ := List.mem_map.mp (h1.mem_iff.mp (List.mem_map_of_mem (f := φ) hc))
    exact h.inj _ _ e ▸ hd
  · intro hc
    obtain ⟨d, hd, e⟩ := List.mem_map.mp (h1.mem_iff.mpr (List.mem_map_of_mem (f := φ) hc))
    exact h.inj _ _ e ▸ hd
theorem Iso.cells (h : Iso s t φ) : ((cellsOf s).map φ).Perm (cellsOf t) := (List.perm_ext_iff_of_nodup (h.nd (up_nodup (cells_up s))) (up_nodup (cells_up t))).mpr fun d => by
  constructor
  · intro hd
    obtain ⟨c, hc, rfl⟩ := List.mem_map.mp hd
    exact h.mem c hc
  · intro hd
    obtain ⟨c, hc, rfl⟩ := h.sur d hd
    exact List.mem_map_of_mem hc
theorem Iso.img_cells (h : Iso s t φ) : img φ (cellsOf s) = cellsOf t := up_uniq (csort_up (h.nd (up_nodup (cells_up s)))) (cells_up t) ((img_perm _).trans h.cells)
theorem flat_img : ∀ pl : List (List Cell), ((pl.map (img φ)).flatten).Perm (pl.flatten.map φ)
  | [] => List.Perm.refl _
  | p :: pl => by
    rw [List.map_cons, List.flatten_cons, List.flatten_cons, List.map_append]
    exact (img_perm p).append (flat_img pl)
theorem Iso.plan (h : Iso s t φ) {ws : List Int} {pl : List (List Cell)} (hp : PlanOf s (cellsOf s) ws pl) : PlanOf t (cellsOf t) ws (pl.map (img φ)) ∧ tot (pl.map (img φ)) = tot pl := by
  have hsub : ∀ p ∈ pl, ∀ c ∈ p, c ∈ cellsOf s := fun p hpp c hc => hp.perm.mem_iff.mp (List.mem_flatten.mpr ⟨p, hpp, hc⟩)
  refine ⟨⟨(flat_img pl).trans ((hp.perm.map φ).trans h.cells), fun q hq => ?_, ?_⟩, ?_⟩
  · obtain ⟨p, hpp, rfl⟩ := List.mem_map.mp hq
    obtain ⟨h1, h2⟩ := hp.pc p hpp
    exact ⟨csort_up (h.nd (up_nodup h1)), h.conn h2⟩
  · rw [List.map_map]
    have : pl.map (Stm.worth t ∘ img φ) = pl.map (Stm.worth s) := List.map_congr_left fun p hpp => h.worth (hsub p hpp)
    rw [this]; exact hp.wts
  · unfold tot
    rw [List.map_map]
    congr 1
    exact List.map_congr_left fun p hpp => by
      show ((Stm.inn (img φ p) : Nat) : Int) = _
      rw [h.inn (hp.pc p hpp).1]
end
theorem Sym.best {s t : Sheet} (h : Sym s t) {ws : List Int} {o : Option Int} (hb : IsBest s (cellsOf s) ws o) : IsBest t (cellsOf t) ws o := by
  obtain ⟨⟨φ, hφ⟩, ⟨ψ, hψ⟩⟩ := h
  cases o with
  | none =>
    intro pl hp
    exact hb _ (hψ.plan hp).1
  | some m =>
    obtain ⟨⟨pl, h1, h2⟩, h3⟩ := hb
    refine ⟨⟨_, (hφ.plan h1).1, (hφ.plan h1).2.trans h2⟩, fun pl hp => ?_⟩
    rw [← (hψ.plan hp).2]
    exact h3 _ (hψ.plan hp).1
theorem Sym.worth {s t : Sheet} (h : Sym s t) : Stm.worth t (cellsOf t) = Stm.worth s (cellsOf s) := by
  obtain ⟨⟨φ, hφ⟩, _⟩ := h
  rw [← hφ.img_cells, hφ.worth fun c hc => hc]
theorem Sym.inn {s t : Sheet} (h : Sym s t) : Stm.inn (cellsOf t) = Stm.inn (cellsOf s) := by
  obtain ⟨⟨φ, hφ⟩, _⟩ := h
  rw [← hφ.img_cells, hφ.inn (cells_up s)]
theorem Sym.len {s t : Sheet} (h : Sym s t) : (cellsOf t).length = (cellsOf s).length := by
  obtain ⟨⟨φ, hφ⟩, _⟩ := h
  rw [← hφ.img_cells, img_len]
theorem lvl_iff {K : List Cell} (hK : KOk K) {n : Nat} {p : List Cell} : p ∈ lvl K n ↔ Pc K p ∧ p.length = n + 1 ∧ Conn p := by
  constructor
  · intro h
    have h2 : p ∈ (lvls K (n + 1)).flatten := by
      rw [lvls_succ, List.flatten_append]
      exact List.mem_append_right _ (by simpa using h)
    exact ⟨lvl_pc hK n p h, lvl_len n p h, ((flat_mem hK).mp h2).2.2⟩
  · rintro ⟨h1, h2, h3⟩
    have h4 := (flat_mem hK (m := n + 1)).mpr ⟨h1, by omega, h3⟩
    obtain ⟨l, hl, hp⟩ := List.mem_flatten.mp h4
    unfold lvls at hl
    obtain ⟨k, hk, rfl⟩ := List.mem_map.mp hl
    have := lvl_len k p hp
    have e : k = n := by omega
    rw [← e]; exact hp
theorem lvl_le {s t : Sheet} {φ : Cell → Cell} (h : Iso s t φ) (hs : KOk (cellsOf s)) (ht : KOk (cellsOf t)) (n : Nat) : (lvl (cellsOf s) n).length ≤ (lvl (cellsOf t) n).length := by
  rw [← List.length_map (f := img φ)]
  refine List.Nodup.length_le_of_subset ?_ fun q hq => ?_
  · refine (List.pairwise_map).mpr ?_
    refine List.Pairwise.imp_of_mem ?_ (lvl_nodup hs n)
    intro p q hp hq hne e
    exact hne (img_inj h (lvl_pc hs n p hp).up (lvl_pc hs n q hq).up e)
  · obtain ⟨p, hp, rfl⟩ := List.mem_map.mp hq
    obtain ⟨h1, h2, h3⟩ := (lvl_iff hs).mp hp
    exact (lvl_iff ht).mpr ⟨h.pc h1, by rw [img_len]; exact h2, h.conn h3⟩
theorem Sym.lvl {s t : Sheet} (h : Sym s t) (hs : KOk (cellsOf s)) (ht : KOk (cellsOf t)) (n : Nat) : (Stm.lvl (cellsOf t) n).length = (Stm.lvl (cellsOf s) n).length := by
  obtain ⟨⟨φ, hφ⟩, ⟨ψ, hψ⟩⟩ := h
  exact Nat.le_antisymm (lvl_le hψ ht hs n) (lvl_le hφ hs ht n)
theorem Sym.counts {s t : Sheet} (h : Sym s t) (hs : KOk (cellsOf s)) (ht : KOk (cellsOf t)) : ((lvls (cellsOf t) (cellsOf t).length).map fun x => (x.length : Int)) = (lvls (cellsOf s) (cellsOf s).length).map fun x => (x.length : Int) := by
  unfold lvls
  rw [h.len, List.map_map, List.map_map]
  refine List.map_congr_left fun k _ => ?_
  show ((Stm.lvl (cellsOf t) k).length : Int) = ((Stm.lvl (cellsOf s) k).length : Int)
  rw [h.lvl hs ht]
end Stm
set_option Elab.async false
set_option linter.all false
set_option maxRecDepth 100000
set_option maxHeartbeats 4000000
namespace Stm
open PySem PySem.Spec PyProof.Rows L2
/-! ### what is alike for all eight -/
theorem wl_mem {s t : Sheet} (h : Sym s t) (hs : KOk (cellsOf s)) (ht : KOk (cellsOf t)) (m : Nat) {k : Int} (hk : k ∈ wList s m) : k ∈ wList t m := by
  obtain ⟨⟨φ, hφ⟩, _⟩ := id h
  unfold wList at *
  rw [sortU_mem] at *
  obtain ⟨p, hp, rfl⟩ := List.mem_map.mp hk
  obtain ⟨h1, h2, h3⟩ := (flat_mem hs).mp hp
  rw [← hφ.worth h1.sub]
  exact List.mem_map_of_mem ((flat_mem ht).mpr ⟨hφ.pc h1, by rw [img_len, h.len]; exact h2, hφ.conn h3⟩)
theorem Sym.wList {s t : Sheet} (h : Sym s t) (hs : KOk (cellsOf s)) (ht : KOk (cellsOf t)) (m : Nat) : Stm.wList t m = Stm.wList s m :=
  ints_uniq (sortU_lt _) (sortU_lt _) fun k => ⟨fun hk => wl_mem h.symm ht hs m hk, fun hk => wl_mem h hs ht m hk⟩
theorem valid_sym {s t : Sheet} (v : Valid s) (h : Sym s t) {n w : Nat} (hr : Rect t n w) (hn : n ≤ 5) (hw : w ≤ 5) : Valid t := by
  refine ⟨⟨by rw [hr.len]; exact hr.n1, by rw [hr.len]; exact hn⟩, ⟨w, hr.w1, hw, hr.row⟩, fun r hrm x hx => ?_, ?_⟩
  · obtain ⟨i, hi, e⟩ := List.getElem_of_mem hrm
    obtain ⟨j, hj, e2⟩ := List.getElem_of_mem hx
    have hi' : i < n := by rw [← hr.len]; exact hi
    have hj' : j < w := by rw [← hr.row r hrm]; exact hj
    have ha : at2 t i j = some x := by
      unfold at2 rowOf
      rw [List.getD_eq_getElem?_getD (l := t), List.getElem?_eq_getElem hi]
      show (t[i]).getD j none = _
      rw [e, List.getD_eq_getElem?_getD, List.getElem?_eq_getElem hj]
      exact e2
    have hd : ((i : Int), (j : Int)) ∈ cellsOf t := (mem_at hr).mpr ⟨i, j, rfl, hi', hj', by rw [ha]; rfl⟩
    obtain ⟨φ, hφ⟩ := h.1
    obtain ⟨c, hc, ec⟩ := hφ.sur _ hd
    have h1 := val_pos v hc
    rw [← hφ.val c hc, ec, val_at, ha] at h1
    exact h1
  · rw [← cells_cnt, h.len, cells_cnt]
    exact v.cnt
theorem rect_valid {s : Sheet} (v : Valid s) : ∃ n w, Rect s n w ∧ n ≤ 5 ∧ w ≤ 5 := by
  obtain ⟨w, w1, w2, e⟩ := v.cols
  exact ⟨s.length, w, ⟨rfl, v.rows.1, w1, e⟩, v.rows.2, w2⟩
theorem eight_valid {s z : Sheet} (v : Valid s) (hz : z ∈ eightS s) : Valid z := by
  obtain ⟨n, w, h, hn, hw⟩ := rect_valid v
  rcases eight_rect h hz with g | g
  · exact valid_sym v (sym_eight h hz) g hn hw
  · exact valid_sym v (sym_eight h hz) g hw hn
theorem eight_sym {s z : Sheet} (v : Valid s) (hz : z ∈ eightS s) : Sym s z := by
  obtain ⟨n, w, h, _, _⟩ := rect_valid v
  exact sym_eight h hz
/-! ### turned and mirrored, run -/
theorem turnS_eq {s : Sheet} {n w : Nat} (h : Rect s n w) : turnS s = (List.range w).map fun c => (List.range n).map fun k => at2 s (n - 1 - k) c := by
  unfold turnS
  rw [h.rowl (i := 0) h.n1]
  refine List.map_congr_left fun c hc => ?_
  refine List.ext_getElem (by rw [List.length_map, List.length_reverse, List.length_map, List.length_range, h.len]) fun k h1 h2 => ?_
  have hk : k < n := by
    rw [List.length_map, List.length_range] at h2
    exact h2
  have hl2 : n - 1 - k < s.length := by rw [h.len]; omega
  have hl3 : s.length - 1 - k < s.length := by rw [h.len]; omega
  rw [List.getElem_map, List.getElem_map, List.getElem_range, List.getElem_reverse]
  unfold at2 rowOf
  rw [List.getD_eq_getElem?_getD (l := s), List.getElem?_eq_getElem hl2]
  show (s[s.length - 1 - k]'hl3).getD c none = (s[n - 1 - k]'hl2).getD c none
  congr 2
  rw [h.len]
theorem row0_len {s : Sheet} {n w : Nat} (h : Rect s n w) (hw : w ≤ 5) {ρ : Rho} (hρ : ρ[0]? = some (.val (eS s))) : iR1 (mCons (mCB dLen (mCons (m2 dIx (mVar 0) (mC (.int 0))) mNil)) mNil) ρ = .ok ((List.range w).map eN) := by
  have h1 := rng_len_tuple (m := m2 dIx (mVar 0) (mC (.int 0))) (ρ := ρ) (ds := (rowOf s 0).map eO) (m2_ok (x := eS s) (by unfold mVar; rw [hρ]) rfl (ix_row (i := 0) (by rw [h.len]; exact h.n1))) (by rw [List.length_map, h.rowl (i := 0) h.n1]; exact lim5 hw)
  rw [List.length_map, h.rowl (i := 0) h.n1] at h1
  exact h1
theorem turned_once_ok {s : Sheet} {n w : Nat} (h : Rect s n w) (hn : n ≤ 5) (hw : w ≤ 5) : M_turned_once [eS s] = .ok (eS (turnS s)) := by
  refine fun_rt (ret_ok ?_)
  have h1 := mLc_ok (vs := [1]) (t := gN 1) (mt := mYes) (me := (mCB dToTup (mCons (mLc [2] (iRev (mVar 0)) (gN 2) mYes (m2 dIx (mVar 2) (mVar 1))) mNil))) (row0_len h hw (ρ := [.val (eS s), .un, .un]) rfl) (by rw [List.length_map, List.length_range]; exact lim5 hw)
    (lc_all (enc := eN) (fun c => eRow (s.reverse.map fun r => r.getD c none)) (List.range w) fun c hc => ⟨[.val (eS s), .val (eN c), .un], rfl, by
      have hc' := List.mem_range.mp hc
      have hr : iRev (mVar 0) [.val (eS s), .val (eN c), .un] = .ok (s.reverse.map eRow) := by
        show Res.ok ((s.map eRow).reverse) = _
        rw [List.map_reverse]
      have h2 := mLc_ok (vs := [2]) (t := gN 2) (mt := mYes) (me := m2 dIx (mVar 2) (mVar 1)) hr (by rw [List.length_map, List.length_reverse, h.len]; exact lim5 hn)
        (lc_all (enc := eRow) (fun r => eO (r.getD c none)) s.reverse fun r hr => ⟨[.val (eS s), .val (eN c), .val (eRow r)], rfl, m2_ok rfl rfl (ix_O (by rw [h.row r (List.mem_reverse.mp hr)]; exact hc'))⟩)
      refine (cb_ok (cons_ok h2 rfl)).trans ?_
      show Res.ok (PyData.tuple (s.reverse.map fun r => eO (r.getD c none))) = _
      unfold eRow
      rw [List.map_map]; rfl⟩)
  refine (cb_ok (cons_ok h1 rfl)).trans ?_
  show Res.ok (PyData.tuple ((List.range w).map fun c => eRow (s.reverse.map fun r => r.getD c none))) = _
  unfold eS turnS
  rw [List.map_map, h.rowl (i := 0) h.n1]; rfl
theorem ix_at {s : Sheet} {n w i j : Nat} (h : Rect s n w) (hi : i < n) (hj : j < w) : dIx (eS s) (.int (i : Int)) = .ok (eRow (rowOf s i)) ∧ dIx (eRow (rowOf s i)) (.int (j : Int)) = .ok (eO (at2 s i j)) := ⟨ix_row (by rw [h.len]; exact hi), ix_O (by rw [h.rowl hi]; exact hj)⟩
theorem law_turned_ok {s : Sheet} {n w : Nat} (h : Rect s n w) (hn : n ≤ 5) (hw : w ≤ 5) : M_law_turned [eS s] = .ok (eS (turnS s)) := by
  have key := for_pre (enc := eN) (t := gN 2) (mb := (sApp 1 (mCB dToTup (mCons (mLc [3] (iR1 (mCons (mCB dLen (mCons (mVar 0) mNil)) mNil)) (gN 3) mYes (m2 dIx (m2 dIx (mVar 0) (m2 dSub (m2 dSub (mCB dLen (mCons (mVar 0) mNil)) (mC (.int 1))) (mVar 3))) (mVar 2))) mNil))))
    (xs := List.range w) (J := Sl) (fun pre j => [.val (eS s), .own ((pre.map fun c => (List.range n).map fun k => at2 s (n - 1 - k) c).map eRow), j, .un]) (fun pre c post j e => by
      obtain ⟨hc1, hc⟩ := range_split e
      refine ⟨.val (eN c), ?_⟩
      unfold turn1
      have ht : gN 2 (eN c) [.val (eS s), .own ((pre.map fun c => (List.range n).map fun k => at2 s (n - 1 - k) c).map eRow), j, .un] = some [.val (eS s), .own ((pre.map fun c => (List.range n).map fun k => at2 s (n - 1 - k) c).map eRow), .val (eN c), .un] := rfl
      rw [ht]
      simp only
      generalize hacc : (pre.map fun c => (List.range n).map fun k => at2 s (n - 1 - k) c).map eRow = acc
      have hal : acc.length = pre.length := by rw [← hacc, List.length_map, List.length_map]
      have h1 := rng_len_tuple (m := mVar 0) (ρ := [.val (eS s), .own acc, .val (eN c), .un]) (ds := s.map eRow) rfl (by rw [List.length_map, h.len]; exact lim5 hn)
      rw [List.length_map, h.len] at h1
      have hlen : ∀ x : Sl, mCB dLen (mCons (mVar 0) mNil) [.val (eS s), .own acc, .val (eN c), x] = .ok (.int (n : Int)) := fun x => (cb_ok (ds := [eS s]) rfl).trans (by
        show Res.ok (PyData.int ((s.map eRow).length : Int)) = _
        rw [List.length_map, h.len])
      have h2 := mLc_ok (vs := [3]) (t := gN 3) (mt := mYes) (me := (m2 dIx (m2 dIx (mVar 0) (m2 dSub (m2 dSub (mCB dLen (mCons (mVar 0) mNil)) (mC (.int 1))) (mVar 3))) (mVar 2))) h1 (by rw [List.length_map, List.length_range]; exact lim5 hn)
        (lc_all (enc := eN) (fun k => eO (at2 s (n - 1 - k) c)) (List.range n) fun k hk => ⟨[.val (eS s), .own acc, .val (eN c), .val (eN k)], rfl, by
          have hk' := List.mem_range.mp hk
          obtain ⟨a1, a2⟩ := ix_at h (i := n - 1 - k) (j := c) (by omega) hc
          have e : ((n : Int) - 1 - (k : Int)) = ((n - 1 - k : Nat) : Int) := by omega
          refine m2_ok (m2_ok (x := eS s) (y := .int ((n - 1 - k : Nat) : Int)) rfl ?_ a1) rfl a2
          rw [← e]
          exact m2_ok (m2_ok (hlen _) rfl rfl) rfl rfl⟩)
      refine (app_ok (ds := acc) (d := eRow ((List.range n).map fun k => at2 s (n - 1 - k) c)) rfl ((cb_ok (cons_ok h2 rfl)).trans ?_) ?_).trans ?_
      · show Res.ok (PyData.tuple ((List.range n).map fun k => eO (at2 s (n - 1 - k) c))) = _
        unfold eRow
        rw [List.map_map]; rfl
      · rw [hal, ← hc1]
        exact Nat.lt_of_lt_of_le (show c < 100 by omega) (by decide)
      · rw [List.map_append, List.map_append, hacc]; rfl) .un
  obtain ⟨j, ej⟩ := key
  refine fun_rt ((seq_nx (ρ' := [.val (eS s), .own [], .un, .un]) rfl).trans ((seq_nx (ρ' := [.val (eS s), .own (((List.range w).map fun c => (List.range n).map fun k => at2 s (n - 1 - k) c).map eRow), j, .un]) ((sFor_ok (row0_len h hw rfl)).trans ej)).trans (ret_ok ?_)))
  refine (cb_ok (cons_ok rfl rfl)).trans ?_
  show Res.ok (PyData.tuple (((List.range w).map fun c => (List.range n).map fun k => at2 s (n - 1 - k) c).map eRow)) = _
  rw [← turnS_eq h]; rfl
theorem mir_run (s : Sheet) (hn : s.length ≤ 5) : mFun 1 (sRet (mCB dToTup (mCons (mLc [1] (iA (mVar 0)) (gN 1) mYes (mRevS (mVar 1))) mNil))) [eS s] = .ok (eS (mirS s)) := by
  refine fun_rt (ret_ok ?_)
  have h1 := mLc_ok (vs := [1]) (mi := iA (mVar 0)) (t := gN 1) (mt := mYes) (me := mRevS (mVar 1)) (ρ := [.val (eS s), .un]) (iA_tuple (ds := s.map eRow) rfl) (by rw [List.length_map]; exact lim5 hn)
    (lc_all (enc := eRow) (fun r => eRow r.reverse) s fun r _ => ⟨[.val (eS s), .val (eRow r)], rfl, by
      show Res.ok (PyData.tuple ((r.map eO).reverse)) = _
      unfold eRow
      rw [List.map_reverse]⟩)
  refine (cb_ok (cons_ok h1 rfl)).trans ?_
  show Res.ok (PyData.tuple (s.map fun r => eRow r.reverse)) = _
  unfold eS mirS
  rw [List.map_map]; rfl
theorem mirrored_once_ok (s : Sheet) (hn : s.length ≤ 5) : M_mirrored_once [eS s] = .ok (eS (mirS s)) := mir_run s hn
theorem law_mirrored_ok (s : Sheet) (hn : s.length ≤ 5) : M_law_mirrored [eS s] = .ok (eS (mirS s)) := mir_run s hn
/-- four turns of the loop that gathers the eight -/
theorem eight_run {Mm Mt : DM} (hm : ∀ {x : Sheet} {a b : Nat}, Rect x a b → a ≤ 5 → b ≤ 5 → Mm [eS x] = .ok (eS (mirS x))) (ht : ∀ {x : Sheet} {a b : Nat}, Rect x a b → a ≤ 5 → b ≤ 5 → Mt [eS x] = .ok (eS (turnS x))) {s : Sheet} {n w : Nat} (h : Rect s n w) (hn : n ≤ 5) (hw : w ≤ 5) :
    ∃ j, sFor (iR1 (mCons (mC (.int 4)) mNil)) (gN 2) (sSeq (sExt 1 (mLst (mCons (mVar 0) (mCons (mCall Mm (mCons (mVar 0) mNil)) mNil)))) (sSet 0 (mCall Mt (mCons (mVar 0) mNil)))) [.val (eS s), .own [], .un] = .nx [.val (eS s), .own ((eightS s).map eS), j] := by
  have one : ∀ {x : Sheet} {a b : Nat} (acc : List PyData) (j : Sl) (k : Int), Rect x a b → a ≤ 5 → b ≤ 5 → acc.length ≤ 50 → turn1 (gN 2) (sSeq (sExt 1 (mLst (mCons (mVar 0) (mCons (mCall Mm (mCons (mVar 0) mNil)) mNil)))) (sSet 0 (mCall Mt (mCons (mVar 0) mNil)))) (.int k) [.val (eS x), .own acc, j] = .nx [.val (eS (turnS x)), .own (acc ++ [eS x, eS (mirS x)]), .val (.int k)] := fun {x a b} acc j k hx ha hb hl => by
    have e1 : turn1 (gN 2) (sSeq (sExt 1 (mLst (mCons (mVar 0) (mCons (mCall Mm (mCons (mVar 0) mNil)) mNil)))) (sSet 0 (mCall Mt (mCons (mVar 0) mNil)))) (.int k) [.val (eS x), .own acc, j] = (sSeq (sExt 1 (mLst (mCons (mVar 0) (mCons (mCall Mm (mCons (mVar 0) mNil)) mNil)))) (sSet 0 (mCall Mt (mCons (mVar 0) mNil)))) [.val (eS x), .own acc, .val (.int k)] := rfl
    rw [e1]
    have hls : mLst (mCons (mVar 0) (mCons (mCall Mm (mCons (mVar 0) mNil)) mNil)) [.val (eS x), .own acc, .val (.int k)] = .ok (.list [eS x, eS (mirS x)]) := by
      have hc : mCons (mVar 0) (mCons (mCall Mm (mCons (mVar 0) mNil)) mNil) [.val (eS x), .own acc, .val (.int k)] = .ok [eS x, eS (mirS x)] := cons_ok rfl (cons_ok ((call_ok (ds := [eS x]) rfl).trans (hm hx ha hb)) rfl)
      unfold mLst
      rw [hc]; rfl
    refine (seq_nx (ρ' := [.val (eS x), .own (acc ++ [eS x, eS (mirS x)]), .val (.int k)]) ((ext_ok (ds := acc) (es := [eS x, eS (mirS x)]) rfl hls ?_).trans rfl)).trans ((set_ok ((call_ok (ds := [eS x]) rfl).trans (ht hx ha hb))).trans rfl)
    exact Nat.le_trans (show _ ≤ 100 by simp only [List.length_cons, List.length_nil]; omega) (by decide)
  have h1 := turn_rect h
  have h2 := turn_rect h1
  have h3 := turn_rect h2
  have hit : iR1 (mCons (mC (.int 4)) mNil) [.val (eS s), .own [], .un] = .ok [.int 0, .int 1, .int 2, .int 3] := rfl
  refine ⟨.val (.int 3), (sFor_ok hit).trans ?_⟩
  rw [forGo_cons, one [] _ 0 h hn hw (by simp)]
  simp only
  rw [forGo_cons, one _ _ 1 h1 hw hn (by simp)]
  simp only
  rw [forGo_cons, one _ _ 2 h2 hn hw (by simp)]
  simp only
  rw [forGo_cons, one _ _ 3 h3 hw hn (by simp)]
  simp only
  rw [turn4 h]
  rfl
theorem law_eight_ok {s : Sheet} {n w : Nat} (h : Rect s n w) (hn : n ≤ 5) (hw : w ≤ 5) : M_law_eight [eS s] = .ok (.list ((eightS s).map eS)) := by
  obtain ⟨j, e⟩ := eight_run (Mm := M_law_mirrored) (Mt := M_law_turned) (fun hx ha hb => law_mirrored_ok _ (by rw [hx.len]; exact ha)) (fun hx ha hb => law_turned_ok hx ha hb) h hn hw
  exact fun_rt ((seq_nx (ρ' := [.val (eS s), .own [], .un]) rfl).trans ((seq_nx e).trans rfl))
end Stm
set_option Elab.async false
set_option linter.all false
set_option maxRecDepth 100000
set_option maxHeartbeats 4000000
namespace Stm
open PySem PySem.Spec PyProof.Rows L2
/-! ### the document's order of sheets -/
def GdO (o : Option Int) : Prop := ∀ v, o = some v → 1 ≤ v ∧ v ≤ 9999
def plK (o : Option Int) : PyData := .int (o.getD 0)
def rowK (r : List (Option Int)) : PyData := .list (r.map plK)
def wkey (s : Sheet) : PyData := .tuple [.int s.length, .list (s.map rowK)]
theorem alike_row (r q : List (Option Int)) : PySem.W.alike (rowK r) (rowK q) = true := by
  unfold rowK
  rw [PySem.W.alike]
  exact alike_all (fun a b => by simp [plK, PySem.W.alike]) r q
theorem alike_wkey (a b : Sheet) : PySem.W.alike (wkey a) (wkey b) = true := by
  unfold wkey
  rw [PySem.W.alike, PySem.W.alikeAll, PySem.W.alikeAll, PySem.W.alikeAll, PySem.W.alike, PySem.W.alike]
  simp only [Bool.true_and, Bool.and_true]
  exact alike_all alike_row a b
/-- the first place that differs -/
def rowC : List (Option Int) → List (Option Int) → Option Bool
  | x :: r, y :: q => if x = y then rowC r q else some (decide (x.getD 0 < y.getD 0))
  | _, _ => none
def shC : Sheet → Sheet → Option Bool
  | r :: R, q :: Q => match rowC r q with
    | some b => some b
    | none => shC R Q
  | _, _ => none
theorem gdO_eq {x y : Option Int} (hx : GdO x) (hy : GdO y) : x = y ↔ x.getD 0 = y.getD 0 := by
  constructor
  · intro e; rw [e]
  · intro e
    cases x with
    | none =>
      cases y with
      | none => rfl
      | some v =>
        have := hy v rfl
        simp at e
        omega
    | some u =>
      cases y with
      | none =>
        have := hx u rfl
        simp at e
        omega
      | some v => simp at e; rw [e]
theorem rowC_lt : ∀ {r q : List (Option Int)}, r.length = q.length → (∀ o ∈ r, GdO o) → (∀ o ∈ q, GdO o) → lexLt itemOrd (PySem.W.keyToksAll (r.map plK)) (PySem.W.keyToksAll (q.map plK)) = (rowC r q).getD false ∧ (rowC r q = none → r = q) ∧ rowC q r = (rowC r q).map (!·)
  | [], [], _, _, _ => ⟨lex_irrefl _, fun _ => rfl, rfl⟩
  | x :: r, y :: q, hl, hr, hq => by
    have hx := hr x List.mem_cons_self
    have hy := hq y List.mem_cons_self
    obtain ⟨i1, i2, i3⟩ := rowC_lt (r := r) (q := q) (by simpa using hl) (fun o ho => hr o (List.mem_cons_of_mem _ ho)) (fun o ho => hq o (List.mem_cons_of_mem _ ho))
    have ha : PySem.W.alike (plK x) (plK y) = true := by simp [plK, PySem.W.alike]
    by_cases e : x = y
    · subst e
      have hc : rowC (x :: r) (x :: q) = rowC r q := by rw [rowC, if_pos rfl]
      have hc2 : rowC (x :: q) (x :: r) = rowC q r := by rw [rowC, if_pos rfl]
      refine ⟨?_, fun h => by rw [i2 (hc ▸ h)], by rw [hc, hc2, i3]⟩
      rw [hc, List.map_cons, List.map_cons, PySem.W.dataLt_all_yes ha (PySem.W.eqv_refl_alike _ ha)]
      exact i1
    · have hne : x.getD 0 ≠ y.getD 0 := fun z => e ((gdO_eq hx hy).mpr z)
      have hc : rowC (x :: r) (y :: q) = some (decide (x.getD 0 < y.getD 0)) := by rw [rowC, if_neg e]
      have hc2 : rowC (y :: q) (x :: r) = some (decide (y.getD 0 < x.getD 0)) := by rw [rowC, if_neg (fun z => e z.symm)]
      refine ⟨?_, fun h => (by rw [hc] at h; cases h), ?_⟩
      · have hq2 : PyData.eqv (plK x) (plK y) = false := by
          unfold plK
          rw [Enc.int.eqv, decide_eq_false hne]
        rw [hc, List.map_cons, List.map_cons, PySem.W.dataLt_all_no ha hq2]
        exact PySem.W.dataLt_int _ _
      · rw [hc, hc2]
        show some _ = some (!_)
        congr 1
        rw [← decide_not, decide_eq_decide]
        omega
theorem eqv_row {r q : List (Option Int)} (h : rowC r q = none) (hl : r.length = q.length) (hr : ∀ o ∈ r, GdO o) (hq : ∀ o ∈ q, GdO o) : PyData.eqv (rowK r) (rowK q) = true := by
  rw [(rowC_lt hl hr hq).2.1 h]
  exact PySem.W.eqv_refl_alike _ (alike_row q q)
theorem enc_plK (xs ys : List (Option Int)) (hx : ∀ o ∈ xs, GdO o) (hy : ∀ o ∈ ys, GdO o) : xs.map plK = ys.map plK → xs = ys := by
  induction xs generalizing ys with
  | nil => intro e; cases ys with
    | nil => rfl
    | cons y ys => cases e
  | cons x xs ih =>
    intro e
    cases ys with
    | nil => cases e
    | cons y ys =>
      simp only [List.map_cons, List.cons.injEq] at e
      have e1 : x.getD 0 = y.getD 0 := by
        have := e.1
        unfold plK at this
        injection this
      rw [(gdO_eq (hx x List.mem_cons_self) (hy y List.mem_cons_self)).mpr e1, ih ys (fun o ho => hx o (List.mem_cons_of_mem _ ho)) (fun o ho => hy o (List.mem_cons_of_mem _ ho)) e.2]
theorem neqv_row {r q : List (Option Int)} {b : Bool} (h : rowC r q = some b) (hl : r.length = q.length) (hr : ∀ o ∈ r, GdO o) (hq : ∀ o ∈ q, GdO o) : PyData.eqv (rowK r) (rowK q) = false := by
  cases z : PyData.eqv (rowK r) (rowK q) with
  | false => rfl
  | true =>
    have hp : ∀ x : List (Option Int), pl (rowK x) = true := fun x => by
      unfold rowK
      simp only [pl]
      exact plAll_iff.mpr fun d hd => by
        obtain ⟨o, _, rfl⟩ := List.mem_map.mp hd
        simp [plK, pl]
    have e := (eqv_pl _ _ (hp r) (hp q)).mp z
    unfold rowK at e
    injection e with e
    have e2 := enc_plK r q hr hq e
    subst e2
    have : ∀ x : List (Option Int), rowC x x = none := fun x => by
      induction x with
      | nil => rfl
      | cons a x ih => rw [rowC, if_pos rfl, ih]
    rw [this] at h; cases h
theorem shC_lt {w : Nat} : ∀ {R Q : Sheet}, R.length = Q.length → (∀ r ∈ R, r.length = w) → (∀ q ∈ Q, q.length = w) → (∀ r ∈ R, ∀ o ∈ r, GdO o) → (∀ q ∈ Q, ∀ o ∈ q, GdO o) → lexLt itemOrd (PySem.W.keyToksAll (R.map rowK)) (PySem.W.keyToksAll (Q.map rowK)) = (shC R Q).getD false ∧ (shC R Q = none → R = Q) ∧ shC Q R = (shC R Q).map (!·)
  | [], [], _, _, _, _, _ => ⟨lex_irrefl _, fun _ => rfl, rfl⟩
  | r :: R, q :: Q, hl, hr, hq, gr, gq => by
    have hrq : r.length = q.length := by rw [hr r List.mem_cons_self, hq q List.mem_cons_self]
    have g1 := gr r List.mem_cons_self
    have g2 := gq q List.mem_cons_self
    obtain ⟨i1, i2, i3⟩ := shC_lt (R := R) (Q := Q) (by simpa using hl) (fun x hx => hr x (List.mem_cons_of_mem _ hx)) (fun x hx => hq x (List.mem_cons_of_mem _ hx)) (fun x hx => gr x (List.mem_cons_of_mem _ hx)) (fun x hx => gq x (List.mem_cons_of_mem _ hx))
    obtain ⟨j1, j2, j3⟩ := rowC_lt hrq g1 g2
    have ha := alike_row r q
    cases h : rowC r q with
    | none =>
      have hc : shC (r :: R) (q :: Q) = shC R Q := by rw [shC, h]
      have hc2 : shC (q :: Q) (r :: R) = shC Q R := by rw [shC, j3, h]; rfl
      refine ⟨?_, fun z => by rw [i2 (hc ▸ z), j2 h], by rw [hc, hc2, i3]⟩
      rw [hc, List.map_cons, List.map_cons, PySem.W.dataLt_all_yes ha (eqv_row h hrq g1 g2)]
      exact i1
    | some b =>
      have hc : shC (r :: R) (q :: Q) = some b := by rw [shC, h]
      have hc2 : shC (q :: Q) (r :: R) = some (!b) := by rw [shC, j3, h]; rfl
      refine ⟨?_, fun z => (by rw [hc] at z; cases z), by rw [hc, hc2]; rfl⟩
      rw [hc, List.map_cons, List.map_cons, PySem.W.dataLt_all_no ha (neqv_row h hrq g1 g2)]
      show PySem.W.dataLt (.list (r.map plK)) (.list (q.map plK)) = _
      rw [PySem.W.dataLt_list, j1, h]
/-- a comes ahead of b -/
def aheadB (a b : Sheet) : Bool := if a.length = b.length then (shC a b).getD false else decide (a.length < b.length)
def leS (a b : Sheet) : Bool := dle (wkey a) (wkey b)
structure Pair (a b : Sheet) : Prop where
  ga : ∀ r ∈ a, ∀ o ∈ r, GdO o
  gb : ∀ r ∈ b, ∀ o ∈ r, GdO o
  wd : a.length = b.length → ∃ w, (∀ r ∈ a, r.length = w) ∧ ∀ r ∈ b, r.length = w
theorem Pair.symm {a b : Sheet} (h : Pair a b) : Pair b a := ⟨h.gb, h.ga, fun e => by obtain ⟨w, h1, h2⟩ := h.wd e.symm; exact ⟨w, h2, h1⟩⟩
theorem lt_wkey {a b : Sheet} (h : Pair a b) : PySem.W.dataLt (wkey a) (wkey b) = aheadB a b := by
  unfold wkey aheadB
  rw [PySem.W.dataLt_tuple]
  have h1 : PySem.W.alike (.int (a.length : Int)) (.int (b.length : Int)) = true := by simp [PySem.W.alike]
  by_cases e : a.length = b.length
  · rw [if_pos e]
    obtain ⟨w, ha, hb⟩ := h.wd e
    obtain ⟨j1, j2, j3⟩ := shC_lt e ha hb h.ga h.gb
    have e1 : PyData.eqv (.int (a.length : Int)) (.int (b.length : Int)) = true := by rw [Enc.int.eqv, decide_eq_true (by rw [e])]
    rw [PySem.W.dataLt_all_yes h1 e1]
    have h2 : PySem.W.alike (.list (a.map rowK)) (.list (b.map rowK)) = true := by
      rw [PySem.W.alike]
      exact alike_all alike_row a b
    cases z : PyData.eqv (.list (a.map rowK)) (.list (b.map rowK)) with
    | true =>
      rw [PySem.W.dataLt_all_yes h2 z]
      have e2 := (PySem.W.toks_eqv _ _ h2).1 z
      have e3 : PySem.W.keyToksAll (a.map rowK) = PySem.W.keyToksAll (b.map rowK) := by
        simpa only [PySem.W.keyToks] using e2
      rw [← j1, e3, lex_irrefl, lex_irrefl]
    | false =>
      rw [PySem.W.dataLt_all_no h2 z, PySem.W.dataLt_list]
      exact j1
  · rw [if_neg e]
    have e1 : PyData.eqv (.int (a.length : Int)) (.int (b.length : Int)) = false := by rw [Enc.int.eqv, decide_eq_false (by omega)]
    rw [PySem.W.dataLt_all_no h1 e1, PySem.W.dataLt_int, decide_eq_decide]
    omega
theorem leS_eq {a b : Sheet} (h : Pair a b) : leS a b = !aheadB b a := by
  rw [← lt_wkey h.symm]; rfl
theorem leS_anti {a b : Sheet} (h : Pair a b) (h1 : leS a b = true) (h2 : leS b a = true) : a = b := by
  rw [leS_eq h, Bool.not_eq_true'] at h1
  rw [leS_eq h.symm, Bool.not_eq_true'] at h2
  unfold aheadB at h1 h2
  by_cases e : a.length = b.length
  · rw [if_pos e.symm] at h1
    rw [if_pos e] at h2
    obtain ⟨w, ha, hb⟩ := h.wd e
    obtain ⟨j1, j2, j3⟩ := shC_lt e ha hb h.ga h.gb
    cases z : shC a b with
    | none => exact j2 z
    | some c =>
      rw [z] at h2 j3
      rw [j3] at h1
      cases c with
      | true => cases h2
      | false => cases h1
  · rw [if_neg (fun z => e z.symm), decide_eq_false_iff_not] at h1
    rw [if_neg e, decide_eq_false_iff_not] at h2
    omega
def IsLeast (E : List Sheet) (x : Sheet) : Prop := x ∈ E ∧ ∀ y ∈ E, leS x y = true
theorem least_uniq {E : List Sheet} (hp : ∀ a ∈ E, ∀ b ∈ E, Pair a b) {x y : Sheet} (h : IsLeast E x) (g : IsLeast E y) : x = y := leS_anti (hp _ h.1 _ g.1) (h.2 _ g.1) (g.2 _ h.1)
theorem least_same {E D : List Sheet} (h : ∀ y, y ∈ E ↔ y ∈ D) {x : Sheet} (g : IsLeast E x) : IsLeast D x := ⟨(h x).mp g.1, fun y hy => g.2 y ((h y).mpr hy)⟩
theorem tot_leS : PySem.W.TotalLe leS := tot_of wkey
theorem least_fold {E : List Sheet} (hp : ∀ a ∈ E, ∀ b ∈ E, Pair a b) : ∀ (pre post : List Sheet) (x : Sheet), E = pre ++ post → x ∈ E → (∀ y ∈ pre, leS x y = true) → IsLeast E (post.foldl (fun d o => if aheadB o d = true then o else d) x)
  | pre, [], x, e, hx, h => ⟨hx, fun y hy => h y (by rw [e, List.append_nil] at hy; exact hy)⟩
  | pre, o :: post, x, e, hx, h => by
    have ho : o ∈ E := by rw [e]; simp
    rw [List.foldl_cons]
    refine least_fold hp (pre ++ [o]) post _ (by rw [e, List.append_assoc]; rfl) ?_ fun y hy => ?_
    · split <;> assumption
    · have hxo := leS_eq (hp x hx o ho)
      rcases List.mem_append.mp hy with hy | hy
      · split
        · rename_i ha
          have h1 := tot_leS.total o x
          rw [hxo, ha] at h1
          have h2 : leS o x = true := by simpa using h1
          exact tot_leS.trans _ _ _ h2 (h y hy)
        · exact h y hy
      · rw [List.mem_singleton.mp hy]
        split
        · have := tot_leS.total o o
          simpa using this
        · rename_i ha
          rw [hxo]
          simpa using ha
end Stm
set_option Elab.async false
set_option linter.all false
set_option maxRecDepth 100000
set_option maxHeartbeats 4000000
namespace Stm
open PySem PySem.Spec PyProof.Rows L2
/-- worth_order -/
def M_worth_order : DM := mFun 3 (sSeq (sOwnL 1 mNil) (sSeq (sFor (iA (mVar 0)) (gN 2) (sApp 1 (mLc [3] (iA (mVar 2)) (gN 3) mYes (m2 dIx (mLst (mCons (mVar 3) (mCons (mC (.int 0)) mNil))) (mCB dToIntA (mCons (m2 dIsN (mVar 3) (mC .none)) mNil)))))) (sSeq (sFrz 1) (sRet (mTup (mCons (mCB dLen (mCons (mVar 0) mNil)) (mCons (mVar 1) mNil)))))))
/-- least_of -/
def M_least_of : DM := mFun 2 (sSeq (sOwnL 1 mNil) (sSeq (sFor (iR1 (mCons (mC (.int 4)) mNil)) (gN 2) (sSeq (sExt 1 (mLst (mCons (mVar 0) (mCons (mCall M_mirrored_once (mCons (mVar 0) mNil)) mNil)))) (sSet 0 (mCall M_turned_once (mCons (mVar 0) mNil))))) (sRet (m2 dIx (mSortK M_worth_order (mOwn 1)) (mC (.int 0))))))
/-- least -/
def M_least : DM := mFun 0 (sRet (mCall M_least_of (mCons (mCall M_checked (mCons (mVar 0) mNil)) mNil)))
/-- alike -/
def M_alike : DM := mFun 0 (sSeq (sExpr (mCall M_checked (mCons (mVar 0) mNil))) (sSeq (sExpr (mCall M_checked (mCons (mVar 1) mNil))) (sRet (m2 dEq (mCall M_least_of (mCons (mVar 0) mNil)) (mCall M_least_of (mCons (mVar 1) mNil))))))
/-- _law_ahead -/
def M_law_ahead : DM := mFun 4 (sSeq (sIf (mB (m2 dNe (mCB dLen (mCons (mVar 0) mNil)) (mCB dLen (mCons (mVar 1) mNil)))) (sRet (m2 dLt (mCB dLen (mCons (mVar 0) mNil)) (mCB dLen (mCons (mVar 1) mNil)))) sNil) (sSeq (sFor (iZip (mCons (mVar 0) (mCons (mVar 1) mNil))) (gN2 2 3) (sFor (iZip (mCons (mVar 2) (mCons (mVar 3) mNil))) (gN2 4 5) (sIf (mB (m2 dNe (mVar 4) (mVar 5))) (sRet (mOrV (m2 dIsN (mVar 4) (mC .none)) (mAndV (m2 dIsNotN (mVar 5) (mC .none)) (m2 dLt (mVar 4) (mVar 5))))) sNil))) (sRet (mC (.bool false)))))
/-- law -/
def M_law : DM := mFun 8 (sSeq (sSet 1 (mCall M_law_sheet (mCons (mVar 0) (mCons (mC (.int 20)) (mCons (mC (.int 6)) mNil))))) (sSeq (sIf (mOr (mB (m2 dNe (mCall M_turned (mCons (mVar 1) mNil)) (mCall M_law_turned (mCons (mVar 1) mNil)))) (mB (m2 dNe (mCall M_mirrored (mCons (mVar 1) mNil)) (mCall M_law_mirrored (mCons (mVar 1) mNil))))) (sRet (mC (.bool false))) sNil) (sSeq (sSet 2 (mCall M_law_eight (mCons (mVar 1) mNil))) (sSeq (sSet 3 (mVar 1)) (sSeq (sFor (iA (mVar 2)) (gN 4) (sIf (mB (mCall M_law_ahead (mCons (mVar 4) (mCons (mVar 3) mNil)))) (sSet 3 (mVar 4)) sNil)) (sSeq (sIf (mB (m2 dNe (mCall M_least (mCons (mVar 1) mNil)) (mVar 3))) (sRet (mC (.bool false))) sNil) (sSeq (sSet 5 (m2 dIx (mVar 2) (mCall M_law_mixed (mCons (mVar 0) (mCons (mC (.int 0)) (mCons (mC (.int 8)) mNil)))))) (sSeq (sIf (mOr (mB (m2 dNe (mCall M_least (mCons (mVar 5) mNil)) (mVar 3))) (mB (m2 dIsNotB (mCall M_alike (mCons (mVar 1) (mCons (mVar 5) mNil))) (mC (.bool true))))) (sRet (mC (.bool false))) sNil) (sSeq (sSet 6 (mCall M_law_sheet (mCons (mVar 0) (mCons (mC (.int 42)) (mCons (mC (.int 6)) mNil))))) (sSeq (sSet 7 (mCall M_alike (mCons (mVar 1) (mCons (mVar 6) mNil)))) (sSeq (sIf (mOr (mNot (mB (mIsi "bool" (mVar 7)))) (mB (m2 dNe (mVar 7) (m2 dIn (mVar 6) (mVar 2))))) (sRet (mC (.bool false))) sNil) (sSeq (sSet 8 (mLc [4] (iA (mCall M_law_parted (mCons (mVar 0) (mCons (mC (.int 1)) (mCons (mVar 1) mNil))))) (gN 4) mYes (mCall M_law_worth (mCons (mVar 1) (mCons (mVar 4) mNil))))) (sSeq (sIf (mOr (mB (m2 dNe (mCall M_fewest_tears (mCons (mVar 5) (mCons (mVar 8) mNil))) (mCall M_fewest_tears (mCons (mVar 1) (mCons (mVar 8) mNil))))) (mB (m2 dNe (mCall M_first_missing (mCons (mVar 5) (mCons (mC (.int 12)) mNil))) (mCall M_first_missing (mCons (mVar 1) (mCons (mC (.int 12)) mNil)))))) (sRet (mC (.bool false))) sNil) (sRet (mAndV (m2 dEq (mCall M_worths (mCons (mVar 5) (mCons (mC (.int 3)) mNil))) (mCall M_worths (mCons (mVar 1) (mCons (mC (.int 3)) mNil)))) (m2 dEq (mCall M_counts (mCons (mVar 5) mNil)) (mCall M_counts (mCons (mVar 1) mNil))))))))))))))))))
end Stm
set_option Elab.async false
set_option linter.all false
set_option maxRecDepth 100000
set_option maxHeartbeats 4000000
namespace Stm
open PySem PySem.Spec PyProof.Rows L2
/-! ### the key -/
theorem wo_place {a b c : Sl} (o : Option Int) : (m2 dIx (mLst (mCons (mVar 3) (mCons (mC (.int 0)) mNil))) (mCB dToIntA (mCons (m2 dIsN (mVar 3) (mC .none)) mNil))) [a, b, c, .val (eO o)] = .ok (plK o) := by
  cases o with
  | none => rfl
  | some v => rfl
theorem worth_order_ok {s : Sheet} (hn : s.length ≤ 5) (hw : ∀ r ∈ s, r.length ≤ 5) : M_worth_order [eS s] = .ok (wkey s) := by
  have key := for_pre (enc := eRow) (t := gN 2) (mb := (sApp 1 (mLc [3] (iA (mVar 2)) (gN 3) mYes (m2 dIx (mLst (mCons (mVar 3) (mCons (mC (.int 0)) mNil))) (mCB dToIntA (mCons (m2 dIsN (mVar 3) (mC .none)) mNil))))))
    (xs := s) (J := Sl) (fun pre j => [.val (eS s), .own (pre.map rowK), j, .un]) (fun pre r post j e => by
      have hr : r ∈ s := by rw [e]; simp
      refine ⟨.val (eRow r), ?_⟩
      unfold turn1
      have ht : gN 2 (eRow r) [.val (eS s), .own (pre.map rowK), j, .un] = some [.val (eS s), .own (pre.map rowK), .val (eRow r), .un] := rfl
      rw [ht]
      simp only
      have h1 := mLc_ok (vs := [3]) (mi := iA (mVar 2)) (t := gN 3) (mt := mYes) (me := (m2 dIx (mLst (mCons (mVar 3) (mCons (mC (.int 0)) mNil))) (mCB dToIntA (mCons (m2 dIsN (mVar 3) (mC .none)) mNil)))) (ρ := [.val (eS s), .own (pre.map rowK), .val (eRow r), .un]) (iA_tuple (ds := r.map eO) rfl) (by rw [List.length_map]; exact lim5 (hw r hr))
        (lc_all (enc := eO) plK r fun o _ => ⟨_, rfl, wo_place o⟩)
      refine (app_ok (ds := pre.map rowK) (d := rowK r) rfl h1 ?_).trans ?_
      · rw [List.length_map]
        have : pre.length < s.length := by rw [e, List.length_append, List.length_cons]; omega
        exact Nat.lt_of_lt_of_le (show _ < 100 by omega) (by decide)
      · rw [List.map_append]; rfl) .un
  obtain ⟨j, ej⟩ := key
  refine fun_rt ((seq_nx (ρ' := [.val (eS s), .own [], .un, .un]) rfl).trans ((seq_nx (ρ' := [.val (eS s), .own (s.map rowK), j, .un]) ((sFor_ok (iA_tuple (ds := s.map eRow) rfl)).trans ej)).trans ((seq_nx (ρ' := [.val (eS s), .val (.list (s.map rowK)), j, .un]) rfl).trans (ret_ok ?_))))
  have hc : (mCons (mCB dLen (mCons (mVar 0) mNil)) (mCons (mVar 1) mNil)) [.val (eS s), .val (.list (s.map rowK)), j, .un] = .ok [.int s.length, .list (s.map rowK)] := cons_ok ((cb_ok (ds := [eS s]) rfl).trans (by
    show Res.ok (PyData.int ((s.map eRow).length : Int)) = _
    rw [List.length_map])) (cons_ok rfl rfl)
  unfold mTup
  rw [hc]; rfl
theorem keysM_map {M : DM} : ∀ {E : List Sheet}, (∀ x ∈ E, M [eS x] = .ok (wkey x)) → keysM M (E.map eS) = some (E.map wkey)
  | [], _ => rfl
  | x :: E, h => by
    rw [List.map_cons, keysM, h x List.mem_cons_self]
    show (keysM M (E.map eS)).map (wkey x :: ·) = _
    rw [keysM_map fun y hy => h y (List.mem_cons_of_mem _ hy)]; rfl
theorem wkey_depth (s : Sheet) : (wkey s).depth ≤ 50 := by
  have h1 : ∀ r : List (Option Int), (rowK r).depth ≤ 1 := fun r => by
    unfold rowK
    simp only [PyData.depth]
    exact Nat.succ_le_succ (depthAll_le fun d hd => by
      obtain ⟨o, _, rfl⟩ := List.mem_map.mp hd
      simp [plK, PyData.depth])
  have h2 : PyData.depthAll (s.map rowK) ≤ 1 := depthAll_le fun d hd => by
    obtain ⟨r, _, rfl⟩ := List.mem_map.mp hd
    exact h1 r
  unfold wkey
  simp only [PyData.depth, PyData.depthAll]
  omega
theorem goodK_map (E : List Sheet) : goodK (E.map wkey) = true := by
  unfold goodK
  simp only [Bool.and_eq_true, List.all_eq_true, decide_eq_true_eq]
  refine ⟨fun k hk k' hk' => ?_, fun k hk => ?_, fun k hk => ?_⟩
  · obtain ⟨a, _, rfl⟩ := List.mem_map.mp hk
    obtain ⟨b, _, rfl⟩ := List.mem_map.mp hk'
    exact alike_wkey a b
  · obtain ⟨a, _, rfl⟩ := List.mem_map.mp hk
    rfl
  · obtain ⟨a, _, rfl⟩ := List.mem_map.mp hk
    exact wkey_depth a
theorem sortK_map (E : List Sheet) : sortK (E.map eS) (E.map wkey) = (E.mergeSort leS).map eS := by
  unfold sortK
  have h1 : (E.map eS).zip (E.map wkey) = E.map fun x => (eS x, wkey x) := List.zip_map'
  have h2 : (E.mergeSort leS).map (fun x => (eS x, wkey x)) = (E.map fun x => (eS x, wkey x)).mergeSort (PySem.W.dataLe false Prod.snd) := List.map_mergeSort fun a _ b _ => rfl
  rw [h1, ← h2, List.map_map]; rfl
theorem eight_dims {s z : Sheet} (v : Valid s) (hz : z ∈ eightS s) : z.length ≤ 5 ∧ ∀ r ∈ z, r.length ≤ 5 := by
  have vz := eight_valid v hz
  obtain ⟨w, _, w2, e⟩ := vz.cols
  exact ⟨vz.rows.2, fun r hr => by rw [e r hr]; exact w2⟩
theorem least_of_ok {s : Sheet} (v : Valid s) : ∃ x, M_least_of [eS s] = .ok (eS x) ∧ IsLeast (eightS s) x := by
  obtain ⟨n, w, h, hn, hw⟩ := rect_valid v
  obtain ⟨j, e⟩ := eight_run (Mm := M_mirrored_once) (Mt := M_turned_once) (fun hx ha hb => mirrored_once_ok _ (by rw [hx.len]; exact ha)) (fun hx ha hb => turned_once_ok hx ha hb) h hn hw
  have hp := List.mergeSort_perm (eightS s) leS
  have hso := List.pairwise_mergeSort (le := leS) (fun a b c h1 h2 => tot_leS.trans _ _ _ h1 h2) (fun a b => by
    have := tot_leS.total a b
    simpa using this) (eightS s)
  have hsort : mSortK M_worth_order (mOwn 1) [.val (eS s), .own ((eightS s).map eS), j] = .ok (.list (((eightS s).mergeSort leS).map eS)) := by
    have hk := keysM_map (M := M_worth_order) (E := eightS s) fun x hx => worth_order_ok (eight_dims v hx).1 (eight_dims v hx).2
    show (match keysM M_worth_order ((eightS s).map eS) with
      | some ks => if goodK ks = true ∧ ((eightS s).map eS).length ≤ 100 then Res.ok (PyData.list (sortK ((eightS s).map eS) ks)) else .stuck
      | none => .stuck) = _
    rw [hk]
    simp only
    rw [if_pos ⟨goodK_map _, by rw [List.length_map]; exact (by decide : 8 ≤ 100)⟩, sortK_map]
  cases hq : (eightS s).mergeSort leS with
  | nil =>
    have := hp.length_eq
    rw [hq] at this
    simp [eightS] at this
  | cons x q =>
    rw [hq] at hsort hp hso
    refine ⟨x, fun_rt ((seq_nx (ρ' := [.val (eS s), .own [], .un]) rfl).trans ((seq_nx e).trans (ret_ok (m2_ok hsort rfl (dIx_nat (j := 0) rfl))))), hp.mem_iff.mp List.mem_cons_self, fun y hy => ?_⟩
    have hy2 := hp.mem_iff.mpr hy
    rcases List.mem_cons.mp hy2 with rfl | hy2
    · have := tot_leS.total y y
      simpa using this
    · exact (List.pairwise_cons.mp hso).1 y hy2

/-! ### ahead -/
theorem ah_inner {A B R Q : Sl} : ∀ {r q : List (Option Int)} (x y : Sl), r.length = q.length → (∀ o ∈ r, GdO o) → (∀ o ∈ q, GdO o) →
    match rowC r q with
    | some c => forGo (gN2 4 5) (sIf (mB (m2 dNe (mVar 4) (mVar 5))) (sRet (mOrV (m2 dIsN (mVar 4) (mC .none)) (mAndV (m2 dIsNotN (mVar 5) (mC .none)) (m2 dLt (mVar 4) (mVar 5))))) sNil) ((r.zip q).map fun p => PyData.tuple [eO p.1, eO p.2]) [A, B, R, Q, x, y] = .rt (.bool c)
    | none => ∃ x' y', forGo (gN2 4 5) (sIf (mB (m2 dNe (mVar 4) (mVar 5))) (sRet (mOrV (m2 dIsN (mVar 4) (mC .none)) (mAndV (m2 dIsNotN (mVar 5) (mC .none)) (m2 dLt (mVar 4) (mVar 5))))) sNil) ((r.zip q).map fun p => PyData.tuple [eO p.1, eO p.2]) [A, B, R, Q, x, y] = .nx [A, B, R, Q, x', y']
  | [], [], x, y, _, _, _ => ⟨x, y, rfl⟩
  | a :: r, b :: q, x, y, hl, hr, hq => by
    have ga := hr a List.mem_cons_self
    have gb := hq b List.mem_cons_self
    have ht : turn1 (gN2 4 5) (sIf (mB (m2 dNe (mVar 4) (mVar 5))) (sRet (mOrV (m2 dIsN (mVar 4) (mC .none)) (mAndV (m2 dIsNotN (mVar 5) (mC .none)) (m2 dLt (mVar 4) (mVar 5))))) sNil) (.tuple [eO a, eO b]) [A, B, R, Q, x, y] = (sIf (mB (m2 dNe (mVar 4) (mVar 5))) (sRet (mOrV (m2 dIsN (mVar 4) (mC .none)) (mAndV (m2 dIsNotN (mVar 5) (mC .none)) (m2 dLt (mVar 4) (mVar 5))))) sNil) [A, B, R, Q, .val (eO a), .val (eO b)] := rfl
    have hc : mB (m2 dNe (mVar 4) (mVar 5)) [A, B, R, Q, .val (eO a), .val (eO b)] = .ok (!decide (a = b)) := t_b (m2_ok rfl rfl (encO.dNe (by decide) a b))
    rw [rowC]
    by_cases e : a = b
    · rw [if_pos e]
      rw [decide_eq_true e] at hc
      have ih := ah_inner (A := A) (B := B) (R := R) (Q := Q) (r := r) (q := q) (.val (eO a)) (.val (eO b)) (by simpa using hl) (fun o ho => hr o (List.mem_cons_of_mem _ ho)) (fun o ho => hq o (List.mem_cons_of_mem _ ho))
      have h1 := ht.trans ((if_f hc).trans rfl)
      have h2 : ∀ z, forGo (gN2 4 5) (sIf (mB (m2 dNe (mVar 4) (mVar 5))) (sRet (mOrV (m2 dIsN (mVar 4) (mC .none)) (mAndV (m2 dIsNotN (mVar 5) (mC .none)) (m2 dLt (mVar 4) (mVar 5))))) sNil) ((r.zip q).map fun p => PyData.tuple [eO p.1, eO p.2]) [A, B, R, Q, .val (eO a), .val (eO b)] = z → forGo (gN2 4 5) (sIf (mB (m2 dNe (mVar 4) (mVar 5))) (sRet (mOrV (m2 dIsN (mVar 4) (mC .none)) (mAndV (m2 dIsNotN (mVar 5) (mC .none)) (m2 dLt (mVar 4) (mVar 5))))) sNil) (((a :: r).zip (b :: q)).map fun p => PyData.tuple [eO p.1, eO p.2]) [A, B, R, Q, x, y] = z := fun z hz => by
        rw [List.zip_cons_cons, List.map_cons, forGo_cons, h1]
        exact hz
      cases hrc : rowC r q with
      | none =>
        rw [hrc] at ih
        obtain ⟨x', y', hh⟩ := ih
        exact ⟨x', y', h2 _ hh⟩
      | some c =>
        rw [hrc] at ih
        exact h2 _ ih
    · rw [if_neg e]
      rw [decide_eq_false e] at hc
      have hv : (mOrV (m2 dIsN (mVar 4) (mC .none)) (mAndV (m2 dIsNotN (mVar 5) (mC .none)) (m2 dLt (mVar 4) (mVar 5)))) [A, B, R, Q, .val (eO a), .val (eO b)] = .ok (.bool (decide (a.getD 0 < b.getD 0))) := by
        cases a with
        | none =>
          cases b with
          | none => exact absurd rfl e
          | some v =>
            have := gb v rfl
            have h9 : decide ((none : Option Int).getD 0 < (some v).getD 0) = true := decide_eq_true (by simp; omega)
            rw [h9]; rfl
        | some u =>
          cases b with
          | none =>
            have := ga u rfl
            have h9 : decide ((some u).getD 0 < (none : Option Int).getD 0) = false := decide_eq_false (by simp; omega)
            rw [h9]; rfl
          | some v => rfl
      show forGo _ _ (((a :: r).zip (b :: q)).map fun p => PyData.tuple [eO p.1, eO p.2]) [A, B, R, Q, x, y] = _
      rw [List.zip_cons_cons, List.map_cons, forGo_cons, ht.trans ((if_t hc).trans (ret_ok hv))]
abbrev ahB : SM := (sFor (iZip (mCons (mVar 2) (mCons (mVar 3) mNil))) (gN2 4 5) (sIf (mB (m2 dNe (mVar 4) (mVar 5))) (sRet (mOrV (m2 dIsN (mVar 4) (mC .none)) (mAndV (m2 dIsNotN (mVar 5) (mC .none)) (m2 dLt (mVar 4) (mVar 5))))) sNil))
theorem zipD_map {α : Type} (f : α → PyData) (a b : List α) : zipD (a.map f) (b.map f) = (a.zip b).map fun p => PyData.tuple [f p.1, f p.2] := by
  unfold zipD
  rw [List.zip_map, List.map_map]; rfl
theorem ah_outer {A B : Sl} {w : Nat} : ∀ {R Q : Sheet} (a b x y : Sl), R.length = Q.length → (∀ r ∈ R, r.length = w) → (∀ q ∈ Q, q.length = w) → (∀ r ∈ R, ∀ o ∈ r, GdO o) → (∀ q ∈ Q, ∀ o ∈ q, GdO o) →
    match shC R Q with
    | some c => forGo (gN2 2 3) ahB ((R.zip Q).map fun p => PyData.tuple [eRow p.1, eRow p.2]) [A, B, a, b, x, y] = .rt (.bool c)
    | none => ∃ ρ', forGo (gN2 2 3) ahB ((R.zip Q).map fun p => PyData.tuple [eRow p.1, eRow p.2]) [A, B, a, b, x, y] = .nx ρ'
  | [], [], a, b, x, y, _, _, _, _, _ => ⟨_, rfl⟩
  | r :: R, q :: Q, a, b, x, y, hl, hr, hq, gr, gq => by
    have hrq : r.length = q.length := by rw [hr r List.mem_cons_self, hq q List.mem_cons_self]
    have hin := ah_inner (A := A) (B := B) (R := .val (eRow r)) (Q := .val (eRow q)) (r := r) (q := q) x y hrq (gr r List.mem_cons_self) (gq q List.mem_cons_self)
    have hit : iZip (mCons (mVar 2) (mCons (mVar 3) mNil)) [A, B, .val (eRow r), .val (eRow q), x, y] = .ok ((r.zip q).map fun p => PyData.tuple [eO p.1, eO p.2]) := by
      show Res.ok (zipD (r.map eO) (q.map eO)) = _
      rw [zipD_map]
    have ht : turn1 (gN2 2 3) ahB (.tuple [eRow r, eRow q]) [A, B, a, b, x, y] = ahB [A, B, .val (eRow r), .val (eRow q), x, y] := rfl
    have ht2 := ht.trans (sFor_ok hit)
    rw [shC]
    cases hrc : rowC r q with
    | some c =>
      rw [hrc] at hin
      show forGo _ _ (((r :: R).zip (q :: Q)).map fun p => PyData.tuple [eRow p.1, eRow p.2]) [A, B, a, b, x, y] = _
      rw [List.zip_cons_cons, List.map_cons, forGo_cons, ht2, hin]
    | none =>
      rw [hrc] at hin
      obtain ⟨x', y', hh⟩ := hin
      have ih := ah_outer (A := A) (B := B) (R := R) (Q := Q) (.val (eRow r)) (.val (eRow q)) x' y' (by simpa using hl) (fun z hz => hr z (List.mem_cons_of_mem _ hz)) (fun z hz => hq z (List.mem_cons_of_mem _ hz)) (fun z hz => gr z (List.mem_cons_of_mem _ hz)) (fun z hz => gq z (List.mem_cons_of_mem _ hz))
      have h2 : ∀ z, forGo (gN2 2 3) ahB ((R.zip Q).map fun p => PyData.tuple [eRow p.1, eRow p.2]) [A, B, .val (eRow r), .val (eRow q), x', y'] = z → forGo (gN2 2 3) ahB (((r :: R).zip (q :: Q)).map fun p => PyData.tuple [eRow p.1, eRow p.2]) [A, B, a, b, x, y] = z := fun z hz => by
        rw [List.zip_cons_cons, List.map_cons, forGo_cons, ht2, hh]
        exact hz
      simp only
      cases hsc : shC R Q with
      | none =>
        rw [hsc] at ih
        obtain ⟨ρ', hh2⟩ := ih
        exact ⟨ρ', h2 _ hh2⟩
      | some c =>
        rw [hsc] at ih
        exact h2 _ ih
theorem law_ahead_ok {a b : Sheet} (h : Pair a b) : M_law_ahead [eS a, eS b] = .ok (.bool (aheadB a b)) := by
  have hl : ∀ (k : Nat) (s : Sheet) (ρ : Rho), ρ[k]? = some (.val (eS s)) → mCB dLen (mCons (mVar k) mNil) ρ = .ok (.int (s.length : Int)) := fun k s ρ hρ => (cb_ok (ds := [eS s]) (cons_ok (by unfold mVar; rw [hρ]) rfl)).trans (by
    show Res.ok (PyData.int ((s.map eRow).length : Int)) = _
    rw [List.length_map])
  have hc : mB (m2 dNe (mCB dLen (mCons (mVar 0) mNil)) (mCB dLen (mCons (mVar 1) mNil))) [.val (eS a), .val (eS b), .un, .un, .un, .un] = .ok (!decide ((a.length : Int) = b.length)) := t_b (m2_ok (hl 0 a _ rfl) (hl 1 b _ rfl) (Enc.int.dNe (by decide) _ _))
  unfold aheadB
  by_cases e : a.length = b.length
  · rw [if_pos e]
    rw [decide_eq_true (by rw [e])] at hc
    obtain ⟨w, ha, hb⟩ := h.wd e
    have ho := ah_outer (A := .val (eS a)) (B := .val (eS b)) (R := a) (Q := b) .un .un .un .un e ha hb h.ga h.gb
    have hit : iZip (mCons (mVar 0) (mCons (mVar 1) mNil)) [.val (eS a), .val (eS b), .un, .un, .un, .un] = .ok ((a.zip b).map fun p => PyData.tuple [eRow p.1, eRow p.2]) := by
      show Res.ok (zipD (a.map eRow) (b.map eRow)) = _
      rw [zipD_map]
    have s1 := (if_f (a := sRet (m2 dLt (mCB dLen (mCons (mVar 0) mNil)) (mCB dLen (mCons (mVar 1) mNil)))) (b := sNil) hc).trans (rfl : _ = SRes.nx [.val (eS a), .val (eS b), .un, .un, .un, .un])
    cases hsc : shC a b with
    | some c =>
      rw [hsc] at ho
      exact fun_rt ((seq_nx s1).trans (seq_rt ((sFor_ok hit).trans ho)))
    | none =>
      rw [hsc] at ho
      obtain ⟨ρ', hh⟩ := ho
      exact fun_rt ((seq_nx s1).trans ((seq_nx ((sFor_ok hit).trans hh)).trans (ret_ok rfl)))
  · rw [if_neg e]
    rw [decide_eq_false (by omega)] at hc
    refine fun_rt (seq_rt ((if_t hc).trans (ret_ok (m2_ok (hl 0 a _ rfl) (hl 1 b _ rfl) ?_))))
    show Res.ok (PyData.bool (decide ((a.length : Int) < (b.length : Int)))) = _
    congr 2
    rw [decide_eq_decide]
    omega
/-! ### the law -/
theorem pair_eight {s a b : Sheet} {n w : Nat} (v : Valid s) (h : Rect s n w) (ha : a ∈ eightS s) (hb : b ∈ eightS s) : Pair a b := by
  refine ⟨fun r hr o ho u hu => (eight_valid v ha).worth r hr u (hu ▸ ho), fun r hr o ho u hu => (eight_valid v hb).worth r hr u (hu ▸ ho), fun e => ?_⟩
  rcases eight_rect h ha with g | g <;> rcases eight_rect h hb with k | k
  · exact ⟨w, g.row, k.row⟩
  · have : n = w := by rw [← g.len, ← k.len]; exact e
    exact ⟨w, g.row, fun r hr => (k.row r hr).trans this⟩
  · have : w = n := by rw [← g.len, ← k.len]; exact e
    exact ⟨n, g.row, fun r hr => (k.row r hr).trans this⟩
  · exact ⟨n, g.row, k.row⟩
theorem eF_ne (n : Int) (o : Option Int) : dNe (eF n o) (eF n o) = .ok (.bool false) := by
  cases o with
  | none => rfl
  | some m => exact (Enc.int.dNe (by decide) _ _).trans (by rw [decide_eq_true rfl]; rfl)
theorem bool_ne (b c : Bool) (h : b = c) : dNe (.bool b) (.bool c) = .ok (.bool false) := by
  subst h
  cases b <;> rfl
theorem least_ok {s : Sheet} (v : Valid s) : ∃ x, M_least [eS s] = .ok (eS x) ∧ M_least_of [eS s] = .ok (eS x) ∧ IsLeast (eightS s) x := by
  obtain ⟨x, h1, h2⟩ := least_of_ok v
  exact ⟨x, fun_rt (ret_ok ((call_ok (ds := [eS s]) (cons_ok ((call_ok (ds := [eS s]) rfl).trans (checked_ok v)) rfl)).trans h1)), h1, h2⟩
theorem alike_ok {s d x y : Sheet} (v : Valid s) (u : Valid d) (h : M_least_of [eS s] = .ok (eS x)) (g : M_least_of [eS d] = .ok (eS y)) : M_alike [eS s, eS d] = .ok (.bool (decide (x = y))) := by
  refine fun_rt ((seq_nx (ρ' := [.val (eS s), .val (eS d)]) (expr_ok ((call_ok (ds := [eS s]) rfl).trans (checked_ok v)))).trans ((seq_nx (ρ' := [.val (eS s), .val (eS d)]) (expr_ok ((call_ok (ds := [eS d]) rfl).trans (checked_ok u)))).trans (ret_ok ?_)))
  exact m2_ok ((call_ok (ds := [eS s]) rfl).trans h) ((call_ok (ds := [eS d]) rfl).trans g) (encS.dEq (by decide) _ _)
theorem fold_in {E : List Sheet} : ∀ (pre : List Sheet) (x : Sheet), x ∈ E → (∀ o ∈ pre, o ∈ E) → (pre.foldl (fun d o => if aheadB o d = true then o else d) x) ∈ E
  | [], x, hx, _ => hx
  | o :: pre, x, hx, h => by
    rw [List.foldl_cons]
    refine fold_in pre _ ?_ fun z hz => h z (List.mem_cons_of_mem _ hz)
    split
    · exact h o List.mem_cons_self
    · exact hx
theorem main_law : ∀ ns : List Int, ns.length ≤ 63 → (∀ z ∈ ns, Builtin.Int.intBits z ≤ 1048576) → M_law [.list (ns.map .int)] = .ok (.bool true) := by
  intro ns _ _
  obtain ⟨s, hs, gs⟩ := law_sheet_ok ns 20 6 (by decide) (by decide)
  have v : Valid s := gs.valid (by decide)
  obtain ⟨n, w, h, hn, hw⟩ := rect_valid v
  have hp : ∀ a ∈ eightS s, ∀ b ∈ eightS s, Pair a b := fun a ha b hb => pair_eight v h ha hb
  refine fun_rt ?_
  refine (seq_nx (ρ' := [.val (eI ns), .val (eS s), .un, .un, .un, .un, .un, .un, .un]) ((set_ok ((call_ok (ds := [eI ns, .int 20, .int 6]) rfl).trans hs)).trans rfl)).trans ?_
  have hck : ∀ {ρ : Rho}, ρ[1]? = some (.val (eS s)) → (mCons (mVar 1) mNil) ρ = .ok [eS s] := fun {ρ} e => cons_ok (by unfold mVar; rw [e]) rfl
  have htu : M_turned [eS s] = .ok (eS (turnS s)) := fun_rt (ret_ok ((call_ok (ds := [eS s]) (cons_ok ((call_ok (ds := [eS s]) rfl).trans (checked_ok v)) rfl)).trans (turned_once_ok h hn hw)))
  have hmi : M_mirrored [eS s] = .ok (eS (mirS s)) := fun_rt (ret_ok ((call_ok (ds := [eS s]) (cons_ok ((call_ok (ds := [eS s]) rfl).trans (checked_ok v)) rfl)).trans (mirrored_once_ok s (by rw [h.len]; exact hn))))
  have hne : ∀ x : Sheet, dNe (eS x) (eS x) = .ok (.bool false) := fun x => (encS.dNe (by decide) _ _).trans (by rw [decide_eq_true rfl]; rfl)
  refine (seq_nx ((if_f (t_orr (t_b (m2_ok ((call_ok (hck rfl)).trans htu) ((call_ok (hck rfl)).trans (law_turned_ok h hn hw)) (hne _))) (t_b (m2_ok ((call_ok (hck rfl)).trans hmi) ((call_ok (hck rfl)).trans (law_mirrored_ok s (by rw [h.len]; exact hn))) (hne _))))).trans rfl)).trans ?_
  refine (seq_nx (ρ' := [.val (eI ns), .val (eS s), .val (.list ((eightS s).map eS)), .un, .un, .un, .un, .un, .un]) ((set_ok ((call_ok (hck rfl)).trans (law_eight_ok h hn hw))).trans rfl)).trans ?_
  refine (seq_nx (ρ' := [.val (eI ns), .val (eS s), .val (.list ((eightS s).map eS)), .val (eS s), .un, .un, .un, .un, .un]) rfl).trans ?_
  have key := for_pre (enc := eS) (t := gN 4) (mb := (sIf (mB (mCall M_law_ahead (mCons (mVar 4) (mCons (mVar 3) mNil)))) (sSet 3 (mVar 4)) sNil)) (xs := eightS s) (J := Sl)
    (fun pre j => [.val (eI ns), .val (eS s), .val (.list ((eightS s).map eS)), .val (eS (pre.foldl (fun d o => if aheadB o d = true then o else d) s)), j, .un, .un, .un, .un]) (fun pre o post j e => by
      refine ⟨.val (eS o), ?_⟩
      have hpre : ∀ z ∈ pre, z ∈ eightS s := fun z hz => by rw [e]; exact List.mem_append_left _ hz
      have ho : o ∈ eightS s := by rw [e]; simp
      have hd := fold_in (E := eightS s) pre s (eight_self s) hpre
      rw [List.foldl_append]
      show _ = SRes.nx [.val (eI ns), .val (eS s), .val (.list ((eightS s).map eS)), .val (eS (if aheadB o (pre.foldl (fun d o => if aheadB o d = true then o else d) s) = true then o else (pre.foldl (fun d o => if aheadB o d = true then o else d) s))), .val (eS o), .un, .un, .un, .un]
      generalize pre.foldl (fun d o => if aheadB o d = true then o else d) s = dd at hd ⊢
      have ht : turn1 (gN 4) (sIf (mB (mCall M_law_ahead (mCons (mVar 4) (mCons (mVar 3) mNil)))) (sSet 3 (mVar 4)) sNil) (eS o) [.val (eI ns), .val (eS s), .val (.list ((eightS s).map eS)), .val (eS dd), j, .un, .un, .un, .un] = (sIf (mB (mCall M_law_ahead (mCons (mVar 4) (mCons (mVar 3) mNil)))) (sSet 3 (mVar 4)) sNil) [.val (eI ns), .val (eS s), .val (.list ((eightS s).map eS)), .val (eS dd), .val (eS o), .un, .un, .un, .un] := rfl
      rw [ht]
      have hc : mB (mCall M_law_ahead (mCons (mVar 4) (mCons (mVar 3) mNil))) [.val (eI ns), .val (eS s), .val (.list ((eightS s).map eS)), .val (eS dd), .val (eS o), .un, .un, .un, .un] = .ok (aheadB o dd) := t_b ((call_ok (ds := [eS o, eS dd]) rfl).trans (law_ahead_ok (hp o ho dd hd)))
      cases z : aheadB o dd with
      | true => rw [z] at hc; exact (if_t hc).trans rfl
      | false => rw [z] at hc; exact (if_f hc).trans rfl) .un
  obtain ⟨j, ej⟩ := key
  have hdue := least_fold hp [] (eightS s) s rfl (eight_self s) (fun _ z => by cases z)
  generalize (eightS s).foldl (fun d o => if aheadB o d = true then o else d) s = due at ej hdue
  refine (seq_nx (ρ' := [.val (eI ns), .val (eS s), .val (.list ((eightS s).map eS)), .val (eS due), j, .un, .un, .un, .un]) ((sFor_ok (ds := (eightS s).map eS) (iA_list rfl)).trans ej)).trans ?_
  obtain ⟨x, hx1, hx2, hx3⟩ := least_ok v
  have hxd : x = due := least_uniq hp hx3 hdue
  subst hxd
  refine (seq_nx ((if_f (t_b (m2_ok ((call_ok (hck rfl)).trans hx1) rfl (hne _)))).trans rfl)).trans ?_
  -- one of the eight
  obtain ⟨t, ht, t0, t1⟩ := mixed_ok ns 0 8 (by decide) (by decide)
  have htn : t.toNat < (eightS s).length := by
    show t.toNat < 8
    omega
  obtain ⟨z, hzg⟩ : ∃ z, (eightS s)[t.toNat]? = some z := ⟨_, List.getElem?_eq_getElem htn⟩
  have hz : z ∈ eightS s := List.mem_of_getElem? hzg
  have vz := eight_valid v hz
  refine (seq_nx (ρ' := [.val (eI ns), .val (eS s), .val (.list ((eightS s).map eS)), .val (eS x), j, .val (eS z), .un, .un, .un]) ((set_ok (m2_ok (x := .list ((eightS s).map eS)) (y := .int t) rfl ((call_ok (ds := [eI ns, .int 0, .int 8]) rfl).trans ht) (dIx_int t0 (by rw [List.getElem?_map, hzg]; rfl)))).trans rfl)).trans ?_
  have hzr : ∃ n' w', Rect z n' w' := by
    rcases eight_rect h hz with g | g
    · exact ⟨_, _, g⟩
    · exact ⟨_, _, g⟩
  have same : ∀ {d : Sheet}, d ∈ eightS s → ∀ y, y ∈ eightS d ↔ y ∈ eightS s := fun {d} hd y => by
    constructor
    · exact eight_sub h hd y
    · obtain ⟨n', w', g⟩ : ∃ n' w', Rect d n' w' := by
        rcases eight_rect h hd with g | g
        · exact ⟨_, _, g⟩
        · exact ⟨_, _, g⟩
      exact eight_sub g (eight_back h hd) y
  obtain ⟨xz, hz1, hz2, hz3⟩ := least_ok vz
  have hxz : xz = x := least_uniq hp (least_same (same hz) hz3) hx3
  subst hxz
  have hal := alike_ok v vz hx2 hz2
  rw [decide_eq_true rfl] at hal
  refine (seq_nx ((if_f (t_orr (y := false) (t_b (m2_ok ((call_ok (ds := [eS z]) rfl).trans hz1) rfl (hne _))) (t_b (m2_ok (x := .bool true) (y := .bool true) ((call_ok (ds := [eS s, eS z]) rfl).trans hal) rfl rfl)))).trans rfl)).trans ?_
  -- a second sheet
  obtain ⟨d, hd, gd⟩ := law_sheet_ok ns 42 6 (by decide) (by decide)
  have vd : Valid d := gd.valid (by decide)
  refine (seq_nx (ρ' := [.val (eI ns), .val (eS s), .val (.list ((eightS s).map eS)), .val (eS xz), j, .val (eS z), .val (eS d), .un, .un]) ((set_ok ((call_ok (ds := [eI ns, .int 42, .int 6]) rfl).trans hd)).trans rfl)).trans ?_
  obtain ⟨xd, hd1, hd2, hd3⟩ := least_ok vd
  have hal2 := alike_ok v vd hx2 hd2
  have hiff : decide (xz = xd) = decide (d ∈ eightS s) := by
    rw [decide_eq_decide]
    constructor
    · intro e
      obtain ⟨n2, w2, h2, _, _⟩ := rect_valid vd
      have a1 : xz ∈ eightS d := by rw [e]; exact hd3.1
      exact (same hx3.1 d).mp (eight_back h2 a1)
    · intro hds
      exact (least_uniq hp (least_same (same hds) hd3) hx3).symm
  refine (seq_nx (ρ' := [.val (eI ns), .val (eS s), .val (.list ((eightS s).map eS)), .val (eS xz), j, .val (eS z), .val (eS d), .val (.bool (decide (xz = xd))), .un]) ((set_ok ((call_ok (ds := [eS s, eS d]) rfl).trans hal2)).trans rfl)).trans ?_
  have hin : dIn (eS d) (.list ((eightS s).map eS)) = .ok (.bool (decide (d ∈ eightS s))) := by
    refine (encS.dIn (by decide) _ _).trans ?_
    congr 2
    exact decide_eq_decide.mpr Iff.rfl
  generalize hq : decide (xz = xd) = q at hiff
  refine (seq_nx ((if_f (t_orr (y := false) (t_not (x := true) (t_b rfl)) (t_b (m2_ok (x := .bool q) (y := .bool (decide (d ∈ eightS s))) rfl (m2_ok (x := eS d) (y := .list ((eightS s).map eS)) rfl rfl hin) (bool_ne _ _ hiff))))).trans rfl)).trans ?_
  -- wants
  obtain ⟨pl, hpl, hplan⟩ := parted_ok v ns (at_ := 1) (by decide)
  obtain ⟨hwok, hwsum⟩ := plan_wok v hplan
  have hpc : ∀ p ∈ pl, Pc (cellsOf s) p ∧ Conn p := fun p hp => plan_piece hplan hp
  have hcount := plan_count hplan
  have hk12 := v.kok.len
  obtain ⟨ws, hws⟩ : ∃ ws, ws = pl.map (worth s) := ⟨_, rfl⟩
  rw [← hws] at hwok hwsum
  have hlw := lc_all (enc := eP) (t := gN 4) (me := (mCall M_law_worth (mCons (mVar 1) (mCons (mVar 4) mNil)))) (ρ := [.val (eI ns), .val (eS s), .val (.list ((eightS s).map eS)), .val (eS xz), .un, .val (eS z), .val (eS d), .val (.bool q), .un]) (fun p => .int (worth s p)) pl (fun p hp => ⟨[.val (eI ns), .val (eS s), .val (.list ((eightS s).map eS)), .val (eS xz), .val (eP p), .val (eS z), .val (eS d), .val (.bool q), .un], rfl, (call_ok (ds := [eS s, eP p]) rfl).trans (law_worth_ok (hpc p hp).1.sub (Nat.le_trans ((hpc p hp).1.len v.kok) (by decide)))⟩)
  refine (seq_nx (ρ' := [.val (eI ns), .val (eS s), .val (.list ((eightS s).map eS)), .val (eS xz), j, .val (eS z), .val (eS d), .val (.bool q), .val (eI ws)]) ?_).trans ?_
  · refine (set_ok (d := eI ws) ((mLc_ok (iA_list (ds := pl.map eP) ((call_ok (ds := [eI ns, .int 1, eS s]) rfl).trans hpl)) (by rw [List.length_map]; exact lim100 (by omega)) hlw).trans ?_)).trans rfl
    rw [hws]
    unfold eI
    rw [List.map_map]; rfl
  have sy := eight_sym v hz
  obtain ⟨oz, hoz, hoz2, _⟩ := fewest_ok vz hwok
  obtain ⟨os, hos, hos2, _⟩ := fewest_ok v hwok
  have hoe : os = oz := isBest_uniq (sy.best (hos2 hwsum)) (hoz2 (by rw [hwsum, sy.worth]))
  subst hoe
  rw [sy.inn] at hoz
  obtain ⟨kz, hkz, hkz2⟩ := first_missing_ok vz 12 (by decide) (by decide)
  obtain ⟨ks, hks, hks2⟩ := first_missing_ok v 12 (by decide) (by decide)
  rw [sy.wList v.kok vz.kok] at hkz2
  have hke : kz = ks := mex_uniq hkz2 hks2
  subst hke
  refine (seq_nx ((if_f (t_orr (y := false) (t_b (m2_ok ((call_ok (ds := [eS z, eI ws]) rfl).trans hoz) ((call_ok (ds := [eS s, eI ws]) rfl).trans hos) (eF_ne _ _))) (t_b (m2_ok (x := .int kz) (y := .int kz) ((call_ok (ds := [eS z, .int 12]) rfl).trans hkz) ((call_ok (ds := [eS s, .int 12]) rfl).trans hks) ((Enc.int.dNe (by decide) _ _).trans (by rw [decide_eq_true rfl]; rfl)))))).trans rfl)).trans ?_
  have hwz := worths_ok vz 3 (by decide) (by decide)
  rw [sy.wList v.kok vz.kok] at hwz
  have hcz := counts_ok vz
  rw [sy.counts v.kok vz.kok] at hcz
  refine ret_ok (v_andt (m2_ok (x := eI (wList s 3)) (y := eI (wList s 3)) ((call_ok (ds := [eS z, .int 3]) rfl).trans hwz) ((call_ok (ds := [eS s, .int 3]) rfl).trans (worths_ok v 3 (by decide) (by decide))) ((encI.dEq (by decide) _ _).trans (by rw [decide_eq_true rfl]))) (m2_ok ((call_ok (ds := [eS z]) rfl).trans hcz) ((call_ok (ds := [eS s]) rfl).trans (counts_ok v)) ((encI.dEq (by decide) _ _).trans (by rw [decide_eq_true rfl]))))
end Stm
set_option Elab.async false
set_option linter.all false
set_option maxRecDepth 100000
set_option maxHeartbeats 4000000
namespace Wlk
open PySem PySem.Spec PyProof.Rows L2 Stm
def topS (i : Nat) : Stmt := PySem.Challenge.pw_stampsheet_k12_whole_turned.main.body.getD i (.Pass ⟨0, 0, 0, 0⟩)
abbrev s_is_whole : Stmt := topS 9
abbrev nm_is_whole : List Str := ["thing"]
theorem sc_is_whole : FnScope nm_is_whole ["thing"] (defScope s_is_whole) := ⟨rfl, rfl, rfl, by decide +kernel, rfl, by decide +kernel, by decide +kernel⟩
abbrev s_between : Stmt := topS 10
abbrev nm_between : List Str := ["thing", "low", "most"]
theorem sc_between : FnScope nm_between ["thing", "low", "most"] (defScope s_between) := ⟨rfl, rfl, rfl, by decide +kernel, rfl, by decide +kernel, by decide +kernel⟩
abbrev s_is_row : Stmt := topS 11
abbrev nm_is_row : List Str := ["thing", "many", "place"]
theorem sc_is_row : FnScope nm_is_row ["thing", "many"] (defScope s_is_row) := ⟨rfl, rfl, rfl, by decide +kernel, rfl, by decide +kernel, by decide +kernel⟩
abbrev s_cells_of : Stmt := topS 13
abbrev nm_cells_of : List Str := ["sheet", "made", "row", "column"]
theorem sc_cells_of : FnScope nm_cells_of ["sheet"] (defScope s_cells_of) := ⟨rfl, rfl, rfl, by decide +kernel, rfl, by decide +kernel, by decide +kernel⟩
abbrev s_is_sheet : Stmt := topS 12
abbrev nm_is_sheet : List Str := ["thing", "row"]
theorem sc_is_sheet : FnScope nm_is_sheet ["thing"] (defScope s_is_sheet) := ⟨rfl, rfl, rfl, by decide +kernel, rfl, by decide +kernel, by decide +kernel⟩
abbrev s_checked : Stmt := topS 14
abbrev nm_checked : List Str := ["sheet"]
theorem sc_checked : FnScope nm_checked ["sheet"] (defScope s_checked) := ⟨rfl, rfl, rfl, by decide +kernel, rfl, by decide +kernel, by decide +kernel⟩
abbrev s_need_number : Stmt := topS 15
abbrev nm_need_number : List Str := ["number", "most"]
theorem sc_need_number : FnScope nm_need_number ["number", "most"] (defScope s_need_number) := ⟨rfl, rfl, rfl, by decide +kernel, rfl, by decide +kernel, by decide +kernel⟩
abbrev s_around : Stmt := topS 16
abbrev nm_around : List Str := ["cell", "row", "column"]
theorem sc_around : FnScope nm_around ["cell"] (defScope s_around) := ⟨rfl, rfl, rfl, by decide +kernel, rfl, by decide +kernel, by decide +kernel⟩
abbrev s_turned_once : Stmt := topS 18
abbrev nm_turned_once : List Str := ["sheet", "column", "row"]
theorem sc_turned_once : FnScope nm_turned_once ["sheet"] (defScope s_turned_once) := ⟨rfl, rfl, rfl, by decide +kernel, rfl, by decide +kernel, by decide +kernel⟩
abbrev s_mirrored_once : Stmt := topS 19
abbrev nm_mirrored_once : List Str := ["sheet", "row"]
theorem sc_mirrored_once : FnScope nm_mirrored_once ["sheet"] (defScope s_mirrored_once) := ⟨rfl, rfl, rfl, by decide +kernel, rfl, by decide +kernel, by decide +kernel⟩
abbrev s_turned : Stmt := topS 20
abbrev nm_turned : List Str := ["sheet"]
theorem sc_turned : FnScope nm_turned ["sheet"] (defScope s_turned) := ⟨rfl, rfl, rfl, by decide +kernel, rfl, by decide +kernel, by decide +kernel⟩
abbrev s_mirrored : Stmt := topS 21
abbrev nm_mirrored : List Str := ["sheet"]
theorem sc_mirrored : FnScope nm_mirrored ["sheet"] (defScope s_mirrored) := ⟨rfl, rfl, rfl, by decide +kernel, rfl, by decide +kernel, by decide +kernel⟩
abbrev s_worth_order : Stmt := topS 22
abbrev nm_worth_order : List Str := ["sheet", "rows", "row", "place"]
theorem sc_worth_order : FnScope nm_worth_order ["sheet"] (defScope s_worth_order) := ⟨rfl, rfl, rfl, by decide +kernel, rfl, by decide +kernel, by decide +kernel⟩
abbrev s_least_of : Stmt := topS 23
abbrev nm_least_of : List Str := ["sheet", "made", "turn"]
theorem sc_least_of : FnScope nm_least_of ["sheet"] (defScope s_least_of) := ⟨rfl, rfl, rfl, by decide +kernel, rfl, by decide +kernel, by decide +kernel⟩
abbrev s_least : Stmt := topS 24
abbrev nm_least : List Str := ["sheet"]
theorem sc_least : FnScope nm_least ["sheet"] (defScope s_least) := ⟨rfl, rfl, rfl, by decide +kernel, rfl, by decide +kernel, by decide +kernel⟩
abbrev s_alike : Stmt := topS 25
abbrev nm_alike : List Str := ["one", "other"]
theorem sc_alike : FnScope nm_alike ["one", "other"] (defScope s_alike) := ⟨rfl, rfl, rfl, by decide +kernel, rfl, by decide +kernel, by decide +kernel⟩
abbrev s_grown : Stmt := topS 27
abbrev nm_grown : List Str := ["known", "some", "found", "piece", "cell", "other"]
theorem sc_grown : FnScope nm_grown ["known", "some"] (defScope s_grown) := ⟨rfl, rfl, rfl, by decide +kernel, rfl, by decide +kernel, by decide +kernel⟩
abbrev s_by_sizes : Stmt := topS 28
abbrev nm_by_sizes : List Str := ["sheet", "most", "known", "made", "cell"]
theorem sc_by_sizes : FnScope nm_by_sizes ["sheet", "most"] (defScope s_by_sizes) := ⟨rfl, rfl, rfl, by decide +kernel, rfl, by decide +kernel, by decide +kernel⟩
abbrev s_pieces_of : Stmt := topS 29
abbrev nm_pieces_of : List Str := ["sheet", "most", "made", "some"]
theorem sc_pieces_of : FnScope nm_pieces_of ["sheet", "most"] (defScope s_pieces_of) := ⟨rfl, rfl, rfl, by decide +kernel, rfl, by decide +kernel, by decide +kernel⟩
abbrev s_counts : Stmt := topS 30
abbrev nm_counts : List Str := ["sheet", "some"]
theorem sc_counts : FnScope nm_counts ["sheet"] (defScope s_counts) := ⟨rfl, rfl, rfl, by decide +kernel, rfl, by decide +kernel, by decide +kernel⟩
abbrev s_sum_of : Stmt := topS 32
abbrev nm_sum_of : List Str := ["sheet", "piece", "row", "column"]
theorem sc_sum_of : FnScope nm_sum_of ["sheet", "piece"] (defScope s_sum_of) := ⟨rfl, rfl, rfl, by decide +kernel, rfl, by decide +kernel, by decide +kernel⟩
abbrev s_worths_of : Stmt := topS 33
abbrev nm_worths_of : List Str := ["sheet", "most", "found", "piece"]
theorem sc_worths_of : FnScope nm_worths_of ["sheet", "most"] (defScope s_worths_of) := ⟨rfl, rfl, rfl, by decide +kernel, rfl, by decide +kernel, by decide +kernel⟩
abbrev s_worths : Stmt := topS 34
abbrev nm_worths : List Str := ["sheet", "most"]
theorem sc_worths : FnScope nm_worths ["sheet", "most"] (defScope s_worths) := ⟨rfl, rfl, rfl, by decide +kernel, rfl, by decide +kernel, by decide +kernel⟩
abbrev s_missing_of : Stmt := topS 35
abbrev nm_missing_of : List Str := ["sheet", "most", "number", "found"]
theorem sc_missing_of : FnScope nm_missing_of ["sheet", "most"] (defScope s_missing_of) := ⟨rfl, rfl, rfl, by decide +kernel, rfl, by decide +kernel, by decide +kernel⟩
abbrev s_first_missing : Stmt := topS 36
abbrev nm_first_missing : List Str := ["sheet", "most"]
theorem sc_first_missing : FnScope nm_first_missing ["sheet", "most"] (defScope s_first_missing) := ⟨rfl, rfl, rfl, by decide +kernel, rfl, by decide +kernel, by decide +kernel⟩
abbrev s_need_wants : Stmt := topS 38
abbrev nm_need_wants : List Str := ["wants", "want"]
theorem sc_need_wants : FnScope nm_need_wants ["wants"] (defScope s_need_wants) := ⟨rfl, rfl, rfl, by decide +kernel, rfl, by decide +kernel, by decide +kernel⟩
abbrev s_pieces_with : Stmt := topS 39
abbrev nm_pieces_with : List Str := ["sheet", "free", "wanted", "some", "made", "piece"]
theorem sc_pieces_with : FnScope nm_pieces_with ["sheet", "free", "wanted"] (defScope s_pieces_with) := ⟨rfl, rfl, rfl, by decide +kernel, rfl, by decide +kernel, by decide +kernel⟩
abbrev s_inner : Stmt := topS 40
abbrev nm_inner : List Str := ["piece", "cell", "other"]
theorem sc_inner : FnScope nm_inner ["piece"] (defScope s_inner) := ⟨rfl, rfl, rfl, by decide +kernel, rfl, by decide +kernel, by decide +kernel⟩
abbrev s_best_plan : Stmt := topS 41
abbrev nm_best_plan : List Str := ["sheet", "free", "left", "best", "piece", "pair", "others", "rest", "want", "place", "one", "cell"]
theorem sc_best_plan : FnScope nm_best_plan ["sheet", "free", "left"] (defScope s_best_plan) := ⟨rfl, rfl, rfl, by decide +kernel, rfl, by decide +kernel, by decide +kernel⟩
abbrev s_plan_for : Stmt := topS 42
abbrev nm_plan_for : List Str := ["sheet", "wants", "cells", "place", "want"]
theorem sc_plan_for : FnScope nm_plan_for ["sheet", "wants"] (defScope s_plan_for) := ⟨rfl, rfl, rfl, by decide +kernel, rfl, by decide +kernel, by decide +kernel⟩
abbrev s_fewest_tears : Stmt := topS 43
abbrev nm_fewest_tears : List Str := ["sheet", "wants", "found"]
theorem sc_fewest_tears : FnScope nm_fewest_tears ["sheet", "wants"] (defScope s_fewest_tears) := ⟨rfl, rfl, rfl, by decide +kernel, rfl, by decide +kernel, by decide +kernel⟩
abbrev s_law_cell_at : Stmt := topS 45
abbrev nm_law_cell_at : List Str := ["_law_script", "_law_k"]
theorem sc_law_cell_at : FnScope nm_law_cell_at ["_law_script", "_law_k"] (defScope s_law_cell_at) := ⟨rfl, rfl, rfl, by decide +kernel, rfl, by decide +kernel, by decide +kernel⟩
abbrev s_law_mixed : Stmt := topS 46
abbrev nm_law_mixed : List Str := ["_law_script", "_law_k", "_law_many", "_law_drawn"]
theorem sc_law_mixed : FnScope nm_law_mixed ["_law_script", "_law_k", "_law_many"] (defScope s_law_mixed) := ⟨rfl, rfl, rfl, by decide +kernel, rfl, by decide +kernel, by decide +kernel⟩
abbrev s_law_sheet : Stmt := topS 47
abbrev nm_law_sheet : List Str := ["_law_script", "_law_at", "_law_most", "_law_rows", "_law_columns", "_law_top", "_law_holes", "_law_left", "_law_made", "_law_row", "_law_places", "_law_column", "_law_cell", "_law_place"]
theorem sc_law_sheet : FnScope nm_law_sheet ["_law_script", "_law_at", "_law_most"] (defScope s_law_sheet) := ⟨rfl, rfl, rfl, by decide +kernel, rfl, by decide +kernel, by decide +kernel⟩
abbrev s_law_worth : Stmt := topS 48
abbrev nm_law_worth : List Str := ["_law_sheet_here", "_law_some", "_law_cell"]
theorem sc_law_worth : FnScope nm_law_worth ["_law_sheet_here", "_law_some"] (defScope s_law_worth) := ⟨rfl, rfl, rfl, by decide +kernel, rfl, by decide +kernel, by decide +kernel⟩
abbrev s_law_cells : Stmt := topS 49
abbrev nm_law_cells : List Str := ["_law_sheet_here", "_law_found", "_law_row", "_law_column"]
theorem sc_law_cells : FnScope nm_law_cells ["_law_sheet_here"] (defScope s_law_cells) := ⟨rfl, rfl, rfl, by decide +kernel, rfl, by decide +kernel, by decide +kernel⟩
abbrev s_law_beside : Stmt := topS 50
abbrev nm_law_beside : List Str := ["_law_one", "_law_other"]
theorem sc_law_beside : FnScope nm_law_beside ["_law_one", "_law_other"] (defScope s_law_beside) := ⟨rfl, rfl, rfl, by decide +kernel, rfl, by decide +kernel, by decide +kernel⟩
abbrev s_law_hangs : Stmt := topS 51
abbrev nm_law_hangs : List Str := ["_law_some", "_law_met", "_law_at", "_law_cell"]
theorem sc_law_hangs : FnScope nm_law_hangs ["_law_some"] (defScope s_law_hangs) := ⟨rfl, rfl, rfl, by decide +kernel, rfl, by decide +kernel, by decide +kernel⟩
abbrev s_law_all : Stmt := topS 52
abbrev nm_law_all : List Str := ["_law_sheet_here", "_law_some", "_law_cell", "_law_found", "_law_one", "_law_pair"]
theorem sc_law_all : FnScope nm_law_all ["_law_sheet_here"] (defScope s_law_all) := ⟨rfl, rfl, rfl, by decide +kernel, rfl, by decide +kernel, by decide +kernel⟩
abbrev s_law_parted : Stmt := topS 53
abbrev nm_law_parted : List Str := ["_law_script", "_law_at", "_law_sheet_here", "_law_known", "_law_free", "_law_parts", "_law_some", "_law_one", "_law_cell"]
theorem sc_law_parted : FnScope nm_law_parted ["_law_script", "_law_at", "_law_sheet_here"] (defScope s_law_parted) := ⟨rfl, rfl, rfl, by decide +kernel, rfl, by decide +kernel, by decide +kernel⟩
abbrev s_law_turned : Stmt := topS 54
abbrev nm_law_turned : List Str := ["_law_sheet_here", "_law_rows", "_law_column", "_law_k"]
theorem sc_law_turned : FnScope nm_law_turned ["_law_sheet_here"] (defScope s_law_turned) := ⟨rfl, rfl, rfl, by decide +kernel, rfl, by decide +kernel, by decide +kernel⟩
abbrev s_law_mirrored : Stmt := topS 55
abbrev nm_law_mirrored : List Str := ["_law_sheet_here", "_law_row"]
theorem sc_law_mirrored : FnScope nm_law_mirrored ["_law_sheet_here"] (defScope s_law_mirrored) := ⟨rfl, rfl, rfl, by decide +kernel, rfl, by decide +kernel, by decide +kernel⟩
abbrev s_law_eight : Stmt := topS 56
abbrev nm_law_eight : List Str := ["_law_sheet_here", "_law_found", "_law_turn"]
theorem sc_law_eight : FnScope nm_law_eight ["_law_sheet_here"] (defScope s_law_eight) := ⟨rfl, rfl, rfl, by decide +kernel, rfl, by decide +kernel, by decide +kernel⟩
abbrev s_law_ahead : Stmt := topS 57
abbrev nm_law_ahead : List Str := ["_law_one", "_law_other", "_law_here", "_law_there", "_law_a", "_law_b"]
theorem sc_law_ahead : FnScope nm_law_ahead ["_law_one", "_law_other"] (defScope s_law_ahead) := ⟨rfl, rfl, rfl, by decide +kernel, rfl, by decide +kernel, by decide +kernel⟩
abbrev s_law : Stmt := topS 58
abbrev nm_law : List Str := ["_law_script", "_law_sheet_here", "_law_eight_here", "_law_due", "_law_one", "_law_other", "_law_drawn", "_law_said", "_law_wants"]
theorem sc_law : FnScope nm_law ["_law_script"] (defScope s_law) := ⟨rfl, rfl, rfl, by decide +kernel, rfl, by decide +kernel, by decide +kernel⟩
section
variable {P : Program} {w : World} {K : PySem.W.Frag} {mg : Str → Option Value} {base : Heap} {cl : Ex → Value}
theorem ok_is_whole {f : Addr} {fd : FuncData} (F : Fun K "is_whole" "is_whole" s_is_whole f fd) (bt_bool : mg "bool" = none) (bt_int : mg "int" = none) (bt_isinstance : mg "isinstance" = none) : FnOk P w K mg base (L2.CX P w) 1 f fd ["thing"] (spM K cl 1 M_is_whole) :=
  fun_ok F sc_is_whole rfl fun cdv A outer s H F0 E hr => (s_one (s_ret (x_andV (x_isi rfl "int" ty_int rfl bt_isinstance rfl bt_int (by decide +kernel) (x_q (x_var 0))) (x_one (x_notV (x_isi rfl "bool" ty_bool rfl bt_isinstance rfl bt_bool (by decide +kernel) (x_q (x_var 0))))))))
theorem ok_between {f : Addr} {fd : FuncData} (F : Fun K "between" "between" s_between f fd) (c_is_whole : Cal P w K mg base cl "is_whole" 1 ["thing"] M_is_whole) : FnOk P w K mg base (L2.CX P w) 2 f fd ["thing", "low", "most"] (spM K cl 3 M_between) :=
  fun_ok F sc_between rfl fun cdv A outer s H F0 E hr => (s_one (s_ret (x_andV (x_cal rfl c_is_whole hr (by decide) rfl (takes_of rfl rfl rfl rfl) (xs_cons (x_var 0) xs_nil) (ALen.ok (.cons .nil))) (x_one (x_chain op_le op_le rb_cmp rb_cmp (x_q (x_var 1)) (x_q (x_var 0)) (x_q (x_var 2)))))))
theorem ok_is_row {f : Addr} {fd : FuncData} (F : Fun K "is_row" "is_row" s_is_row f fd) (c_between : Cal P w K mg base cl "between" 2 ["thing", "low", "most"] M_between) (bt_all : mg "all" = none) (bt_isinstance : mg "isinstance" = none) (bt_len : mg "len" = none) (bt_tuple : mg "tuple" = none) {u_WORTH : Tok} (ct_WORTH : mg "WORTH" = some (.int 9999 u_WORTH)) : FnOk P w K mg base (L2.CX P w) 3 f fd ["thing", "many"] (spM K cl 2 M_is_row) :=
  fun_ok F sc_is_row rfl fun cdv A outer s H F0 E hr => (s_seq (s_if (PW.pt (x_or (x_not (x_t (x_isi rfl "tuple" ty_tuple rfl bt_isinstance rfl bt_tuple (by decide +kernel) (x_q (x_var 0))))) (x_or1 (x_tcmp (op_neD (hu64 hr)) (rb_ne rfl) (nomark _) (x_q (x_cb call_len (rcb_len rfl) rfl bt_len (by decide +kernel) (qs_cons (x_q (x_var 0)) qs_nil))) (x_q (x_var 1)))))) (s_one (s_ret x_bl)) s_nil) (s_one (s_ret (x_cb (cr_all rfl) (rcb_all rfl) rfl bt_all (by decide +kernel) (qs_cons (x_q (x_lc (own := [("place", 2)]) rfl sc_is_row.nd (i_q (i_any rfl (x_var 0))) (blkOk_by (N := nm_is_row) (sc := defScope s_is_row) (by decide +kernel)) (tg_name (by decide)) (fun _ _ _ _ _ => (pg_name (i := 2) sc_is_row.nd rfl (by first | exact .inl rfl | exact .inr rfl))) (fun _ _ _ _ _ => xts_nil) (fun _ _ _ _ _ => (x_orV (x_cmp op_isN rb_isN (nomark _) (x_q (x_var 2)) (x_q x_non)) (x_one (x_cal rfl c_between hr (by decide) rfl takes0 (xs_cons (x_var 2) (xs_cons x_int (xs_cons (x_glob (v := .int 9999) rfl ct_WORTH ⟨_, rfl⟩ (fun _ => .int _)) xs_nil))) (ALen.ok (.cons (.cons (.cons .nil)))))))))) qs_nil)))))
theorem ok_cells_of {f : Addr} {fd : FuncData} (F : Fun K "cells_of" "cells_of" s_cells_of f fd) (bt_len : mg "len" = none) (bt_range : mg "range" = none) : FnOk P w K mg base (L2.CX P w) 1 f fd ["sheet"] (spM K cl 1 M_cells_of) :=
  fun_ok F sc_cells_of rfl fun cdv A outer s H F0 E hr => (s_seq (s_ownL (i := 1) sc_cells_of.nd rfl (by first | exact .inl rfl | exact .inr rfl) xs_nil) (s_seq (s_for (vs := [2]) (passes_of rfl) rfl (i_rng1 rfl bt_range (qs_cons (x_q (x_cb call_len (rcb_len rfl) rfl bt_len (by decide +kernel) (qs_cons (x_q (x_var 0)) qs_nil))) qs_nil)) (tg_name (by decide)) (pg_name (i := 2) sc_cells_of.nd rfl (by first | exact .inl rfl | exact .inr rfl)) (s_one (s_ext (i := 1) rfl rfl (by first | exact Or.inl rfl | exact Or.inr (Or.inl rfl) | exact Or.inr (Or.inr rfl)) (x_q (x_lc (own := [("column", 3)]) rfl sc_cells_of.nd (i_q (i_rng1 rfl bt_range (qs_cons (x_q (x_cb call_len (rcb_len rfl) rfl bt_len (by decide +kernel) (qs_cons (x_q (x_ix ix_seq (rb_ix rfl) (x_q (x_var 0)) (x_q (x_var 2)))) qs_nil))) qs_nil))) (blkOk_by (N := nm_cells_of) (sc := defScope s_cells_of) (by decide +kernel)) (tg_name (by decide)) (fun _ _ _ _ _ => (pg_name (i := 3) sc_cells_of.nd rfl (by first | exact .inl rfl | exact .inr rfl))) (fun _ _ _ _ _ => xts_one (x_tcmp op_notN rb_isNotN (nomark _) (x_q (x_ix ix_seq (rb_ix rfl) (x_q (x_ix ix_seq (rb_ix rfl) (x_q (x_var 0)) (x_q (x_var 2)))) (x_q (x_var 3)))) (x_q x_non))) (fun _ _ _ _ _ => (x_tup (xs_cons (x_var 2) (xs_cons (x_var 3) xs_nil))))))))) (s_one (s_retO (i := 1) rfl (by first | exact Or.inl rfl | exact Or.inr (Or.inl rfl) | exact Or.inr (Or.inr rfl))))))
theorem ok_is_sheet {f : Addr} {fd : FuncData} (F : Fun K "is_sheet" "is_sheet" s_is_sheet f fd) (c_cells_of : Cal P w K mg base cl "cells_of" 1 ["sheet"] M_cells_of) (c_is_row : Cal P w K mg base cl "is_row" 3 ["thing", "many"] M_is_row) (bt_all : mg "all" = none) (bt_isinstance : mg "isinstance" = none) (bt_len : mg "len" = none) (bt_tuple : mg "tuple" = none) {u_ROWS : Tok} (ct_ROWS : mg "ROWS" = some (.int 5 u_ROWS)) {u_STAMPS : Tok} (ct_STAMPS : mg "STAMPS" = some (.int 12 u_STAMPS)) : FnOk P w K mg base (L2.CX P w) 4 f fd ["thing"] (spM K cl 1 M_is_sheet) :=
  fun_ok F sc_is_sheet rfl fun cdv A outer s H F0 E hr => (s_seq (s_if (PW.pt (x_or (x_not (x_t (x_isi rfl "tuple" ty_tuple rfl bt_isinstance rfl bt_tuple (by decide +kernel) (x_q (x_var 0))))) (x_or (x_not (x_tchain op_le op_le rb_cmp rb_cmp (x_q x_int) (x_q (x_cb call_len (rcb_len rfl) rfl bt_len (by decide +kernel) (qs_cons (x_q (x_var 0)) qs_nil))) (x_q (x_glob (v := .int 5) rfl ct_ROWS ⟨_, rfl⟩ (fun _ => .int _))))) (x_or1 (x_not (x_t (x_isi rfl "tuple" ty_tuple rfl bt_isinstance rfl bt_tuple (by decide +kernel) (x_q (x_ix ix_seq (rb_ix rfl) (x_q (x_var 0)) (x_q x_int)))))))))) (s_one (s_ret x_bl)) s_nil) (s_seq (s_if (PW.pt (x_or (x_not (x_tchain op_le op_le rb_cmp rb_cmp (x_q x_int) (x_q (x_cb call_len (rcb_len rfl) rfl bt_len (by decide +kernel) (qs_cons (x_q (x_ix ix_seq (rb_ix rfl) (x_q (x_var 0)) (x_q x_int))) qs_nil))) (x_q (x_glob (v := .int 5) rfl ct_ROWS ⟨_, rfl⟩ (fun _ => .int _))))) (x_or1 (x_not (x_t (x_cb (cr_all rfl) (rcb_all rfl) rfl bt_all (by decide +kernel) (qs_cons (x_q (x_lc (own := [("row", 1)]) rfl sc_is_sheet.nd (i_q (i_any rfl (x_var 0))) (blkOk_by (N := nm_is_sheet) (sc := defScope s_is_sheet) (by decide +kernel)) (tg_name (by decide)) (fun _ _ _ _ _ => (pg_name (i := 1) sc_is_sheet.nd rfl (by first | exact .inl rfl | exact .inr rfl))) (fun _ _ _ _ _ => xts_nil) (fun _ _ _ _ _ => (x_cal rfl c_is_row hr (by decide) rfl takes0 (xs_cons (x_var 1) (xs_cons (x_cb call_len (rcb_len rfl) rfl bt_len (by decide +kernel) (qs_cons (x_q (x_ix ix_seq (rb_ix rfl) (x_q (x_var 0)) (x_q x_int))) qs_nil)) xs_nil)) (ALen.ok (.cons (.cons .nil))))))) qs_nil))))))) (s_one (s_ret x_bl)) s_nil) (s_one (s_ret (x_chain op_le op_le rb_cmp rb_cmp (x_q x_int) (x_q (x_cb call_len (rcb_len rfl) rfl bt_len (by decide +kernel) (qs_cons (x_q (x_cal rfl c_cells_of hr (by decide) rfl (takes_of rfl rfl rfl rfl) (xs_cons (x_var 0) xs_nil) (ALen.ok (.cons .nil)))) qs_nil))) (x_q (x_glob (v := .int 12) rfl ct_STAMPS ⟨_, rfl⟩ (fun _ => .int _))))))))
theorem ok_checked {f : Addr} {fd : FuncData} (F : Fun K "checked" "checked" s_checked f fd) (c_is_sheet : Cal P w K mg base cl "is_sheet" 4 ["thing"] M_is_sheet) (x_NoSheet : ExF K mg cl "NoSheet" .sheet) : FnOk P w K mg base (L2.CX P w) 5 f fd ["sheet"] (spM K cl 1 M_checked) :=
  fun_ok F sc_checked rfl fun cdv A outer s H F0 E hr => (s_seq (s_if (x_not (x_t (x_cal rfl c_is_sheet hr (by decide) rfl (takes_of rfl rfl rfl rfl) (xs_cons (x_var 0) xs_nil) (ALen.ok (.cons .nil))))) (s_one (s_raiseX x_NoSheet rfl (takes_of rfl rfl rfl rfl) rfl)) s_nil) (s_one (s_ret (x_var 0))))
theorem ok_need_number {f : Addr} {fd : FuncData} (F : Fun K "need_number" "need_number" s_need_number f fd) (c_between : Cal P w K mg base cl "between" 2 ["thing", "low", "most"] M_between) (x_NoNumber : ExF K mg cl "NoNumber" .number) : FnOk P w K mg base (L2.CX P w) 3 f fd ["number", "most"] (spM K cl 2 M_need_number) :=
  fun_ok F sc_need_number rfl fun cdv A outer s H F0 E hr => (s_one (s_if (x_not (x_t (x_cal rfl c_between hr (by decide) rfl (takes_of rfl rfl rfl rfl) (xs_cons (x_var 0) (xs_cons x_int (xs_cons (x_var 1) xs_nil))) (ALen.ok (.cons (.cons (.cons .nil))))))) (s_one (s_raiseX x_NoNumber rfl (takes_of rfl rfl rfl rfl) rfl)) s_nil))
theorem ok_around {f : Addr} {fd : FuncData} (F : Fun K "around" "around" s_around f fd) : FnOk P w K mg base (L2.CX P w) 1 f fd ["cell"] (spM K cl 1 M_around) :=
  fun_ok F sc_around rfl fun cdv A outer s H F0 E hr => (s_seq (s_set2 rfl rfl (x_var 0) (pg_name (i := 1) sc_around.nd rfl (by first | exact .inl rfl | exact .inr rfl)) (pg_name (i := 2) sc_around.nd rfl (by first | exact .inl rfl | exact .inr rfl))) (s_one (s_ret (x_lst (xs_cons (x_tup (xs_cons (x_op op_sub rb_sub (x_q (x_var 1)) (x_q x_int)) (xs_cons (x_var 2) xs_nil))) (xs_cons (x_tup (xs_cons (x_var 1) (xs_cons (x_op op_sub rb_sub (x_q (x_var 2)) (x_q x_int)) xs_nil))) (xs_cons (x_tup (xs_cons (x_var 1) (xs_cons (x_op op_addAll (rb_add rfl) (x_q (x_var 2)) (x_q x_int)) xs_nil))) (xs_cons (x_tup (xs_cons (x_op op_addAll (rb_add rfl) (x_q (x_var 1)) (x_q x_int)) (xs_cons (x_var 2) xs_nil))) xs_nil))))))))
theorem ok_turned_once {f : Addr} {fd : FuncData} (F : Fun K "turned_once" "turned_once" s_turned_once f fd) (bt_len : mg "len" = none) (bt_range : mg "range" = none) (bt_reversed : mg "reversed" = none) (bt_tuple : mg "tuple" = none) : FnOk P w K mg base (L2.CX P w) 1 f fd ["sheet"] (spM K cl 1 M_turned_once) :=
  fun_ok F sc_turned_once rfl fun cdv A outer s H F0 E hr => (s_one (s_ret (x_cty call_tuple_of (rcb_tuple rfl) rfl bt_tuple (by decide +kernel) (qs_cons (x_q (x_lc (own := [("column", 1)]) rfl sc_turned_once.nd (i_q (i_rng1 rfl bt_range (qs_cons (x_q (x_cb call_len (rcb_len rfl) rfl bt_len (by decide +kernel) (qs_cons (x_q (x_ix ix_seq (rb_ix rfl) (x_q (x_var 0)) (x_q x_int))) qs_nil))) qs_nil))) (blkOk_by (N := nm_turned_once) (sc := defScope s_turned_once) (by decide +kernel)) (tg_name (by decide)) (fun _ _ _ _ _ => (pg_name (i := 1) sc_turned_once.nd rfl (by first | exact .inl rfl | exact .inr rfl))) (fun _ _ _ _ _ => xts_nil) (fun _ _ _ _ _ => (x_cty call_tuple_of (rcb_tuple rfl) rfl bt_tuple (by decide +kernel) (qs_cons (x_q (x_lc (own := [("row", 2)]) rfl sc_turned_once.nd (i_rev rfl rfl bt_reversed (x_q (x_var 0))) (blkOk_by (by rfl)) (tg_name (by decide)) (fun _ _ _ _ _ => (pg_name (i := 2) sc_turned_once.nd rfl (by first | exact .inl rfl | exact .inr rfl))) (fun _ _ _ _ _ => xts_nil) (fun _ _ _ _ _ => (x_ix ix_seq (rb_ix rfl) (x_q (x_var 2)) (x_q (x_var 1)))))) qs_nil))))) qs_nil))))
theorem ok_mirrored_once {f : Addr} {fd : FuncData} (F : Fun K "mirrored_once" "mirrored_once" s_mirrored_once f fd) (bt_tuple : mg "tuple" = none) : FnOk P w K mg base (L2.CX P w) 1 f fd ["sheet"] (spM K cl 1 M_mirrored_once) :=
  fun_ok F sc_mirrored_once rfl fun cdv A outer s H F0 E hr => (s_one (s_ret (x_cty call_tuple_of (rcb_tuple rfl) rfl bt_tuple (by decide +kernel) (qs_cons (x_q (x_lc (own := [("row", 1)]) rfl sc_mirrored_once.nd (i_q (i_any rfl (x_var 0))) (blkOk_by (N := nm_mirrored_once) (sc := defScope s_mirrored_once) (by decide +kernel)) (tg_name (by decide)) (fun _ _ _ _ _ => (pg_name (i := 1) sc_mirrored_once.nd rfl (by first | exact .inl rfl | exact .inr rfl))) (fun _ _ _ _ _ => xts_nil) (fun _ _ _ _ _ => (x_revS rfl (x_q (x_var 1)))))) qs_nil))))
theorem ok_turned {f : Addr} {fd : FuncData} (F : Fun K "turned" "turned" s_turned f fd) (c_checked : Cal P w K mg base cl "checked" 5 ["sheet"] M_checked) (c_turned_once : Cal P w K mg base cl "turned_once" 1 ["sheet"] M_turned_once) : FnOk P w K mg base (L2.CX P w) 6 f fd ["sheet"] (spM K cl 1 M_turned) :=
  fun_ok F sc_turned rfl fun cdv A outer s H F0 E hr => (s_one (s_ret (x_cal rfl c_turned_once hr (by decide) rfl (takes_of rfl rfl rfl rfl) (xs_cons (x_cal rfl c_checked hr (by decide) rfl (takes_of rfl rfl rfl rfl) (xs_cons (x_var 0) xs_nil) (ALen.ok (.cons .nil))) xs_nil) (ALen.ok (.cons .nil)))))
theorem ok_mirrored {f : Addr} {fd : FuncData} (F : Fun K "mirrored" "mirrored" s_mirrored f fd) (c_checked : Cal P w K mg base cl "checked" 5 ["sheet"] M_checked) (c_mirrored_once : Cal P w K mg base cl "mirrored_once" 1 ["sheet"] M_mirrored_once) : FnOk P w K mg base (L2.CX P w) 6 f fd ["sheet"] (spM K cl 1 M_mirrored) :=
  fun_ok F sc_mirrored rfl fun cdv A outer s H F0 E hr => (s_one (s_ret (x_cal rfl c_mirrored_once hr (by decide) rfl (takes_of rfl rfl rfl rfl) (xs_cons (x_cal rfl c_checked hr (by decide) rfl (takes_of rfl rfl rfl rfl) (xs_cons (x_var 0) xs_nil) (ALen.ok (.cons .nil))) xs_nil) (ALen.ok (.cons .nil)))))
theorem ok_worth_order {f : Addr} {fd : FuncData} (F : Fun K "worth_order" "worth_order" s_worth_order f fd) (bt_int : mg "int" = none) (bt_len : mg "len" = none) : FnOk P w K mg base (L2.CX P w) 1 f fd ["sheet"] (spM K cl 1 M_worth_order) :=
  fun_ok F sc_worth_order rfl fun cdv A outer s H F0 E hr => (s_seq (s_ownL (i := 1) sc_worth_order.nd rfl (by first | exact .inl rfl | exact .inr rfl) xs_nil) (s_seq (s_for (vs := [2]) (passes_of rfl) rfl (i_any rfl (x_var 0)) (tg_name (by decide)) (pg_name (i := 2) sc_worth_order.nd rfl (by first | exact .inl rfl | exact .inr rfl)) (s_one (s_app (i := 1) rfl (by first | exact Or.inl rfl | exact Or.inr (Or.inl rfl) | exact Or.inr (Or.inr rfl)) (x_lc (own := [("place", 3)]) rfl sc_worth_order.nd (i_q (i_any rfl (x_var 2))) (blkOk_by (N := nm_worth_order) (sc := defScope s_worth_order) (by decide +kernel)) (tg_name (by decide)) (fun _ _ _ _ _ => (pg_name (i := 3) sc_worth_order.nd rfl (by first | exact .inl rfl | exact .inr rfl))) (fun _ _ _ _ _ => xts_nil) (fun _ _ _ _ _ => (x_ix ix_seq (rb_ix rfl) (x_q (x_lst (xs_cons (x_var 3) (xs_cons x_int xs_nil)))) (x_q (x_cty call_intA rcb_intA rfl bt_int (by decide +kernel) (qs_cons (x_q (x_cmp op_isN rb_isN (nomark _) (x_q (x_var 3)) (x_q x_non))) qs_nil))))))))) (pss_frz (i := 1) (s_one (s_ret (x_tup (xs_cons (x_cb call_len (rcb_len rfl) rfl bt_len (by decide +kernel) (qs_cons (x_q (x_var 0)) qs_nil)) (xs_cons (x_var 1) xs_nil))))))))
theorem ok_least_of {f : Addr} {fd : FuncData} (F : Fun K "least_of" "least_of" s_least_of f fd) (c_mirrored_once : Cal P w K mg base cl "mirrored_once" 1 ["sheet"] M_mirrored_once) (c_turned_once : Cal P w K mg base cl "turned_once" 1 ["sheet"] M_turned_once) (c_worth_order : Cal P w K mg base cl "worth_order" 1 ["sheet"] M_worth_order) (bt_range : mg "range" = none) (bt_sorted : mg "sorted" = none) : FnOk P w K mg base (L2.CX P w) 4 f fd ["sheet"] (spM K cl 1 M_least_of) :=
  fun_ok F sc_least_of rfl fun cdv A outer s H F0 E hr => (s_seq (s_ownL (i := 1) sc_least_of.nd rfl (by first | exact .inl rfl | exact .inr rfl) xs_nil) (s_seq (s_for (vs := [2]) (passes_of rfl) rfl (i_rng1 rfl bt_range (qs_cons (x_q x_int) qs_nil)) (tg_name (by decide)) (pg_name (i := 2) sc_least_of.nd rfl (by first | exact .inl rfl | exact .inr rfl)) (s_seq (s_ext (i := 1) rfl rfl (by first | exact Or.inl rfl | exact Or.inr (Or.inl rfl) | exact Or.inr (Or.inr rfl)) (x_q (x_lst (xs_cons (x_var 0) (xs_cons (x_cal rfl c_mirrored_once hr (by decide) rfl (takes_of rfl rfl rfl rfl) (xs_cons (x_var 0) xs_nil) (ALen.ok (.cons .nil))) xs_nil))))) (s_one (s_set (i := 0) sc_least_of.nd rfl (by first | exact .inl rfl | exact .inr rfl) (x_cal rfl c_turned_once hr (by decide) rfl (takes_of rfl rfl rfl rfl) (xs_cons (x_var 0) xs_nil) (ALen.ok (.cons .nil))))))) (s_one (s_ret (x_ix ix_seq (rb_ix rfl) (x_q (x_sortK rfl c_worth_order hr (by decide) rfl bt_sorted (by rfl) (x_own 1))) (x_q x_int))))))
theorem ok_least {f : Addr} {fd : FuncData} (F : Fun K "least" "least" s_least f fd) (c_checked : Cal P w K mg base cl "checked" 5 ["sheet"] M_checked) (c_least_of : Cal P w K mg base cl "least_of" 4 ["sheet"] M_least_of) : FnOk P w K mg base (L2.CX P w) 6 f fd ["sheet"] (spM K cl 1 M_least) :=
  fun_ok F sc_least rfl fun cdv A outer s H F0 E hr => (s_one (s_ret (x_cal rfl c_least_of hr (by decide) rfl (takes_of rfl rfl rfl rfl) (xs_cons (x_cal rfl c_checked hr (by decide) rfl (takes_of rfl rfl rfl rfl) (xs_cons (x_var 0) xs_nil) (ALen.ok (.cons .nil))) xs_nil) (ALen.ok (.cons .nil)))))
theorem ok_alike {f : Addr} {fd : FuncData} (F : Fun K "alike" "alike" s_alike f fd) (c_checked : Cal P w K mg base cl "checked" 5 ["sheet"] M_checked) (c_least_of : Cal P w K mg base cl "least_of" 4 ["sheet"] M_least_of) : FnOk P w K mg base (L2.CX P w) 6 f fd ["one", "other"] (spM K cl 2 M_alike) :=
  fun_ok F sc_alike rfl fun cdv A outer s H F0 E hr => (s_seq (s_expr (x_cal rfl c_checked hr (by decide) rfl (takes_of rfl rfl rfl rfl) (xs_cons (x_var 0) xs_nil) (ALen.ok (.cons .nil)))) (s_seq (s_expr (x_cal rfl c_checked hr (by decide) rfl (takes_of rfl rfl rfl rfl) (xs_cons (x_var 1) xs_nil) (ALen.ok (.cons .nil)))) (s_one (s_ret (x_cmp (op_eqD (hu64 hr)) (rb_eq rfl) (nomark _) (x_q (x_cal rfl c_least_of hr (by decide) rfl (takes_of rfl rfl rfl rfl) (xs_cons (x_var 0) xs_nil) (ALen.ok (.cons .nil)))) (x_q (x_cal rfl c_least_of hr (by decide) rfl (takes_of rfl rfl rfl rfl) (xs_cons (x_var 1) xs_nil) (ALen.ok (.cons .nil)))))))))
theorem ok_grown {f : Addr} {fd : FuncData} (F : Fun K "grown" "grown" s_grown f fd) (c_around : Cal P w K mg base cl "around" 1 ["cell"] M_around) (bt_list : mg "list" = none) (bt_sorted : mg "sorted" = none) (bt_tuple : mg "tuple" = none) : FnOk P w K mg base (L2.CX P w) 2 f fd ["known", "some"] (spM K cl 2 M_grown) :=
  fun_ok F sc_grown rfl fun cdv A outer s H F0 E hr => (s_seq (s_newDT (i := 2) ⟨rfl, rfl⟩ sc_grown.nd rfl (by first | exact .inl rfl | exact .inr rfl)) (s_seq (s_for (vs := [3]) (passes_of rfl) rfl (i_any rfl (x_var 1)) (tg_name (by decide)) (pg_name (i := 3) sc_grown.nd rfl (by first | exact .inl rfl | exact .inr rfl)) (s_one (s_for (vs := [4]) (passes_of rfl) rfl (i_any rfl (x_var 3)) (tg_name (by decide)) (pg_name (i := 4) sc_grown.nd rfl (by first | exact .inl rfl | exact .inr rfl)) (s_one (s_for (vs := [5]) (passes_of rfl) rfl (i_any rfl (x_cal rfl c_around hr (by decide) rfl (takes_of rfl rfl rfl rfl) (xs_cons (x_var 4) xs_nil) (ALen.ok (.cons .nil)))) (tg_name (by decide)) (pg_name (i := 5) sc_grown.nd rfl (by first | exact .inl rfl | exact .inr rfl)) (s_one (s_if (PW.pt (x_and (x_tcmp (opOr (op_inD (hu65 hr)) (op_inT (hu65 hr))) (rb_in rfl) rfl (x_q (x_var 5)) (x_q (x_var 0))) (x_and1 (x_tcmp (opOr (op_notInD (hu65 hr)) (op_notInT (hu65 hr))) (rb_notin rfl) rfl (x_q (x_var 5)) (x_q (x_var 3)))))) (s_one (s_putT (i := 2) ⟨rfl, rfl⟩ rfl hr rfl (by first | exact Or.inl rfl | exact Or.inr (Or.inl rfl) | exact Or.inr (Or.inr rfl)) (x_cty call_tuple_of (rcb_tuple rfl) rfl bt_tuple (by decide +kernel) (qs_cons (x_q (x_cb (call_sortedD (hu80 hr)) (rcb_sorted rfl) rfl bt_sorted (by decide +kernel) (qs_cons (x_q (x_op op_addAll (rb_add rfl) (x_q (x_var 3)) (x_q (x_tup (xs_cons (x_var 5) xs_nil))))) qs_nil))) qs_nil)))) s_nil))))))) (s_one (s_ret (x_cb (call_sortedD (hu80 hr)) (rcb_sorted rfl) rfl bt_sorted (by decide +kernel) (qs_cons (x_q (x_dlT 2 ⟨by rfl, by rfl⟩ (by rfl) (by rfl) (by rfl) bt_list)) qs_nil))))))
theorem ok_by_sizes {f : Addr} {fd : FuncData} (F : Fun K "by_sizes" "by_sizes" s_by_sizes f fd) (c_cells_of : Cal P w K mg base cl "cells_of" 1 ["sheet"] M_cells_of) (c_grown : Cal P w K mg base cl "grown" 2 ["known", "some"] M_grown) (bt_len : mg "len" = none) (bt_min : mg "min" = none) : FnOk P w K mg base (L2.CX P w) 3 f fd ["sheet", "most"] (spM K cl 2 M_by_sizes) :=
  fun_ok F sc_by_sizes rfl fun cdv A outer s H F0 E hr => (s_seq (s_set (i := 2) sc_by_sizes.nd rfl (by first | exact .inl rfl | exact .inr rfl) (x_cal rfl c_cells_of hr (by decide) rfl (takes_of rfl rfl rfl rfl) (xs_cons (x_var 0) xs_nil) (ALen.ok (.cons .nil)))) (s_seq (s_ownL (i := 3) sc_by_sizes.nd rfl (by first | exact .inl rfl | exact .inr rfl) (xs_cons (x_lc (own := [("cell", 4)]) rfl sc_by_sizes.nd (i_q (i_any rfl (x_var 2))) (blkOk_by (N := nm_by_sizes) (sc := defScope s_by_sizes) (by decide +kernel)) (tg_name (by decide)) (fun _ _ _ _ _ => (pg_name (i := 4) sc_by_sizes.nd rfl (by first | exact .inl rfl | exact .inr rfl))) (fun _ _ _ _ _ => xts_nil) (fun _ _ _ _ _ => (x_tup (xs_cons (x_var 4) xs_nil)))) xs_nil)) (s_seq (s_while 100 (passes_of rfl) (x_tcmp op_lt rb_cmp (nomark _) (x_q (x_cb call_len (rcb_len rfl) rfl bt_len (by decide +kernel) (qs_cons (x_own 3) qs_nil))) (x_q (x_cb (call_min2 rfl) rcb_min2 rfl bt_min (by decide +kernel) (qs_cons (x_q (x_var 1)) (qs_cons (x_q (x_cb call_len (rcb_len rfl) rfl bt_len (by decide +kernel) (qs_cons (x_q (x_var 2)) qs_nil))) qs_nil))))) (s_one (s_app (i := 3) rfl (by first | exact Or.inl rfl | exact Or.inr (Or.inl rfl) | exact Or.inr (Or.inr rfl)) (x_cal rfl c_grown hr (by decide) rfl (takes_of rfl rfl rfl rfl) (xs_cons (x_var 2) (xs_cons (x_ix ix_seq (rb_ix rfl) (x_own 3) (x_q x_neg)) xs_nil)) (ALen.ok (.cons (.cons .nil))))))) (s_one (s_retO (i := 3) rfl (by first | exact Or.inl rfl | exact Or.inr (Or.inl rfl) | exact Or.inr (Or.inr rfl)))))))
theorem ok_pieces_of {f : Addr} {fd : FuncData} (F : Fun K "pieces_of" "pieces_of" s_pieces_of f fd) (c_by_sizes : Cal P w K mg base cl "by_sizes" 3 ["sheet", "most"] M_by_sizes) : FnOk P w K mg base (L2.CX P w) 4 f fd ["sheet", "most"] (spM K cl 2 M_pieces_of) :=
  fun_ok F sc_pieces_of rfl fun cdv A outer s H F0 E hr => (s_seq (s_ownL (i := 2) sc_pieces_of.nd rfl (by first | exact .inl rfl | exact .inr rfl) xs_nil) (s_seq (s_for (vs := [3]) (passes_of rfl) rfl (i_any rfl (x_cal rfl c_by_sizes hr (by decide) rfl (takes_of rfl rfl rfl rfl) (xs_cons (x_var 0) (xs_cons (x_var 1) xs_nil)) (ALen.ok (.cons (.cons .nil))))) (tg_name (by decide)) (pg_name (i := 3) sc_pieces_of.nd rfl (by first | exact .inl rfl | exact .inr rfl)) (s_one (s_ext (i := 2) rfl rfl (by first | exact Or.inl rfl | exact Or.inr (Or.inl rfl) | exact Or.inr (Or.inr rfl)) (x_q (x_var 3))))) (s_one (s_retO (i := 2) rfl (by first | exact Or.inl rfl | exact Or.inr (Or.inl rfl) | exact Or.inr (Or.inr rfl))))))
theorem ok_counts {f : Addr} {fd : FuncData} (F : Fun K "counts" "counts" s_counts f fd) (c_by_sizes : Cal P w K mg base cl "by_sizes" 3 ["sheet", "most"] M_by_sizes) (c_checked : Cal P w K mg base cl "checked" 5 ["sheet"] M_checked) (bt_len : mg "len" = none) {u_STAMPS : Tok} (ct_STAMPS : mg "STAMPS" = some (.int 12 u_STAMPS)) : FnOk P w K mg base (L2.CX P w) 6 f fd ["sheet"] (spM K cl 1 M_counts) :=
  fun_ok F sc_counts rfl fun cdv A outer s H F0 E hr => (s_seq (s_expr (x_cal rfl c_checked hr (by decide) rfl (takes_of rfl rfl rfl rfl) (xs_cons (x_var 0) xs_nil) (ALen.ok (.cons .nil)))) (s_one (s_ret (x_lc (own := [("some", 1)]) rfl sc_counts.nd (i_q (i_any rfl (x_cal rfl c_by_sizes hr (by decide) rfl (takes_of rfl rfl rfl rfl) (xs_cons (x_var 0) (xs_cons (x_glob (v := .int 12) rfl ct_STAMPS ⟨_, rfl⟩ (fun _ => .int _)) xs_nil)) (ALen.ok (.cons (.cons .nil)))))) (blkOk_by (N := nm_counts) (sc := defScope s_counts) (by decide +kernel)) (tg_name (by decide)) (fun _ _ _ _ _ => (pg_name (i := 1) sc_counts.nd rfl (by first | exact .inl rfl | exact .inr rfl))) (fun _ _ _ _ _ => xts_nil) (fun _ _ _ _ _ => (x_cb call_len (rcb_len rfl) rfl bt_len (by decide +kernel) (qs_cons (x_q (x_var 1)) qs_nil)))))))
theorem ok_sum_of {f : Addr} {fd : FuncData} (F : Fun K "sum_of" "sum_of" s_sum_of f fd) (bt_sum : mg "sum" = none) : FnOk P w K mg base (L2.CX P w) 1 f fd ["sheet", "piece"] (spM K cl 2 M_sum_of) :=
  fun_ok F sc_sum_of rfl fun cdv A outer s H F0 E hr => (s_one (s_ret (x_cb (cr_sum rfl) (rcb_sum rfl) rfl bt_sum (by decide +kernel) (qs_cons (x_q (x_lc (own := [("row", 2), ("column", 3)]) rfl sc_sum_of.nd (i_q (i_any rfl (x_var 1))) (blkOk_by (N := nm_sum_of) (sc := defScope s_sum_of) (by decide +kernel)) (tg_two rfl (by decide) (by decide)) (fun _ _ _ _ _ => (pg_tup rfl (pgs_cons (pg_name (i := 2) sc_sum_of.nd rfl (by first | exact .inl rfl | exact .inr rfl)) (pgs_cons (pg_name (i := 3) sc_sum_of.nd rfl (by first | exact .inl rfl | exact .inr rfl)) pgs_nil)))) (fun _ _ _ _ _ => xts_nil) (fun _ _ _ _ _ => (x_ix ix_seq (rb_ix rfl) (x_q (x_ix ix_seq (rb_ix rfl) (x_q (x_var 0)) (x_q (x_var 2)))) (x_q (x_var 3)))))) qs_nil))))
theorem ok_worths_of {f : Addr} {fd : FuncData} (F : Fun K "worths_of" "worths_of" s_worths_of f fd) (c_pieces_of : Cal P w K mg base cl "pieces_of" 4 ["sheet", "most"] M_pieces_of) (c_sum_of : Cal P w K mg base cl "sum_of" 1 ["sheet", "piece"] M_sum_of) (bt_list : mg "list" = none) (bt_sorted : mg "sorted" = none) : FnOk P w K mg base (L2.CX P w) 5 f fd ["sheet", "most"] (spM K cl 2 M_worths_of) :=
  fun_ok F sc_worths_of rfl fun cdv A outer s H F0 E hr => (s_seq (s_newDI (i := 2) sc_worths_of.nd rfl (by first | exact .inl rfl | exact .inr rfl)) (s_seq (s_for (vs := [3]) (passes_of rfl) rfl (i_any rfl (x_cal rfl c_pieces_of hr (by decide) rfl (takes_of rfl rfl rfl rfl) (xs_cons (x_var 0) (xs_cons (x_var 1) xs_nil)) (ALen.ok (.cons (.cons .nil))))) (tg_name (by decide)) (pg_name (i := 3) sc_worths_of.nd rfl (by first | exact .inl rfl | exact .inr rfl)) (s_one (s_putI (i := 2) rfl hr rfl (by first | exact Or.inl rfl | exact Or.inr (Or.inl rfl) | exact Or.inr (Or.inr rfl)) (x_q (x_cal rfl c_sum_of hr (by decide) rfl (takes_of rfl rfl rfl rfl) (xs_cons (x_var 0) (xs_cons (x_var 3) xs_nil)) (ALen.ok (.cons (.cons .nil)))))))) (s_one (s_ret (x_cb (call_sortedD (hu80 hr)) (rcb_sorted rfl) rfl bt_sorted (by decide +kernel) (qs_cons (x_q (x_dlI 2 (by rfl) (by rfl) bt_list)) qs_nil))))))
theorem ok_worths {f : Addr} {fd : FuncData} (F : Fun K "worths" "worths" s_worths f fd) (c_checked : Cal P w K mg base cl "checked" 5 ["sheet"] M_checked) (c_need_number : Cal P w K mg base cl "need_number" 3 ["number", "most"] M_need_number) (c_worths_of : Cal P w K mg base cl "worths_of" 5 ["sheet", "most"] M_worths_of) {u_STAMPS : Tok} (ct_STAMPS : mg "STAMPS" = some (.int 12 u_STAMPS)) : FnOk P w K mg base (L2.CX P w) 6 f fd ["sheet", "most"] (spM K cl 2 M_worths) :=
  fun_ok F sc_worths rfl fun cdv A outer s H F0 E hr => (s_seq (s_expr (x_cal rfl c_checked hr (by decide) rfl (takes_of rfl rfl rfl rfl) (xs_cons (x_var 0) xs_nil) (ALen.ok (.cons .nil)))) (s_seq (s_expr (x_cal rfl c_need_number hr (by decide) rfl (takes_of rfl rfl rfl rfl) (xs_cons (x_var 1) (xs_cons (x_glob (v := .int 12) rfl ct_STAMPS ⟨_, rfl⟩ (fun _ => .int _)) xs_nil)) (ALen.ok (.cons (.cons .nil))))) (s_one (s_ret (x_cal rfl c_worths_of hr (by decide) rfl (takes_of rfl rfl rfl rfl) (xs_cons (x_var 0) (xs_cons (x_var 1) xs_nil)) (ALen.ok (.cons (.cons .nil))))))))
theorem ok_missing_of {f : Addr} {fd : FuncData} (F : Fun K "missing_of" "missing_of" s_missing_of f fd) (c_worths_of : Cal P w K mg base cl "worths_of" 5 ["sheet", "most"] M_worths_of) : FnOk P w K mg base (L2.CX P w) 6 f fd ["sheet", "most"] (spM K cl 2 M_missing_of) :=
  fun_ok F sc_missing_of rfl fun cdv A outer s H F0 E hr => (s_seq (s_set (i := 2) sc_missing_of.nd rfl (by first | exact .inl rfl | exact .inr rfl) x_int) (s_seq (s_for (vs := [3]) (passes_of rfl) rfl (i_any rfl (x_cal rfl c_worths_of hr (by decide) rfl (takes_of rfl rfl rfl rfl) (xs_cons (x_var 0) (xs_cons (x_var 1) xs_nil)) (ALen.ok (.cons (.cons .nil))))) (tg_name (by decide)) (pg_name (i := 3) sc_missing_of.nd rfl (by first | exact .inl rfl | exact .inr rfl)) (s_one (s_if (x_tcmp (op_eqD (hu64 hr)) (rb_eq rfl) (nomark _) (x_q (x_var 3)) (x_q (x_var 2))) (s_one (s_set (i := 2) sc_missing_of.nd rfl (by first | exact .inl rfl | exact .inr rfl) (x_op op_addAll (rb_add rfl) (x_q (x_var 2)) (x_q x_int)))) s_nil))) (s_one (s_ret (x_var 2)))))
theorem ok_first_missing {f : Addr} {fd : FuncData} (F : Fun K "first_missing" "first_missing" s_first_missing f fd) (c_checked : Cal P w K mg base cl "checked" 5 ["sheet"] M_checked) (c_missing_of : Cal P w K mg base cl "missing_of" 6 ["sheet", "most"] M_missing_of) (c_need_number : Cal P w K mg base cl "need_number" 3 ["number", "most"] M_need_number) {u_STAMPS : Tok} (ct_STAMPS : mg "STAMPS" = some (.int 12 u_STAMPS)) : FnOk P w K mg base (L2.CX P w) 7 f fd ["sheet", "most"] (spM K cl 2 M_first_missing) :=
  fun_ok F sc_first_missing rfl fun cdv A outer s H F0 E hr => (s_seq (s_expr (x_cal rfl c_checked hr (by decide) rfl (takes_of rfl rfl rfl rfl) (xs_cons (x_var 0) xs_nil) (ALen.ok (.cons .nil)))) (s_seq (s_expr (x_cal rfl c_need_number hr (by decide) rfl (takes_of rfl rfl rfl rfl) (xs_cons (x_var 1) (xs_cons (x_glob (v := .int 12) rfl ct_STAMPS ⟨_, rfl⟩ (fun _ => .int _)) xs_nil)) (ALen.ok (.cons (.cons .nil))))) (s_one (s_ret (x_cal rfl c_missing_of hr (by decide) rfl (takes_of rfl rfl rfl rfl) (xs_cons (x_var 0) (xs_cons (x_var 1) xs_nil)) (ALen.ok (.cons (.cons .nil))))))))
theorem ok_need_wants {f : Addr} {fd : FuncData} (F : Fun K "need_wants" "need_wants" s_need_wants f fd) (c_is_whole : Cal P w K mg base cl "is_whole" 1 ["thing"] M_is_whole) (bt_all : mg "all" = none) (bt_isinstance : mg "isinstance" = none) (bt_len : mg "len" = none) (bt_list : mg "list" = none) (x_NoWants : ExF K mg cl "NoWants" .wants) {u_STAMPS : Tok} (ct_STAMPS : mg "STAMPS" = some (.int 12 u_STAMPS)) : FnOk P w K mg base (L2.CX P w) 2 f fd ["wants"] (spM K cl 1 M_need_wants) :=
  fun_ok F sc_need_wants rfl fun cdv A outer s H F0 E hr => (s_seq (s_if (PW.pt (x_or (x_not (x_t (x_isi rfl "list" ty_list rfl bt_isinstance rfl bt_list (by decide +kernel) (x_q (x_var 0))))) (x_or1 (x_not (x_tchain op_le op_le rb_cmp rb_cmp (x_q x_int) (x_q (x_cb call_len (rcb_len rfl) rfl bt_len (by decide +kernel) (qs_cons (x_q (x_var 0)) qs_nil))) (x_q (x_glob (v := .int 12) rfl ct_STAMPS ⟨_, rfl⟩ (fun _ => .int _)))))))) (s_one (s_raiseX x_NoWants rfl (takes_of rfl rfl rfl rfl) rfl)) s_nil) (s_one (s_if (x_not (x_t (x_cb (cr_all rfl) (rcb_all rfl) rfl bt_all (by decide +kernel) (qs_cons (x_q (x_lc (own := [("want", 1)]) rfl sc_need_wants.nd (i_q (i_any rfl (x_var 0))) (blkOk_by (N := nm_need_wants) (sc := defScope s_need_wants) (by decide +kernel)) (tg_name (by decide)) (fun _ _ _ _ _ => (pg_name (i := 1) sc_need_wants.nd rfl (by first | exact .inl rfl | exact .inr rfl))) (fun _ _ _ _ _ => xts_nil) (fun _ _ _ _ _ => (x_andV (x_cal rfl c_is_whole hr (by decide) rfl takes0 (xs_cons (x_var 1) xs_nil) (ALen.ok (.cons .nil))) (x_one (x_cmp op_ge rb_cmp (nomark _) (x_q (x_var 1)) (x_q x_int))))))) qs_nil)))) (s_one (s_raiseX x_NoWants rfl (takes_of rfl rfl rfl rfl) rfl)) s_nil)))
theorem ok_pieces_with {f : Addr} {fd : FuncData} (F : Fun K "pieces_with" "pieces_with" s_pieces_with f fd) (c_grown : Cal P w K mg base cl "grown" 2 ["known", "some"] M_grown) (c_sum_of : Cal P w K mg base cl "sum_of" 1 ["sheet", "piece"] M_sum_of) (bt_max : mg "max" = none) : FnOk P w K mg base (L2.CX P w) 3 f fd ["sheet", "free", "wanted"] (spM K cl 3 M_pieces_with) :=
  fun_ok F sc_pieces_with rfl fun cdv A outer s H F0 E hr => (s_seq (s_set (i := 3) sc_pieces_with.nd rfl (by first | exact .inl rfl | exact .inr rfl) (x_lst (xs_cons (x_cut rfl (x_q (x_var 1)) xo_none (xo_some (x_q x_int))) xs_nil))) (s_seq (s_ownL (i := 4) sc_pieces_with.nd rfl (by first | exact .inl rfl | exact .inr rfl) xs_nil) (s_seq (s_while 100 (passes_of rfl) (x_tcmp (op_neD (hu64 hr)) (rb_ne rfl) (nomark _) (x_q (x_var 3)) (x_q (x_lst xs_nil))) (s_seq (s_ext (i := 4) rfl rfl (by first | exact Or.inl rfl | exact Or.inr (Or.inl rfl) | exact Or.inr (Or.inr rfl)) (x_q (x_lc (own := [("piece", 5)]) rfl sc_pieces_with.nd (i_q (i_any rfl (x_var 3))) (blkOk_by (N := nm_pieces_with) (sc := defScope s_pieces_with) (by decide +kernel)) (tg_name (by decide)) (fun _ _ _ _ _ => (pg_name (i := 5) sc_pieces_with.nd rfl (by first | exact .inl rfl | exact .inr rfl))) (fun _ _ _ _ _ => xts_one (x_tcmp (opOr (op_inD (hu65 hr)) (op_inT (hu65 hr))) (rb_in rfl) rfl (x_q (x_cal rfl c_sum_of hr (by decide) rfl takes0 (xs_cons (x_var 0) (xs_cons (x_var 5) xs_nil)) (ALen.ok (.cons (.cons .nil))))) (x_q (x_var 2)))) (fun _ _ _ _ _ => (x_var 5))))) (s_one (s_setLc (i := 3) (own := [("piece", 5)]) rfl sc_pieces_with.nd rfl rfl (sw_true rfl rfl rfl (by decide +kernel)) (i_q (i_any rfl (x_cal rfl c_grown hr (by decide) rfl (takes_of rfl rfl rfl rfl) (xs_cons (x_var 1) (xs_cons (x_var 3) xs_nil)) (ALen.ok (.cons (.cons .nil)))))) (blkOk_by (N := nm_pieces_with) (sc := defScope s_pieces_with) (by decide +kernel)) (tg_name (by decide)) (fun _ _ _ _ _ => (pg_name (i := 5) sc_pieces_with.nd rfl (by first | exact .inl rfl | exact .inr rfl))) (fun _ _ _ _ _ => xts_one (x_tcmp op_le rb_cmp (nomark _) (x_q (x_cal rfl c_sum_of hr (by decide) rfl takes0 (xs_cons (x_var 0) (xs_cons (x_var 5) xs_nil)) (ALen.ok (.cons (.cons .nil))))) (x_q (x_cb (cr_max rfl) (rcb_max rfl) rfl bt_max (by decide +kernel) (qs_cons (x_q (x_var 2)) qs_nil))))) (fun _ _ _ _ _ => (x_var 5)))))) (s_one (s_retO (i := 4) rfl (by first | exact Or.inl rfl | exact Or.inr (Or.inl rfl) | exact Or.inr (Or.inr rfl)))))))
theorem ok_inner {f : Addr} {fd : FuncData} (F : Fun K "inner" "inner" s_inner f fd) (c_around : Cal P w K mg base cl "around" 1 ["cell"] M_around) (bt_len : mg "len" = none) (bt_sum : mg "sum" = none) : FnOk P w K mg base (L2.CX P w) 2 f fd ["piece"] (spM K cl 1 M_inner) :=
  fun_ok F sc_inner rfl fun cdv A outer s H F0 E hr => (s_one (s_ret (x_op op_fdivN rb_fdiv (x_q (x_cb (cr_sum rfl) (rcb_sum rfl) rfl bt_sum (by decide +kernel) (qs_cons (x_q (x_lc (own := [("cell", 1)]) rfl sc_inner.nd (i_q (i_any rfl (x_var 0))) (blkOk_by (N := nm_inner) (sc := defScope s_inner) (by decide +kernel)) (tg_name (by decide)) (fun _ _ _ _ _ => (pg_name (i := 1) sc_inner.nd rfl (by first | exact .inl rfl | exact .inr rfl))) (fun _ _ _ _ _ => xts_nil) (fun _ _ _ _ _ => (x_cb call_len (rcb_len rfl) rfl bt_len (by decide +kernel) (qs_cons (x_q (x_lc (own := [("other", 2)]) rfl sc_inner.nd (i_q (i_any rfl (x_cal rfl c_around hr (by decide) rfl takes0 (xs_cons (x_var 1) xs_nil) (ALen.ok (.cons .nil))))) (blkOk_by (by rfl)) (tg_name (by decide)) (fun _ _ _ _ _ => (pg_name (i := 2) sc_inner.nd rfl (by first | exact .inl rfl | exact .inr rfl))) (fun _ _ _ _ _ => xts_one (x_tcmp (opOr (op_inD (hu65 hr)) (op_inT (hu65 hr))) (rb_in rfl) rfl (x_q (x_var 2)) (x_q (x_var 0)))) (fun _ _ _ _ _ => (x_var 2)))) qs_nil))))) qs_nil))) (x_q x_int))))
theorem ok_best_plan {f : Addr} {fd : FuncData} (F : Fun K "best_plan" "best_plan" s_best_plan f fd) (c_inner : Cal P w K mg base cl "inner" 2 ["piece"] M_inner) (c_pieces_with : Cal P w K mg base cl "pieces_with" 3 ["sheet", "free", "wanted"] M_pieces_with) (c_sum_of : Cal P w K mg base cl "sum_of" 1 ["sheet", "piece"] M_sum_of) (bt_int : mg "int" = none) (bt_tuple : mg "tuple" = none) {k9 : Nat} (hk9 : 3 ≤ k9) {M_best_plan : DM} (c_best_plan : Cal P w K mg base cl "best_plan" k9 ["sheet", "free", "left"] M_best_plan) : FnOk P w K mg base (L2.CX P w) (k9 + 1) f fd ["sheet", "free", "left"] (spM K cl 3 (M_best_planF M_best_plan)) :=
  fun_ok F sc_best_plan rfl fun cdv A outer s H F0 E hr => (s_seq (s_if (x_tcmp (op_eqD (hu64 hr)) (rb_eq rfl) (nomark _) (x_q (x_var 1)) (x_q (x_tup xs_nil))) (s_one (s_ret (x_ix ix_seq (rb_ix rfl) (x_q (x_lst (xs_cons (x_tup (xs_cons x_int (xs_cons (x_lst xs_nil) xs_nil))) (xs_cons x_non xs_nil)))) (x_q (x_cty call_intA rcb_intA rfl bt_int (by decide +kernel) (qs_cons (x_q (x_cmp (op_neD (hu64 hr)) (rb_ne rfl) (nomark _) (x_q (x_var 2)) (x_q (x_lst xs_nil)))) qs_nil)))))) s_nil) (s_seq (s_if (x_tcmp (op_eqD (hu64 hr)) (rb_eq rfl) (nomark _) (x_q (x_var 2)) (x_q (x_lst xs_nil))) (s_one (s_ret x_non)) s_nil) (s_seq (s_set (i := 3) sc_best_plan.nd rfl (by first | exact .inl rfl | exact .inr rfl) x_non) (s_seq (s_for (vs := [4]) (passes_of rfl) rfl (i_any rfl (x_cal rfl c_pieces_with hr (by omega) rfl (takes_of rfl rfl rfl rfl) (xs_cons (x_var 0) (xs_cons (x_var 1) (xs_cons (x_lc (own := [("want", 8), ("place", 9)]) rfl sc_best_plan.nd (i_q (i_any rfl (x_var 2))) (blkOk_by (N := nm_best_plan) (sc := defScope s_best_plan) (by decide +kernel)) (tg_two rfl (by decide) (by decide)) (fun _ _ _ _ _ => (pg_tup rfl (pgs_cons (pg_name (i := 8) sc_best_plan.nd rfl (by first | exact .inl rfl | exact .inr rfl)) (pgs_cons (pg_name (i := 9) sc_best_plan.nd rfl (by first | exact .inl rfl | exact .inr rfl)) pgs_nil)))) (fun _ _ _ _ _ => xts_nil) (fun _ _ _ _ _ => (x_var 8))) xs_nil))) (ALen.ok (.cons (.cons (.cons .nil)))))) (tg_name (by decide)) (pg_name (i := 4) sc_best_plan.nd rfl (by first | exact .inl rfl | exact .inr rfl)) (s_seq (s_set (i := 5) sc_best_plan.nd rfl (by first | exact .inl rfl | exact .inr rfl) (x_ix ix_seq (rb_ix rfl) (x_q (x_lc (own := [("one", 10)]) rfl sc_best_plan.nd (i_q (i_any rfl (x_var 2))) (blkOk_by (N := nm_best_plan) (sc := defScope s_best_plan) (by decide +kernel)) (tg_name (by decide)) (fun _ _ _ _ _ => (pg_name (i := 10) sc_best_plan.nd rfl (by first | exact .inl rfl | exact .inr rfl))) (fun _ _ _ _ _ => xts_one (x_tcmp (op_eqD (hu64 hr)) (rb_eq rfl) (nomark _) (x_q (x_ix ix_seq (rb_ix rfl) (x_q (x_var 10)) (x_q x_int))) (x_q (x_cal rfl c_sum_of hr (by omega) rfl takes0 (xs_cons (x_var 0) (xs_cons (x_var 4) xs_nil)) (ALen.ok (.cons (.cons .nil))))))) (fun _ _ _ _ _ => (x_var 10)))) (x_q x_int))) (s_seq (s_set (i := 6) sc_best_plan.nd rfl (by first | exact .inl rfl | exact .inr rfl) (x_cty call_tuple_of (rcb_tuple rfl) rfl bt_tuple (by decide +kernel) (qs_cons (x_q (x_lc (own := [("cell", 11)]) rfl sc_best_plan.nd (i_q (i_any rfl (x_var 1))) (blkOk_by (N := nm_best_plan) (sc := defScope s_best_plan) (by decide +kernel)) (tg_name (by decide)) (fun _ _ _ _ _ => (pg_name (i := 11) sc_best_plan.nd rfl (by first | exact .inl rfl | exact .inr rfl))) (fun _ _ _ _ _ => xts_one (x_tcmp (opOr (op_notInD (hu65 hr)) (op_notInT (hu65 hr))) (rb_notin rfl) rfl (x_q (x_var 11)) (x_q (x_var 4)))) (fun _ _ _ _ _ => (x_var 11)))) qs_nil))) (s_seq (s_set (i := 7) sc_best_plan.nd rfl (by first | exact .inl rfl | exact .inr rfl) (x_cal rfl c_best_plan hr (by omega) rfl (takes_of rfl rfl rfl rfl) (xs_cons (x_var 0) (xs_cons (x_var 6) (xs_cons (x_lc (own := [("one", 10)]) rfl sc_best_plan.nd (i_q (i_any rfl (x_var 2))) (blkOk_by (N := nm_best_plan) (sc := defScope s_best_plan) (by decide +kernel)) (tg_name (by decide)) (fun _ _ _ _ _ => (pg_name (i := 10) sc_best_plan.nd rfl (by first | exact .inl rfl | exact .inr rfl))) (fun _ _ _ _ _ => xts_one (x_tcmp (op_neD (hu64 hr)) (rb_ne rfl) (nomark _) (x_q (x_var 10)) (x_q (x_var 5)))) (fun _ _ _ _ _ => (x_var 10))) xs_nil))) (ALen.ok (.cons (.cons (.cons .nil)))))) (s_one (s_if (PW.pt (x_and (x_tcmp op_notN rb_isNotN (nomark _) (x_q (x_var 7)) (x_q x_non)) (x_and1 (PW.pt (x_or (x_tcmp op_isN rb_isN (nomark _) (x_q (x_var 3)) (x_q x_non)) (x_or1 (x_tcmp op_gt rb_cmp (nomark _) (x_q (x_op op_addAll (rb_add rfl) (x_q (x_ix ix_seq (rb_ix rfl) (x_q (x_var 7)) (x_q x_int))) (x_q (x_cal rfl c_inner hr (by omega) rfl (takes_of rfl rfl rfl rfl) (xs_cons (x_var 4) xs_nil) (ALen.ok (.cons .nil)))))) (x_q (x_ix ix_seq (rb_ix rfl) (x_q (x_var 3)) (x_q x_int)))))))))) (s_one (s_set (i := 3) sc_best_plan.nd rfl (by first | exact .inl rfl | exact .inr rfl) (x_tup (xs_cons (x_op op_addAll (rb_add rfl) (x_q (x_ix ix_seq (rb_ix rfl) (x_q (x_var 7)) (x_q x_int))) (x_q (x_cal rfl c_inner hr (by omega) rfl (takes_of rfl rfl rfl rfl) (xs_cons (x_var 4) xs_nil) (ALen.ok (.cons .nil))))) (xs_cons (x_op op_addAll (rb_add rfl) (x_q (x_lst (xs_cons (x_tup (xs_cons (x_ix ix_seq (rb_ix rfl) (x_q (x_var 5)) (x_q x_int)) (xs_cons (x_var 4) xs_nil))) xs_nil))) (x_q (x_ix ix_seq (rb_ix rfl) (x_q (x_var 7)) (x_q x_int)))) xs_nil))))) s_nil)))))) (s_one (s_ret (x_var 3)))))))
theorem rec_best_plan {f : Addr} {fd : FuncData} (F : Fun K "best_plan" "best_plan" s_best_plan f fd) (c_inner : Cal P w K mg base cl "inner" 2 ["piece"] M_inner) (c_pieces_with : Cal P w K mg base cl "pieces_with" 3 ["sheet", "free", "wanted"] M_pieces_with) (c_sum_of : Cal P w K mg base cl "sum_of" 1 ["sheet", "piece"] M_sum_of) (bt_int : mg "int" = none) (bt_tuple : mg "tuple" = none) (hm9 : mg "best_plan" = some (.ref f)) (hb9 : Binds K fd ["sheet", "free", "left"] []) : ∀ n, FnOk P w K mg base (L2.CX P w) (3 + n) f fd ["sheet", "free", "left"] (spM K cl 3 (M_best_planN n))
  | 0 => fn_stuck
  | n + 1 => ok_best_plan F c_inner c_pieces_with c_sum_of bt_int bt_tuple (Nat.le_add_right _ _) (cal_mk F hm9 hb9 (rec_best_plan F c_inner c_pieces_with c_sum_of bt_int bt_tuple hm9 hb9 n))
theorem ok_plan_for {f : Addr} {fd : FuncData} (F : Fun K "plan_for" "plan_for" s_plan_for f fd) (c_best_plan : Cal P w K mg base cl "best_plan" 16 ["sheet", "free", "left"] M_best_plan) (c_cells_of : Cal P w K mg base cl "cells_of" 1 ["sheet"] M_cells_of) (c_sum_of : Cal P w K mg base cl "sum_of" 1 ["sheet", "piece"] M_sum_of) (bt_enumerate : mg "enumerate" = none) (bt_len : mg "len" = none) (bt_sum : mg "sum" = none) (bt_tuple : mg "tuple" = none) : FnOk P w K mg base (L2.CX P w) 17 f fd ["sheet", "wants"] (spM K cl 2 M_plan_for) :=
  fun_ok F sc_plan_for rfl fun cdv A outer s H F0 E hr => (s_seq (s_set (i := 2) sc_plan_for.nd rfl (by first | exact .inl rfl | exact .inr rfl) (x_cty call_tuple_of (rcb_tuple rfl) rfl bt_tuple (by decide +kernel) (qs_cons (x_q (x_cal rfl c_cells_of hr (by decide) rfl (takes_of rfl rfl rfl rfl) (xs_cons (x_var 0) xs_nil) (ALen.ok (.cons .nil)))) qs_nil))) (s_seq (s_if (PW.pt (x_or (x_tcmp (op_neD (hu64 hr)) (rb_ne rfl) (nomark _) (x_q (x_cb (cr_sum rfl) (rcb_sum rfl) rfl bt_sum (by decide +kernel) (qs_cons (x_q (x_var 1)) qs_nil))) (x_q (x_cal rfl c_sum_of hr (by decide) rfl (takes_of rfl rfl rfl rfl) (xs_cons (x_var 0) (xs_cons (x_var 2) xs_nil)) (ALen.ok (.cons (.cons .nil)))))) (x_or1 (x_tcmp op_gt rb_cmp (nomark _) (x_q (x_cb call_len (rcb_len rfl) rfl bt_len (by decide +kernel) (qs_cons (x_q (x_var 1)) qs_nil))) (x_q (x_cb call_len (rcb_len rfl) rfl bt_len (by decide +kernel) (qs_cons (x_q (x_var 2)) qs_nil))))))) (s_one (s_ret x_non)) s_nil) (s_one (s_ret (x_cal rfl c_best_plan hr (by decide) rfl (takes_of rfl rfl rfl rfl) (xs_cons (x_var 0) (xs_cons (x_var 2) (xs_cons (x_lc (own := [("place", 3), ("want", 4)]) rfl sc_plan_for.nd (i_enum rfl rfl bt_enumerate (qs_cons (x_q (x_var 1)) qs_nil)) (blkOk_by (N := nm_plan_for) (sc := defScope s_plan_for) (by decide +kernel)) (tg_two rfl (by decide) (by decide)) (fun _ _ _ _ _ => (pg_tup rfl (pgs_cons (pg_name (i := 3) sc_plan_for.nd rfl (by first | exact .inl rfl | exact .inr rfl)) (pgs_cons (pg_name (i := 4) sc_plan_for.nd rfl (by first | exact .inl rfl | exact .inr rfl)) pgs_nil)))) (fun _ _ _ _ _ => xts_nil) (fun _ _ _ _ _ => (x_tup (xs_cons (x_var 4) (xs_cons (x_var 3) xs_nil))))) xs_nil))) (ALen.ok (.cons (.cons (.cons .nil)))))))))
theorem ok_fewest_tears {f : Addr} {fd : FuncData} (F : Fun K "fewest_tears" "fewest_tears" s_fewest_tears f fd) (c_cells_of : Cal P w K mg base cl "cells_of" 1 ["sheet"] M_cells_of) (c_checked : Cal P w K mg base cl "checked" 5 ["sheet"] M_checked) (c_inner : Cal P w K mg base cl "inner" 2 ["piece"] M_inner) (c_need_wants : Cal P w K mg base cl "need_wants" 2 ["wants"] M_need_wants) (c_plan_for : Cal P w K mg base cl "plan_for" 17 ["sheet", "wants"] M_plan_for) : FnOk P w K mg base (L2.CX P w) 18 f fd ["sheet", "wants"] (spM K cl 2 M_fewest_tears) :=
  fun_ok F sc_fewest_tears rfl fun cdv A outer s H F0 E hr => (s_seq (s_expr (x_cal rfl c_checked hr (by decide) rfl (takes_of rfl rfl rfl rfl) (xs_cons (x_var 0) xs_nil) (ALen.ok (.cons .nil)))) (s_seq (s_expr (x_cal rfl c_need_wants hr (by decide) rfl (takes_of rfl rfl rfl rfl) (xs_cons (x_var 1) xs_nil) (ALen.ok (.cons .nil)))) (s_seq (s_set (i := 2) sc_fewest_tears.nd rfl (by first | exact .inl rfl | exact .inr rfl) (x_cal rfl c_plan_for hr (by decide) rfl (takes_of rfl rfl rfl rfl) (xs_cons (x_var 0) (xs_cons (x_var 1) xs_nil)) (ALen.ok (.cons (.cons .nil))))) (s_seq (s_if (x_tcmp op_isN rb_isN (nomark _) (x_q (x_var 2)) (x_q x_non)) (s_one (s_ret x_non)) s_nil) (s_one (s_ret (x_op op_sub rb_sub (x_q (x_cal rfl c_inner hr (by decide) rfl (takes_of rfl rfl rfl rfl) (xs_cons (x_cal rfl c_cells_of hr (by decide) rfl (takes_of rfl rfl rfl rfl) (xs_cons (x_var 0) xs_nil) (ALen.ok (.cons .nil))) xs_nil) (ALen.ok (.cons .nil)))) (x_q (x_ix ix_seq (rb_ix rfl) (x_q (x_var 2)) (x_q x_int))))))))))
theorem ok_law_cell_at {f : Addr} {fd : FuncData} (F : Fun K "_law_cell_at" "_law_cell_at" s_law_cell_at f fd) (bt_len : mg "len" = none) : FnOk P w K mg base (L2.CX P w) 1 f fd ["_law_script", "_law_k"] (spM K cl 2 M_law_cell_at) :=
  fun_ok F sc_law_cell_at rfl fun cdv A outer s H F0 E hr => (s_seq (s_if (x_tcmp op_lt rb_cmp (nomark _) (x_q (x_var 1)) (x_q (x_cb call_len (rcb_len rfl) rfl bt_len (by decide +kernel) (qs_cons (x_q (x_var 0)) qs_nil)))) (s_one (s_ret (x_ix ix_seq (rb_ix rfl) (x_q (x_var 0)) (x_q (x_var 1))))) s_nil) (s_seq (s_if (x_tcmp (op_eqD (hu64 hr)) (rb_eq rfl) (nomark _) (x_q (x_var 0)) (x_q (x_lst xs_nil))) (s_one (s_ret x_int)) s_nil) (s_one (s_ret (x_op op_addAll (rb_add rfl) (x_q (x_op op_mulAll (rb_mul rfl) (x_q (x_ix ix_seq (rb_ix rfl) (x_q (x_var 0)) (x_q (x_op op_modN rb_mod (x_q (x_var 1)) (x_q (x_cb call_len (rcb_len rfl) rfl bt_len (by decide +kernel) (qs_cons (x_q (x_var 0)) qs_nil))))))) (x_q x_int))) (x_q (x_var 1)))))))
theorem ok_law_mixed {f : Addr} {fd : FuncData} (F : Fun K "_law_mixed" "_law_mixed" s_law_mixed f fd) (c_law_cell_at : Cal P w K mg base cl "_law_cell_at" 1 ["_law_script", "_law_k"] M_law_cell_at) : FnOk P w K mg base (L2.CX P w) 2 f fd ["_law_script", "_law_k", "_law_many"] (spM K cl 3 M_law_mixed) :=
  fun_ok F sc_law_mixed rfl fun cdv A outer s H F0 E hr => (s_seq (s_set (i := 3) sc_law_mixed.nd rfl (by first | exact .inl rfl | exact .inr rfl) (x_op op_modN rb_mod (x_q (x_op op_mulAll (rb_mul rfl) (x_q (x_op op_addAll (rb_add rfl) (x_q (x_op op_addAll (rb_add rfl) (x_q (x_cal rfl c_law_cell_at hr (by decide) rfl (takes_of rfl rfl rfl rfl) (xs_cons (x_var 0) (xs_cons (x_var 1) xs_nil)) (ALen.ok (.cons (.cons .nil))))) (x_q (x_op op_mulAll (rb_mul rfl) (x_q x_int) (x_q (x_var 1)))))) (x_q x_int))) (x_q x_int))) (x_q x_int))) (s_one (s_ret (x_op op_modN rb_mod (x_q (x_op op_modN rb_mod (x_q (x_op op_addAll (rb_add rfl) (x_q (x_op op_addAll (rb_add rfl) (x_q (x_op op_mulAll (rb_mul rfl) (x_q (x_var 3)) (x_q (x_var 3)))) (x_q (x_op op_mulAll (rb_mul rfl) (x_q x_int) (x_q (x_var 3)))))) (x_q (x_var 1)))) (x_q x_int))) (x_q (x_var 2))))))
theorem ok_law_sheet {f : Addr} {fd : FuncData} (F : Fun K "_law_sheet" "_law_sheet" s_law_sheet f fd) (c_law_mixed : Cal P w K mg base cl "_law_mixed" 2 ["_law_script", "_law_k", "_law_many"] M_law_mixed) (bt_range : mg "range" = none) (bt_tuple : mg "tuple" = none) : FnOk P w K mg base (L2.CX P w) 3 f fd ["_law_script", "_law_at", "_law_most"] (spM K cl 3 M_law_sheet) :=
  fun_ok F sc_law_sheet rfl fun cdv A outer s H F0 E hr => (s_seq (s_set (i := 3) sc_law_sheet.nd rfl (by first | exact .inl rfl | exact .inr rfl) (x_op op_addAll (rb_add rfl) (x_q x_int) (x_q (x_cal rfl c_law_mixed hr (by decide) rfl (takes_of rfl rfl rfl rfl) (xs_cons (x_var 0) (xs_cons (x_var 1) (xs_cons x_int xs_nil))) (ALen.ok (.cons (.cons (.cons .nil)))))))) (s_seq (s_set (i := 4) sc_law_sheet.nd rfl (by first | exact .inl rfl | exact .inr rfl) (x_op op_addAll (rb_add rfl) (x_q x_int) (x_q (x_cal rfl c_law_mixed hr (by decide) rfl (takes_of rfl rfl rfl rfl) (xs_cons (x_var 0) (xs_cons (x_op op_addAll (rb_add rfl) (x_q (x_var 1)) (x_q x_int)) (xs_cons x_int xs_nil))) (ALen.ok (.cons (.cons (.cons .nil)))))))) (s_seq (s_set (i := 5) sc_law_sheet.nd rfl (by first | exact .inl rfl | exact .inr rfl) (x_ix ix_seq (rb_ix rfl) (x_q (x_lst (xs_cons x_int (xs_cons x_int (xs_cons x_int (xs_cons x_int (xs_cons x_int xs_nil))))))) (x_q (x_cal rfl c_law_mixed hr (by decide) rfl (takes_of rfl rfl rfl rfl) (xs_cons (x_var 0) (xs_cons (x_op op_addAll (rb_add rfl) (x_q (x_var 1)) (x_q x_int)) (xs_cons x_int xs_nil))) (ALen.ok (.cons (.cons (.cons .nil)))))))) (s_seq (s_set (i := 6) sc_law_sheet.nd rfl (by first | exact .inl rfl | exact .inr rfl) (x_cal rfl c_law_mixed hr (by decide) rfl (takes_of rfl rfl rfl rfl) (xs_cons (x_var 0) (xs_cons (x_op op_addAll (rb_add rfl) (x_q (x_var 1)) (x_q x_int)) (xs_cons x_int xs_nil))) (ALen.ok (.cons (.cons (.cons .nil)))))) (s_seq (s_set (i := 7) sc_law_sheet.nd rfl (by first | exact .inl rfl | exact .inr rfl) (x_var 2)) (s_seq (s_ownL (i := 8) sc_law_sheet.nd rfl (by first | exact .inl rfl | exact .inr rfl) xs_nil) (s_seq (s_for (vs := [9]) (passes_of rfl) rfl (i_rng1 rfl bt_range (qs_cons (x_q (x_var 3)) qs_nil)) (tg_name (by decide)) (pg_name (i := 9) sc_law_sheet.nd rfl (by first | exact .inl rfl | exact .inr rfl)) (s_seq (s_ownL (i := 10) sc_law_sheet.nd rfl (by first | exact .inl rfl | exact .inr rfl) xs_nil) (s_seq (s_for (vs := [11]) (passes_of rfl) rfl (i_rng1 rfl bt_range (qs_cons (x_q (x_var 4)) qs_nil)) (tg_name (by decide)) (pg_name (i := 11) sc_law_sheet.nd rfl (by first | exact .inl rfl | exact .inr rfl)) (s_seq (s_set (i := 12) sc_law_sheet.nd rfl (by first | exact .inl rfl | exact .inr rfl) (x_cal rfl c_law_mixed hr (by decide) rfl (takes_of rfl rfl rfl rfl) (xs_cons (x_var 0) (xs_cons (x_op op_addAll (rb_add rfl) (x_q (x_op op_addAll (rb_add rfl) (x_q (x_op op_addAll (rb_add rfl) (x_q (x_var 1)) (x_q x_int))) (x_q (x_op op_mulAll (rb_mul rfl) (x_q (x_var 4)) (x_q (x_var 9)))))) (x_q (x_var 11))) (xs_cons (x_op op_mulAll (rb_mul rfl) (x_q x_int) (x_q (x_var 5))) xs_nil))) (ALen.ok (.cons (.cons (.cons .nil)))))) (s_seq (s_set (i := 13) sc_law_sheet.nd rfl (by first | exact .inl rfl | exact .inr rfl) (x_op op_addAll (rb_add rfl) (x_q x_int) (x_q (x_op op_fdivN rb_fdiv (x_q (x_var 12)) (x_q x_int))))) (s_seq (s_if (PW.pt (x_or (x_tcmp (op_eqD (hu64 hr)) (rb_eq rfl) (nomark _) (x_q (x_var 7)) (x_q x_int)) (x_or1 (PW.pt (x_and (x_tcmp op_lt rb_cmp (nomark _) (x_q (x_op op_modN rb_mod (x_q (x_var 12)) (x_q x_int))) (x_q (x_var 6))) (x_and1 (PW.pt (x_or (x_tcmp op_lt rb_cmp (nomark _) (x_q (x_var 7)) (x_q (x_var 2))) (x_or (x_tcmp op_lt rb_cmp (nomark _) (x_q (x_op op_addAll (rb_add rfl) (x_q (x_var 9)) (x_q x_int))) (x_q (x_var 3))) (x_or1 (x_tcmp op_lt rb_cmp (nomark _) (x_q (x_op op_addAll (rb_add rfl) (x_q (x_var 11)) (x_q x_int))) (x_q (x_var 4))))))))))))) (s_one (s_set (i := 13) sc_law_sheet.nd rfl (by first | exact .inl rfl | exact .inr rfl) x_non)) (s_one (s_set (i := 7) sc_law_sheet.nd rfl (by first | exact .inl rfl | exact .inr rfl) (x_op op_sub rb_sub (x_q (x_var 7)) (x_q x_int))))) (s_one (s_app (i := 10) rfl (by first | exact Or.inl rfl | exact Or.inr (Or.inl rfl) | exact Or.inr (Or.inr rfl)) (x_var 13))))))) (s_one (s_app (i := 8) rfl (by first | exact Or.inl rfl | exact Or.inr (Or.inl rfl) | exact Or.inr (Or.inr rfl)) (x_cty call_tuple_of (rcb_tuple rfl) rfl bt_tuple (by decide +kernel) (qs_cons (x_own 10) qs_nil))))))) (s_one (s_ret (x_cty call_tuple_of (rcb_tuple rfl) rfl bt_tuple (by decide +kernel) (qs_cons (x_own 8) qs_nil)))))))))))
theorem ok_law_worth {f : Addr} {fd : FuncData} (F : Fun K "_law_worth" "_law_worth" s_law_worth f fd) (bt_sum : mg "sum" = none) : FnOk P w K mg base (L2.CX P w) 1 f fd ["_law_sheet_here", "_law_some"] (spM K cl 2 M_law_worth) :=
  fun_ok F sc_law_worth rfl fun cdv A outer s H F0 E hr => (s_one (s_ret (x_cb (cr_sum rfl) (rcb_sum rfl) rfl bt_sum (by decide +kernel) (qs_cons (x_q (x_lc (own := [("_law_cell", 2)]) rfl sc_law_worth.nd (i_q (i_any rfl (x_var 1))) (blkOk_by (N := nm_law_worth) (sc := defScope s_law_worth) (by decide +kernel)) (tg_name (by decide)) (fun _ _ _ _ _ => (pg_name (i := 2) sc_law_worth.nd rfl (by first | exact .inl rfl | exact .inr rfl))) (fun _ _ _ _ _ => xts_nil) (fun _ _ _ _ _ => (x_ix ix_seq (rb_ix rfl) (x_q (x_ix ix_seq (rb_ix rfl) (x_q (x_var 0)) (x_q (x_ix ix_seq (rb_ix rfl) (x_q (x_var 2)) (x_q x_int))))) (x_q (x_ix ix_seq (rb_ix rfl) (x_q (x_var 2)) (x_q x_int))))))) qs_nil))))
theorem ok_law_cells {f : Addr} {fd : FuncData} (F : Fun K "_law_cells" "_law_cells" s_law_cells f fd) (bt_len : mg "len" = none) (bt_range : mg "range" = none) : FnOk P w K mg base (L2.CX P w) 1 f fd ["_law_sheet_here"] (spM K cl 1 M_law_cells) :=
  fun_ok F sc_law_cells rfl fun cdv A outer s H F0 E hr => (s_seq (s_ownL (i := 1) sc_law_cells.nd rfl (by first | exact .inl rfl | exact .inr rfl) xs_nil) (s_seq (s_for (vs := [2]) (passes_of rfl) rfl (i_rng1 rfl bt_range (qs_cons (x_q (x_cb call_len (rcb_len rfl) rfl bt_len (by decide +kernel) (qs_cons (x_q (x_var 0)) qs_nil))) qs_nil)) (tg_name (by decide)) (pg_name (i := 2) sc_law_cells.nd rfl (by first | exact .inl rfl | exact .inr rfl)) (s_one (s_for (vs := [3]) (passes_of rfl) rfl (i_rng1 rfl bt_range (qs_cons (x_q (x_cb call_len (rcb_len rfl) rfl bt_len (by decide +kernel) (qs_cons (x_q (x_ix ix_seq (rb_ix rfl) (x_q (x_var 0)) (x_q (x_var 2)))) qs_nil))) qs_nil)) (tg_name (by decide)) (pg_name (i := 3) sc_law_cells.nd rfl (by first | exact .inl rfl | exact .inr rfl)) (s_one (s_if (x_tcmp op_notN rb_isNotN (nomark _) (x_q (x_ix ix_seq (rb_ix rfl) (x_q (x_ix ix_seq (rb_ix rfl) (x_q (x_var 0)) (x_q (x_var 2)))) (x_q (x_var 3)))) (x_q x_non)) (s_one (s_app (i := 1) rfl (by first | exact Or.inl rfl | exact Or.inr (Or.inl rfl) | exact Or.inr (Or.inr rfl)) (x_tup (xs_cons (x_var 2) (xs_cons (x_var 3) xs_nil))))) s_nil))))) (s_one (s_retO (i := 1) rfl (by first | exact Or.inl rfl | exact Or.inr (Or.inl rfl) | exact Or.inr (Or.inr rfl))))))
theorem ok_law_beside {f : Addr} {fd : FuncData} (F : Fun K "_law_beside" "_law_beside" s_law_beside f fd) (bt_abs : mg "abs" = none) : FnOk P w K mg base (L2.CX P w) 1 f fd ["_law_one", "_law_other"] (spM K cl 2 M_law_beside) :=
  fun_ok F sc_law_beside rfl fun cdv A outer s H F0 E hr => (s_one (s_ret (x_cmp (op_eqD (hu64 hr)) (rb_eq rfl) (nomark _) (x_q (x_op op_addAll (rb_add rfl) (x_q (x_cb call_abs rcb_abs rfl bt_abs (by decide +kernel) (qs_cons (x_q (x_op op_sub rb_sub (x_q (x_ix ix_seq (rb_ix rfl) (x_q (x_var 0)) (x_q x_int))) (x_q (x_ix ix_seq (rb_ix rfl) (x_q (x_var 1)) (x_q x_int))))) qs_nil))) (x_q (x_cb call_abs rcb_abs rfl bt_abs (by decide +kernel) (qs_cons (x_q (x_op op_sub rb_sub (x_q (x_ix ix_seq (rb_ix rfl) (x_q (x_var 0)) (x_q x_int))) (x_q (x_ix ix_seq (rb_ix rfl) (x_q (x_var 1)) (x_q x_int))))) qs_nil))))) (x_q x_int))))
theorem ok_law_hangs {f : Addr} {fd : FuncData} (F : Fun K "_law_hangs" "_law_hangs" s_law_hangs f fd) (c_law_beside : Cal P w K mg base cl "_law_beside" 1 ["_law_one", "_law_other"] M_law_beside) (bt_len : mg "len" = none) : FnOk P w K mg base (L2.CX P w) 2 f fd ["_law_some"] (spM K cl 1 M_law_hangs) :=
  fun_ok F sc_law_hangs rfl fun cdv A outer s H F0 E hr => (s_seq (s_ownL (i := 1) sc_law_hangs.nd rfl (by first | exact .inl rfl | exact .inr rfl) (xs_cons (x_ix ix_seq (rb_ix rfl) (x_q (x_var 0)) (x_q x_int)) xs_nil)) (s_seq (s_set (i := 2) sc_law_hangs.nd rfl (by first | exact .inl rfl | exact .inr rfl) x_int) (s_seq (s_while 100 (passes_of rfl) (x_tcmp op_lt rb_cmp (nomark _) (x_q (x_var 2)) (x_q (x_cb call_len (rcb_len rfl) rfl bt_len (by decide +kernel) (qs_cons (x_own 1) qs_nil)))) (s_seq (s_ext (i := 1) rfl rfl (by first | exact Or.inl rfl | exact Or.inr (Or.inl rfl) | exact Or.inr (Or.inr rfl)) (x_q (x_lc (own := [("_law_cell", 3)]) rfl sc_law_hangs.nd (i_q (i_any rfl (x_var 0))) (blkOk_by (N := nm_law_hangs) (sc := defScope s_law_hangs) (by decide +kernel)) (tg_name (by decide)) (fun _ _ _ _ _ => (pg_name (i := 3) sc_law_hangs.nd rfl (by first | exact .inl rfl | exact .inr rfl))) (fun _ _ _ _ _ => xts_one (PW.pt (x_and (x_tcmp (opOr (op_notInD (hu65 hr)) (op_notInT (hu65 hr))) (rb_notin rfl) rfl (x_q (x_var 3)) (x_own 1)) (x_and1 (x_t (x_cal rfl c_law_beside hr (by decide) rfl takes0 (xs_cons (x_var 3) (xs_cons (x_ix ix_seq (rb_ix rfl) (x_own 1) (x_q (x_var 2))) xs_nil)) (ALen.ok (.cons (.cons .nil))))))))) (fun _ _ _ _ _ => (x_var 3))))) (s_one (s_set (i := 2) sc_law_hangs.nd rfl (by first | exact .inl rfl | exact .inr rfl) (x_op op_addAll (rb_add rfl) (x_q (x_var 2)) (x_q x_int)))))) (s_one (s_ret (x_cmp (op_eqD (hu64 hr)) (rb_eq rfl) (nomark _) (x_q (x_cb call_len (rcb_len rfl) rfl bt_len (by decide +kernel) (qs_cons (x_own 1) qs_nil))) (x_q (x_cb call_len (rcb_len rfl) rfl bt_len (by decide +kernel) (qs_cons (x_q (x_var 0)) qs_nil)))))))))
theorem ok_law_all {f : Addr} {fd : FuncData} (F : Fun K "_law_all" "_law_all" s_law_all f fd) (c_law_cells : Cal P w K mg base cl "_law_cells" 1 ["_law_sheet_here"] M_law_cells) (c_law_hangs : Cal P w K mg base cl "_law_hangs" 2 ["_law_some"] M_law_hangs) (bt_len : mg "len" = none) (bt_sorted : mg "sorted" = none) : FnOk P w K mg base (L2.CX P w) 3 f fd ["_law_sheet_here"] (spM K cl 1 M_law_all) :=
  fun_ok F sc_law_all rfl fun cdv A outer s H F0 E hr => (s_seq (s_set (i := 1) sc_law_all.nd rfl (by first | exact .inl rfl | exact .inr rfl) (x_lst (xs_cons (x_tup xs_nil) xs_nil))) (s_seq (s_for (vs := [2]) (passes_of rfl) rfl (i_any rfl (x_cal rfl c_law_cells hr (by decide) rfl (takes_of rfl rfl rfl rfl) (xs_cons (x_var 0) xs_nil) (ALen.ok (.cons .nil)))) (tg_name (by decide)) (pg_name (i := 2) sc_law_all.nd rfl (by first | exact .inl rfl | exact .inr rfl)) (s_one (s_set (i := 1) sc_law_all.nd rfl (by first | exact .inl rfl | exact .inr rfl) (x_op op_addAll (rb_add rfl) (x_q (x_var 1)) (x_q (x_lc (own := [("_law_one", 4)]) rfl sc_law_all.nd (i_q (i_any rfl (x_var 1))) (blkOk_by (N := nm_law_all) (sc := defScope s_law_all) (by decide +kernel)) (tg_name (by decide)) (fun _ _ _ _ _ => (pg_name (i := 4) sc_law_all.nd rfl (by first | exact .inl rfl | exact .inr rfl))) (fun _ _ _ _ _ => xts_nil) (fun _ _ _ _ _ => (x_op op_addAll (rb_add rfl) (x_q (x_var 4)) (x_q (x_tup (xs_cons (x_var 2) xs_nil))))))))))) (s_seq (s_setLc (i := 3) (own := [("_law_one", 4)]) rfl sc_law_all.nd rfl rfl (sw_true rfl rfl rfl (by decide +kernel)) (i_q (i_any rfl (x_var 1))) (blkOk_by (N := nm_law_all) (sc := defScope s_law_all) (by decide +kernel)) (tg_name (by decide)) (fun _ _ _ _ _ => (pg_name (i := 4) sc_law_all.nd rfl (by first | exact .inl rfl | exact .inr rfl))) (fun _ _ _ _ _ => xts_one (PW.pt (x_and (x_tcmp (op_neD (hu64 hr)) (rb_ne rfl) (nomark _) (x_q (x_var 4)) (x_q (x_tup xs_nil))) (x_and1 (x_t (x_cal rfl c_law_hangs hr (by decide) rfl takes0 (xs_cons (x_var 4) xs_nil) (ALen.ok (.cons .nil)))))))) (fun _ _ _ _ _ => (x_tup (xs_cons (x_cb call_len (rcb_len rfl) rfl bt_len (by decide +kernel) (qs_cons (x_q (x_var 4)) qs_nil)) (xs_cons (x_var 4) xs_nil))))) (s_one (s_ret (x_lc (own := [("_law_pair", 5)]) rfl sc_law_all.nd (i_q (i_any rfl (x_cb (call_sortedD (hu80 hr)) (rcb_sorted rfl) rfl bt_sorted (by decide +kernel) (qs_cons (x_q (x_var 3)) qs_nil)))) (blkOk_by (N := nm_law_all) (sc := defScope s_law_all) (by decide +kernel)) (tg_name (by decide)) (fun _ _ _ _ _ => (pg_name (i := 5) sc_law_all.nd rfl (by first | exact .inl rfl | exact .inr rfl))) (fun _ _ _ _ _ => xts_nil) (fun _ _ _ _ _ => (x_ix ix_seq (rb_ix rfl) (x_q (x_var 5)) (x_q x_int)))))))))
theorem ok_law_parted {f : Addr} {fd : FuncData} (F : Fun K "_law_parted" "_law_parted" s_law_parted f fd) (c_law_all : Cal P w K mg base cl "_law_all" 3 ["_law_sheet_here"] M_law_all) (c_law_cells : Cal P w K mg base cl "_law_cells" 1 ["_law_sheet_here"] M_law_cells) (c_law_mixed : Cal P w K mg base cl "_law_mixed" 2 ["_law_script", "_law_k", "_law_many"] M_law_mixed) (bt_len : mg "len" = none) (bt_min : mg "min" = none) : FnOk P w K mg base (L2.CX P w) 4 f fd ["_law_script", "_law_at", "_law_sheet_here"] (spM K cl 3 M_law_parted) :=
  fun_ok F sc_law_parted rfl fun cdv A outer s H F0 E hr => (s_seq (s_set (i := 3) sc_law_parted.nd rfl (by first | exact .inl rfl | exact .inr rfl) (x_cal rfl c_law_all hr (by decide) rfl (takes_of rfl rfl rfl rfl) (xs_cons (x_var 2) xs_nil) (ALen.ok (.cons .nil)))) (s_seq (s_set (i := 4) sc_law_parted.nd rfl (by first | exact .inl rfl | exact .inr rfl) (x_cal rfl c_law_cells hr (by decide) rfl (takes_of rfl rfl rfl rfl) (xs_cons (x_var 2) xs_nil) (ALen.ok (.cons .nil)))) (s_seq (s_ownL (i := 5) sc_law_parted.nd rfl (by first | exact .inl rfl | exact .inr rfl) xs_nil) (s_seq (s_while 100 (passes_of rfl) (x_tcmp (op_neD (hu64 hr)) (rb_ne rfl) (nomark _) (x_q (x_var 4)) (x_q (x_lst xs_nil))) (s_seq (s_setLc (i := 6) (own := [("_law_one", 7)]) rfl sc_law_parted.nd rfl rfl (sw_true rfl rfl rfl (by decide +kernel)) (i_q (i_any rfl (x_var 3))) (blkOk_by (N := nm_law_parted) (sc := defScope s_law_parted) (by decide +kernel)) (tg_name (by decide)) (fun _ _ _ _ _ => (pg_name (i := 7) sc_law_parted.nd rfl (by first | exact .inl rfl | exact .inr rfl))) (fun _ _ _ _ _ => xts_one (PW.pt (x_and (x_tcmp (op_eqD (hu64 hr)) (rb_eq rfl) (nomark _) (x_q (x_ix ix_seq (rb_ix rfl) (x_q (x_var 7)) (x_q x_int))) (x_q (x_ix ix_seq (rb_ix rfl) (x_q (x_var 4)) (x_q x_int)))) (x_and1 (x_tcmp (op_eqD (hu64 hr)) (rb_eq rfl) (nomark _) (x_q (x_lc (own := [("_law_cell", 8)]) rfl sc_law_parted.nd (i_q (i_any rfl (x_var 7))) (blkOk_by (by rfl)) (tg_name (by decide)) (fun _ _ _ _ _ => (pg_name (i := 8) sc_law_parted.nd rfl (by first | exact .inl rfl | exact .inr rfl))) (fun _ _ _ _ _ => xts_one (x_tcmp (opOr (op_notInD (hu65 hr)) (op_notInT (hu65 hr))) (rb_notin rfl) rfl (x_q (x_var 8)) (x_q (x_var 4)))) (fun _ _ _ _ _ => (x_var 8)))) (x_q (x_lst xs_nil))))))) (fun _ _ _ _ _ => (x_var 7))) (s_seq (s_set (i := 7) sc_law_parted.nd rfl (by first | exact .inl rfl | exact .inr rfl) (x_ix ix_seq (rb_ix rfl) (x_q (x_var 6)) (x_q (x_cal rfl c_law_mixed hr (by decide) rfl (takes_of rfl rfl rfl rfl) (xs_cons (x_var 0) (xs_cons (x_op op_addAll (rb_add rfl) (x_q (x_var 1)) (x_q (x_cb call_len (rcb_len rfl) rfl bt_len (by decide +kernel) (qs_cons (x_own 5) qs_nil)))) (xs_cons (x_cb (call_min2 rfl) rcb_min2 rfl bt_min (by decide +kernel) (qs_cons (x_q (x_cb call_len (rcb_len rfl) rfl bt_len (by decide +kernel) (qs_cons (x_q (x_var 6)) qs_nil))) (qs_cons (x_q x_int) qs_nil))) xs_nil))) (ALen.ok (.cons (.cons (.cons .nil)))))))) (s_seq (s_app (i := 5) rfl (by first | exact Or.inl rfl | exact Or.inr (Or.inl rfl) | exact Or.inr (Or.inr rfl)) (x_var 7)) (s_one (s_set (i := 4) sc_law_parted.nd rfl (by first | exact .inl rfl | exact .inr rfl) (x_lc (own := [("_law_cell", 8)]) rfl sc_law_parted.nd (i_q (i_any rfl (x_var 4))) (blkOk_by (N := nm_law_parted) (sc := defScope s_law_parted) (by decide +kernel)) (tg_name (by decide)) (fun _ _ _ _ _ => (pg_name (i := 8) sc_law_parted.nd rfl (by first | exact .inl rfl | exact .inr rfl))) (fun _ _ _ _ _ => xts_one (x_tcmp (opOr (op_notInD (hu65 hr)) (op_notInT (hu65 hr))) (rb_notin rfl) rfl (x_q (x_var 8)) (x_q (x_var 7)))) (fun _ _ _ _ _ => (x_var 8))))))))) (s_one (s_retO (i := 5) rfl (by first | exact Or.inl rfl | exact Or.inr (Or.inl rfl) | exact Or.inr (Or.inr rfl))))))))
theorem ok_law_turned {f : Addr} {fd : FuncData} (F : Fun K "_law_turned" "_law_turned" s_law_turned f fd) (bt_len : mg "len" = none) (bt_range : mg "range" = none) (bt_tuple : mg "tuple" = none) : FnOk P w K mg base (L2.CX P w) 1 f fd ["_law_sheet_here"] (spM K cl 1 M_law_turned) :=
  fun_ok F sc_law_turned rfl fun cdv A outer s H F0 E hr => (s_seq (s_ownL (i := 1) sc_law_turned.nd rfl (by first | exact .inl rfl | exact .inr rfl) xs_nil) (s_seq (s_for (vs := [2]) (passes_of rfl) rfl (i_rng1 rfl bt_range (qs_cons (x_q (x_cb call_len (rcb_len rfl) rfl bt_len (by decide +kernel) (qs_cons (x_q (x_ix ix_seq (rb_ix rfl) (x_q (x_var 0)) (x_q x_int))) qs_nil))) qs_nil)) (tg_name (by decide)) (pg_name (i := 2) sc_law_turned.nd rfl (by first | exact .inl rfl | exact .inr rfl)) (s_one (s_app (i := 1) rfl (by first | exact Or.inl rfl | exact Or.inr (Or.inl rfl) | exact Or.inr (Or.inr rfl)) (x_cty call_tuple_of (rcb_tuple rfl) rfl bt_tuple (by decide +kernel) (qs_cons (x_q (x_lc (own := [("_law_k", 3)]) rfl sc_law_turned.nd (i_q (i_rng1 rfl bt_range (qs_cons (x_q (x_cb call_len (rcb_len rfl) rfl bt_len (by decide +kernel) (qs_cons (x_q (x_var 0)) qs_nil))) qs_nil))) (blkOk_by (N := nm_law_turned) (sc := defScope s_law_turned) (by decide +kernel)) (tg_name (by decide)) (fun _ _ _ _ _ => (pg_name (i := 3) sc_law_turned.nd rfl (by first | exact .inl rfl | exact .inr rfl))) (fun _ _ _ _ _ => xts_nil) (fun _ _ _ _ _ => (x_ix ix_seq (rb_ix rfl) (x_q (x_ix ix_seq (rb_ix rfl) (x_q (x_var 0)) (x_q (x_op op_sub rb_sub (x_q (x_op op_sub rb_sub (x_q (x_cb call_len (rcb_len rfl) rfl bt_len (by decide +kernel) (qs_cons (x_q (x_var 0)) qs_nil))) (x_q x_int))) (x_q (x_var 3)))))) (x_q (x_var 2)))))) qs_nil))))) (s_one (s_ret (x_cty call_tuple_of (rcb_tuple rfl) rfl bt_tuple (by decide +kernel) (qs_cons (x_own 1) qs_nil))))))
theorem ok_law_mirrored {f : Addr} {fd : FuncData} (F : Fun K "_law_mirrored" "_law_mirrored" s_law_mirrored f fd) (bt_tuple : mg "tuple" = none) : FnOk P w K mg base (L2.CX P w) 1 f fd ["_law_sheet_here"] (spM K cl 1 M_law_mirrored) :=
  fun_ok F sc_law_mirrored rfl fun cdv A outer s H F0 E hr => (s_one (s_ret (x_cty call_tuple_of (rcb_tuple rfl) rfl bt_tuple (by decide +kernel) (qs_cons (x_q (x_lc (own := [("_law_row", 1)]) rfl sc_law_mirrored.nd (i_q (i_any rfl (x_var 0))) (blkOk_by (N := nm_law_mirrored) (sc := defScope s_law_mirrored) (by decide +kernel)) (tg_name (by decide)) (fun _ _ _ _ _ => (pg_name (i := 1) sc_law_mirrored.nd rfl (by first | exact .inl rfl | exact .inr rfl))) (fun _ _ _ _ _ => xts_nil) (fun _ _ _ _ _ => (x_revS rfl (x_q (x_var 1)))))) qs_nil))))
theorem ok_law_eight {f : Addr} {fd : FuncData} (F : Fun K "_law_eight" "_law_eight" s_law_eight f fd) (c_law_mirrored : Cal P w K mg base cl "_law_mirrored" 1 ["_law_sheet_here"] M_law_mirrored) (c_law_turned : Cal P w K mg base cl "_law_turned" 1 ["_law_sheet_here"] M_law_turned) (bt_range : mg "range" = none) : FnOk P w K mg base (L2.CX P w) 2 f fd ["_law_sheet_here"] (spM K cl 1 M_law_eight) :=
  fun_ok F sc_law_eight rfl fun cdv A outer s H F0 E hr => (s_seq (s_ownL (i := 1) sc_law_eight.nd rfl (by first | exact .inl rfl | exact .inr rfl) xs_nil) (s_seq (s_for (vs := [2]) (passes_of rfl) rfl (i_rng1 rfl bt_range (qs_cons (x_q x_int) qs_nil)) (tg_name (by decide)) (pg_name (i := 2) sc_law_eight.nd rfl (by first | exact .inl rfl | exact .inr rfl)) (s_seq (s_ext (i := 1) rfl rfl (by first | exact Or.inl rfl | exact Or.inr (Or.inl rfl) | exact Or.inr (Or.inr rfl)) (x_q (x_lst (xs_cons (x_var 0) (xs_cons (x_cal rfl c_law_mirrored hr (by decide) rfl (takes_of rfl rfl rfl rfl) (xs_cons (x_var 0) xs_nil) (ALen.ok (.cons .nil))) xs_nil))))) (s_one (s_set (i := 0) sc_law_eight.nd rfl (by first | exact .inl rfl | exact .inr rfl) (x_cal rfl c_law_turned hr (by decide) rfl (takes_of rfl rfl rfl rfl) (xs_cons (x_var 0) xs_nil) (ALen.ok (.cons .nil))))))) (s_one (s_retO (i := 1) rfl (by first | exact Or.inl rfl | exact Or.inr (Or.inl rfl) | exact Or.inr (Or.inr rfl))))))
theorem ok_law_ahead {f : Addr} {fd : FuncData} (F : Fun K "_law_ahead" "_law_ahead" s_law_ahead f fd) (bt_len : mg "len" = none) (bt_zip : mg "zip" = none) : FnOk P w K mg base (L2.CX P w) 1 f fd ["_law_one", "_law_other"] (spM K cl 2 M_law_ahead) :=
  fun_ok F sc_law_ahead rfl fun cdv A outer s H F0 E hr => (s_seq (s_if (x_tcmp (op_neD (hu64 hr)) (rb_ne rfl) (nomark _) (x_q (x_cb call_len (rcb_len rfl) rfl bt_len (by decide +kernel) (qs_cons (x_q (x_var 0)) qs_nil))) (x_q (x_cb call_len (rcb_len rfl) rfl bt_len (by decide +kernel) (qs_cons (x_q (x_var 1)) qs_nil)))) (s_one (s_ret (x_cmp op_lt rb_cmp (nomark _) (x_q (x_cb call_len (rcb_len rfl) rfl bt_len (by decide +kernel) (qs_cons (x_q (x_var 0)) qs_nil))) (x_q (x_cb call_len (rcb_len rfl) rfl bt_len (by decide +kernel) (qs_cons (x_q (x_var 1)) qs_nil)))))) s_nil) (s_seq (s_for (vs := [2, 3]) (passes_of rfl) rfl (i_zip rfl rfl bt_zip (xs_cons (x_var 0) (xs_cons (x_var 1) xs_nil))) (tg_two rfl (by decide) (by decide)) (pg_tup rfl (pgs_cons (pg_name (i := 2) sc_law_ahead.nd rfl (by first | exact .inl rfl | exact .inr rfl)) (pgs_cons (pg_name (i := 3) sc_law_ahead.nd rfl (by first | exact .inl rfl | exact .inr rfl)) pgs_nil))) (s_one (s_for (vs := [4, 5]) (passes_of rfl) rfl (i_zip rfl rfl bt_zip (xs_cons (x_var 2) (xs_cons (x_var 3) xs_nil))) (tg_two rfl (by decide) (by decide)) (pg_tup rfl (pgs_cons (pg_name (i := 4) sc_law_ahead.nd rfl (by first | exact .inl rfl | exact .inr rfl)) (pgs_cons (pg_name (i := 5) sc_law_ahead.nd rfl (by first | exact .inl rfl | exact .inr rfl)) pgs_nil))) (s_one (s_if (x_tcmp (op_neD (hu64 hr)) (rb_ne rfl) (nomark _) (x_q (x_var 4)) (x_q (x_var 5))) (s_one (s_ret (x_orV (x_cmp op_isN rb_isN (nomark _) (x_q (x_var 4)) (x_q x_non)) (x_one (x_andV (x_cmp op_notN rb_isNotN (nomark _) (x_q (x_var 5)) (x_q x_non)) (x_one (x_cmp op_lt rb_cmp (nomark _) (x_q (x_var 4)) (x_q (x_var 5))))))))) s_nil))))) (s_one (s_ret x_bl))))
theorem ok_law {f : Addr} {fd : FuncData} (F : Fun K "law" "law" s_law f fd) (c_law_ahead : Cal P w K mg base cl "_law_ahead" 1 ["_law_one", "_law_other"] M_law_ahead) (c_law_eight : Cal P w K mg base cl "_law_eight" 2 ["_law_sheet_here"] M_law_eight) (c_law_mirrored : Cal P w K mg base cl "_law_mirrored" 1 ["_law_sheet_here"] M_law_mirrored) (c_law_mixed : Cal P w K mg base cl "_law_mixed" 2 ["_law_script", "_law_k", "_law_many"] M_law_mixed) (c_law_parted : Cal P w K mg base cl "_law_parted" 4 ["_law_script", "_law_at", "_law_sheet_here"] M_law_parted) (c_law_sheet : Cal P w K mg base cl "_law_sheet" 3 ["_law_script", "_law_at", "_law_most"] M_law_sheet) (c_law_turned : Cal P w K mg base cl "_law_turned" 1 ["_law_sheet_here"] M_law_turned) (c_law_worth : Cal P w K mg base cl "_law_worth" 1 ["_law_sheet_here", "_law_some"] M_law_worth) (c_alike : Cal P w K mg base cl "alike" 6 ["one", "other"] M_alike) (c_counts : Cal P w K mg base cl "counts" 6 ["sheet"] M_counts) (c_fewest_tears : Cal P w K mg base cl "fewest_tears" 18 ["sheet", "wants"] M_fewest_tears) (c_first_missing : Cal P w K mg base cl "first_missing" 7 ["sheet", "most"] M_first_missing) (c_least : Cal P w K mg base cl "least" 6 ["sheet"] M_least) (c_mirrored : Cal P w K mg base cl "mirrored" 6 ["sheet"] M_mirrored) (c_turned : Cal P w K mg base cl "turned" 6 ["sheet"] M_turned) (c_worths : Cal P w K mg base cl "worths" 6 ["sheet", "most"] M_worths) (bt_bool : mg "bool" = none) (bt_isinstance : mg "isinstance" = none) : FnOk P w K mg base (L2.CX P w) 19 f fd ["_law_script"] (spM K cl 1 M_law) :=
  fun_ok F sc_law rfl fun cdv A outer s H F0 E hr => (s_seq (s_set (i := 1) sc_law.nd rfl (by first | exact .inl rfl | exact .inr rfl) (x_cal rfl c_law_sheet hr (by decide) rfl (takes_of rfl rfl rfl rfl) (xs_cons (x_var 0) (xs_cons x_int (xs_cons x_int xs_nil))) (ALen.ok (.cons (.cons (.cons .nil)))))) (s_seq (s_if (PW.pt (x_or (x_tcmp (op_neD (hu64 hr)) (rb_ne rfl) (nomark _) (x_q (x_cal rfl c_turned hr (by decide) rfl (takes_of rfl rfl rfl rfl) (xs_cons (x_var 1) xs_nil) (ALen.ok (.cons .nil)))) (x_q (x_cal rfl c_law_turned hr (by decide) rfl (takes_of rfl rfl rfl rfl) (xs_cons (x_var 1) xs_nil) (ALen.ok (.cons .nil))))) (x_or1 (x_tcmp (op_neD (hu64 hr)) (rb_ne rfl) (nomark _) (x_q (x_cal rfl c_mirrored hr (by decide) rfl (takes_of rfl rfl rfl rfl) (xs_cons (x_var 1) xs_nil) (ALen.ok (.cons .nil)))) (x_q (x_cal rfl c_law_mirrored hr (by decide) rfl (takes_of rfl rfl rfl rfl) (xs_cons (x_var 1) xs_nil) (ALen.ok (.cons .nil)))))))) (s_one (s_ret x_bl)) s_nil) (s_seq (s_set (i := 2) sc_law.nd rfl (by first | exact .inl rfl | exact .inr rfl) (x_cal rfl c_law_eight hr (by decide) rfl (takes_of rfl rfl rfl rfl) (xs_cons (x_var 1) xs_nil) (ALen.ok (.cons .nil)))) (s_seq (s_set (i := 3) sc_law.nd rfl (by first | exact .inl rfl | exact .inr rfl) (x_var 1)) (s_seq (s_for (vs := [4]) (passes_of rfl) rfl (i_any rfl (x_var 2)) (tg_name (by decide)) (pg_name (i := 4) sc_law.nd rfl (by first | exact .inl rfl | exact .inr rfl)) (s_one (s_if (x_t (x_cal rfl c_law_ahead hr (by decide) rfl (takes_of rfl rfl rfl rfl) (xs_cons (x_var 4) (xs_cons (x_var 3) xs_nil)) (ALen.ok (.cons (.cons .nil))))) (s_one (s_set (i := 3) sc_law.nd rfl (by first | exact .inl rfl | exact .inr rfl) (x_var 4))) s_nil))) (s_seq (s_if (x_tcmp (op_neD (hu64 hr)) (rb_ne rfl) (nomark _) (x_q (x_cal rfl c_least hr (by decide) rfl (takes_of rfl rfl rfl rfl) (xs_cons (x_var 1) xs_nil) (ALen.ok (.cons .nil)))) (x_q (x_var 3))) (s_one (s_ret x_bl)) s_nil) (s_seq (s_set (i := 5) sc_law.nd rfl (by first | exact .inl rfl | exact .inr rfl) (x_ix ix_seq (rb_ix rfl) (x_q (x_var 2)) (x_q (x_cal rfl c_law_mixed hr (by decide) rfl (takes_of rfl rfl rfl rfl) (xs_cons (x_var 0) (xs_cons x_int (xs_cons x_int xs_nil))) (ALen.ok (.cons (.cons (.cons .nil)))))))) (s_seq (s_if (PW.pt (x_or (x_tcmp (op_neD (hu64 hr)) (rb_ne rfl) (nomark _) (x_q (x_cal rfl c_least hr (by decide) rfl (takes_of rfl rfl rfl rfl) (xs_cons (x_var 5) xs_nil) (ALen.ok (.cons .nil)))) (x_q (x_var 3))) (x_or1 (x_tcmp op_notBl rb_isNotB (nomark _) (x_q (x_cal rfl c_alike hr (by decide) rfl (takes_of rfl rfl rfl rfl) (xs_cons (x_var 1) (xs_cons (x_var 5) xs_nil)) (ALen.ok (.cons (.cons .nil))))) (x_q x_bl))))) (s_one (s_ret x_bl)) s_nil) (s_seq (s_set (i := 6) sc_law.nd rfl (by first | exact .inl rfl | exact .inr rfl) (x_cal rfl c_law_sheet hr (by decide) rfl (takes_of rfl rfl rfl rfl) (xs_cons (x_var 0) (xs_cons x_int (xs_cons x_int xs_nil))) (ALen.ok (.cons (.cons (.cons .nil)))))) (s_seq (s_set (i := 7) sc_law.nd rfl (by first | exact .inl rfl | exact .inr rfl) (x_cal rfl c_alike hr (by decide) rfl (takes_of rfl rfl rfl rfl) (xs_cons (x_var 1) (xs_cons (x_var 6) xs_nil)) (ALen.ok (.cons (.cons .nil))))) (s_seq (s_if (PW.pt (x_or (x_not (x_t (x_isi rfl "bool" ty_bool rfl bt_isinstance rfl bt_bool (by decide +kernel) (x_q (x_var 7))))) (x_or1 (x_tcmp (op_neD (hu64 hr)) (rb_ne rfl) (nomark _) (x_q (x_var 7)) (x_q (x_cmp (opOr (op_inD (hu65 hr)) (op_inT (hu65 hr))) (rb_in rfl) rfl (x_q (x_var 6)) (x_q (x_var 2)))))))) (s_one (s_ret x_bl)) s_nil) (s_seq (s_setLc (i := 8) (own := [("_law_one", 4)]) rfl sc_law.nd rfl rfl (sw_true rfl rfl rfl (by decide +kernel)) (i_q (i_any rfl (x_cal rfl c_law_parted hr (by decide) rfl (takes_of rfl rfl rfl rfl) (xs_cons (x_var 0) (xs_cons x_int (xs_cons (x_var 1) xs_nil))) (ALen.ok (.cons (.cons (.cons .nil))))))) (blkOk_by (N := nm_law) (sc := defScope s_law) (by decide +kernel)) (tg_name (by decide)) (fun _ _ _ _ _ => (pg_name (i := 4) sc_law.nd rfl (by first | exact .inl rfl | exact .inr rfl))) (fun _ _ _ _ _ => xts_nil) (fun _ _ _ _ _ => (x_cal rfl c_law_worth hr (by decide) rfl takes0 (xs_cons (x_var 1) (xs_cons (x_var 4) xs_nil)) (ALen.ok (.cons (.cons .nil)))))) (s_seq (s_if (PW.pt (x_or (x_tcmp (op_neD (hu64 hr)) (rb_ne rfl) (nomark _) (x_q (x_cal rfl c_fewest_tears hr (by decide) rfl (takes_of rfl rfl rfl rfl) (xs_cons (x_var 5) (xs_cons (x_var 8) xs_nil)) (ALen.ok (.cons (.cons .nil))))) (x_q (x_cal rfl c_fewest_tears hr (by decide) rfl (takes_of rfl rfl rfl rfl) (xs_cons (x_var 1) (xs_cons (x_var 8) xs_nil)) (ALen.ok (.cons (.cons .nil)))))) (x_or1 (x_tcmp (op_neD (hu64 hr)) (rb_ne rfl) (nomark _) (x_q (x_cal rfl c_first_missing hr (by decide) rfl (takes_of rfl rfl rfl rfl) (xs_cons (x_var 5) (xs_cons x_int xs_nil)) (ALen.ok (.cons (.cons .nil))))) (x_q (x_cal rfl c_first_missing hr (by decide) rfl (takes_of rfl rfl rfl rfl) (xs_cons (x_var 1) (xs_cons x_int xs_nil)) (ALen.ok (.cons (.cons .nil))))))))) (s_one (s_ret x_bl)) s_nil) (s_one (s_ret (x_andV (x_cmp (op_eqD (hu64 hr)) (rb_eq rfl) (nomark _) (x_q (x_cal rfl c_worths hr (by decide) rfl (takes_of rfl rfl rfl rfl) (xs_cons (x_var 5) (xs_cons x_int xs_nil)) (ALen.ok (.cons (.cons .nil))))) (x_q (x_cal rfl c_worths hr (by decide) rfl (takes_of rfl rfl rfl rfl) (xs_cons (x_var 1) (xs_cons x_int xs_nil)) (ALen.ok (.cons (.cons .nil)))))) (x_one (x_cmp (op_eqD (hu64 hr)) (rb_eq rfl) (nomark _) (x_q (x_cal rfl c_counts hr (by decide) rfl (takes_of rfl rfl rfl rfl) (xs_cons (x_var 5) xs_nil) (ALen.ok (.cons .nil)))) (x_q (x_cal rfl c_counts hr (by decide) rfl (takes_of rfl rfl rfl rfl) (xs_cons (x_var 1) xs_nil) (ALen.ok (.cons .nil))))))))))))))))))))))
end
def spLaw (K : PySem.W.Frag) : Sp := fun vs H Q _ => ∃ (a : Addr) (ns : List Int), vs = [.ref a] ∧ SqL K H a (ns.map V.int) ∧ ns.length ≤ 63 ∧ (∀ z ∈ ns, Builtin.Int.intBits z ≤ 1048576) ∧ ∀ H', Q (.bl true) H'
theorem law_imp {K : PySem.W.Frag} {cl : Ex → Value} {M : DM} (main : ∀ ns : List Int, ns.length ≤ 63 → (∀ z ∈ ns, Builtin.Int.intBits z ≤ 1048576) → M [.list (ns.map .int)] = .ok (.bool true)) : ∀ vs H Q E, spLaw K vs H Q E → spM K cl 1 M vs H Q E := by
  rintro vs H Q E ⟨a, ns, rfl, hS, hl, hb, q⟩
  refine ⟨rfl, [.list (ns.map .int)], H, Same.refl _, .cons (.lst hS (dpsInts ns)) .nil, ?_⟩
  rw [main ns hl hb]
  intro v F' H' _ hd
  cases hd
  exact q _
theorem all_mk {l : PySem.W.OpenLaw} {w : World} {K : PySem.W.Frag} {h : Heap} {mg : Str → Option Value} {fa : Addr} (X : K.In h) (G : h.Ns mainGlobals mg) (hfa : mg "law" = some (.ref fa))
    {f0 : Addr} {od0 an0 : Option Addr} {sl0 : Array (Option Value)} {oc0 kV0 dc0 pm0 cd0 ct0 : Value}
    {f1 : Addr} {od1 an1 : Option Addr} {sl1 : Array (Option Value)} {oc1 kV1 dc1 pm1 cd1 ct1 : Value}
    {f2 : Addr} {od2 an2 : Option Addr} {sl2 : Array (Option Value)} {oc2 kV2 dc2 pm2 cd2 ct2 : Value}
    {f3 : Addr} {od3 an3 : Option Addr} {sl3 : Array (Option Value)} {oc3 kV3 dc3 pm3 cd3 ct3 : Value}
    {f4 : Addr} {od4 an4 : Option Addr} {sl4 : Array (Option Value)} {oc4 kV4 dc4 pm4 cd4 ct4 : Value}
    {f5 : Addr} {od5 an5 : Option Addr} {sl5 : Array (Option Value)} {oc5 kV5 dc5 pm5 cd5 ct5 : Value}
    {f6 : Addr} {od6 an6 : Option Addr} {sl6 : Array (Option Value)} {oc6 kV6 dc6 pm6 cd6 ct6 : Value}
    {f7 : Addr} {od7 an7 : Option Addr} {sl7 : Array (Option Value)} {oc7 kV7 dc7 pm7 cd7 ct7 : Value}
    {f8 : Addr} {od8 an8 : Option Addr} {sl8 : Array (Option Value)} {oc8 kV8 dc8 pm8 cd8 ct8 : Value}
    {f9 : Addr} {od9 an9 : Option Addr} {sl9 : Array (Option Value)} {oc9 kV9 dc9 pm9 cd9 ct9 : Value}
    {f10 : Addr} {od10 an10 : Option Addr} {sl10 : Array (Option Value)} {oc10 kV10 dc10 pm10 cd10 ct10 : Value}
    {f11 : Addr} {od11 an11 : Option Addr} {sl11 : Array (Option Value)} {oc11 kV11 dc11 pm11 cd11 ct11 : Value}
    {f12 : Addr} {od12 an12 : Option Addr} {sl12 : Array (Option Value)} {oc12 kV12 dc12 pm12 cd12 ct12 : Value}
    {f13 : Addr} {od13 an13 : Option Addr} {sl13 : Array (Option Value)} {oc13 kV13 dc13 pm13 cd13 ct13 : Value}
    {f14 : Addr} {od14 an14 : Option Addr} {sl14 : Array (Option Value)} {oc14 kV14 dc14 pm14 cd14 ct14 : Value}
    {f15 : Addr} {od15 an15 : Option Addr} {sl15 : Array (Option Value)} {oc15 kV15 dc15 pm15 cd15 ct15 : Value}
    {f16 : Addr} {od16 an16 : Option Addr} {sl16 : Array (Option Value)} {oc16 kV16 dc16 pm16 cd16 ct16 : Value}
    {f17 : Addr} {od17 an17 : Option Addr} {sl17 : Array (Option Value)} {oc17 kV17 dc17 pm17 cd17 ct17 : Value}
    {f18 : Addr} {od18 an18 : Option Addr} {sl18 : Array (Option Value)} {oc18 kV18 dc18 pm18 cd18 ct18 : Value}
    {f19 : Addr} {od19 an19 : Option Addr} {sl19 : Array (Option Value)} {oc19 kV19 dc19 pm19 cd19 ct19 : Value}
    {f20 : Addr} {od20 an20 : Option Addr} {sl20 : Array (Option Value)} {oc20 kV20 dc20 pm20 cd20 ct20 : Value}
    {f21 : Addr} {od21 an21 : Option Addr} {sl21 : Array (Option Value)} {oc21 kV21 dc21 pm21 cd21 ct21 : Value}
    {f22 : Addr} {od22 an22 : Option Addr} {sl22 : Array (Option Value)} {oc22 kV22 dc22 pm22 cd22 ct22 : Value}
    {f23 : Addr} {od23 an23 : Option Addr} {sl23 : Array (Option Value)} {oc23 kV23 dc23 pm23 cd23 ct23 : Value}
    {f24 : Addr} {od24 an24 : Option Addr} {sl24 : Array (Option Value)} {oc24 kV24 dc24 pm24 cd24 ct24 : Value}
    {f25 : Addr} {od25 an25 : Option Addr} {sl25 : Array (Option Value)} {oc25 kV25 dc25 pm25 cd25 ct25 : Value}
    {f26 : Addr} {od26 an26 : Option Addr} {sl26 : Array (Option Value)} {oc26 kV26 dc26 pm26 cd26 ct26 : Value}
    {f27 : Addr} {od27 an27 : Option Addr} {sl27 : Array (Option Value)} {oc27 kV27 dc27 pm27 cd27 ct27 : Value}
    {f28 : Addr} {od28 an28 : Option Addr} {sl28 : Array (Option Value)} {oc28 kV28 dc28 pm28 cd28 ct28 : Value}
    {f29 : Addr} {od29 an29 : Option Addr} {sl29 : Array (Option Value)} {oc29 kV29 dc29 pm29 cd29 ct29 : Value}
    {f30 : Addr} {od30 an30 : Option Addr} {sl30 : Array (Option Value)} {oc30 kV30 dc30 pm30 cd30 ct30 : Value}
    {f31 : Addr} {od31 an31 : Option Addr} {sl31 : Array (Option Value)} {oc31 kV31 dc31 pm31 cd31 ct31 : Value}
    {f32 : Addr} {od32 an32 : Option Addr} {sl32 : Array (Option Value)} {oc32 kV32 dc32 pm32 cd32 ct32 : Value}
    {f33 : Addr} {od33 an33 : Option Addr} {sl33 : Array (Option Value)} {oc33 kV33 dc33 pm33 cd33 ct33 : Value}
    {f34 : Addr} {od34 an34 : Option Addr} {sl34 : Array (Option Value)} {oc34 kV34 dc34 pm34 cd34 ct34 : Value}
    {f35 : Addr} {od35 an35 : Option Addr} {sl35 : Array (Option Value)} {oc35 kV35 dc35 pm35 cd35 ct35 : Value}
    {f36 : Addr} {od36 an36 : Option Addr} {sl36 : Array (Option Value)} {oc36 kV36 dc36 pm36 cd36 ct36 : Value}
    {f37 : Addr} {od37 an37 : Option Addr} {sl37 : Array (Option Value)} {oc37 kV37 dc37 pm37 cd37 ct37 : Value}
    {f38 : Addr} {od38 an38 : Option Addr} {sl38 : Array (Option Value)} {oc38 kV38 dc38 pm38 cd38 ct38 : Value}
    {f39 : Addr} {od39 an39 : Option Addr} {sl39 : Array (Option Value)} {oc39 kV39 dc39 pm39 cd39 ct39 : Value}
    {f40 : Addr} {od40 an40 : Option Addr} {sl40 : Array (Option Value)} {oc40 kV40 dc40 pm40 cd40 ct40 : Value}
    {f41 : Addr} {od41 an41 : Option Addr} {sl41 : Array (Option Value)} {oc41 kV41 dc41 pm41 cd41 ct41 : Value}
    {f42 : Addr} {od42 an42 : Option Addr} {sl42 : Array (Option Value)} {oc42 kV42 dc42 pm42 cd42 ct42 : Value}
    {f43 : Addr} {od43 an43 : Option Addr} {sl43 : Array (Option Value)} {oc43 kV43 dc43 pm43 cd43 ct43 : Value}
    {f44 : Addr} {od44 an44 : Option Addr} {sl44 : Array (Option Value)} {oc44 kV44 dc44 pm44 cd44 ct44 : Value}
    {u_ROWS : Tok}
    {u_STAMPS : Tok}
    {u_WORTH : Tok}
    {C_NoNumber : Addr}
    {C_NoSheet : Addr}
    {C_NoWants : Addr}
    (a0 : PySem.W.nsIn K mainGlobals "is_whole" = some (some (.ref f0))) (l0 : K.lookup f0 = some ⟨oc0, od0, .func (PySem.W.fnOf "is_whole" "is_whole" (defArgs s_is_whole) (defBody s_is_whole) (defScope s_is_whole) .none kV0 dc0 pm0 an0 cd0 ct0), sl0⟩) (c0 : PySem.W.codeIn K cd0 "is_whole" = true) (k0 : PySem.W.keepIn K (.ref f0) = true)
    (a1 : PySem.W.nsIn K mainGlobals "between" = some (some (.ref f1))) (l1 : K.lookup f1 = some ⟨oc1, od1, .func (PySem.W.fnOf "between" "between" (defArgs s_between) (defBody s_between) (defScope s_between) .none kV1 dc1 pm1 an1 cd1 ct1), sl1⟩) (c1 : PySem.W.codeIn K cd1 "between" = true) (k1 : PySem.W.keepIn K (.ref f1) = true)
    (a2 : PySem.W.nsIn K mainGlobals "is_row" = some (some (.ref f2))) (l2 : K.lookup f2 = some ⟨oc2, od2, .func (PySem.W.fnOf "is_row" "is_row" (defArgs s_is_row) (defBody s_is_row) (defScope s_is_row) .none kV2 dc2 pm2 an2 cd2 ct2), sl2⟩) (c2 : PySem.W.codeIn K cd2 "is_row" = true) (k2 : PySem.W.keepIn K (.ref f2) = true)
    (a3 : PySem.W.nsIn K mainGlobals "cells_of" = some (some (.ref f3))) (l3 : K.lookup f3 = some ⟨oc3, od3, .func (PySem.W.fnOf "cells_of" "cells_of" (defArgs s_cells_of) (defBody s_cells_of) (defScope s_cells_of) .none kV3 dc3 pm3 an3 cd3 ct3), sl3⟩) (c3 : PySem.W.codeIn K cd3 "cells_of" = true) (k3 : PySem.W.keepIn K (.ref f3) = true)
    (a4 : PySem.W.nsIn K mainGlobals "is_sheet" = some (some (.ref f4))) (l4 : K.lookup f4 = some ⟨oc4, od4, .func (PySem.W.fnOf "is_sheet" "is_sheet" (defArgs s_is_sheet) (defBody s_is_sheet) (defScope s_is_sheet) .none kV4 dc4 pm4 an4 cd4 ct4), sl4⟩) (c4 : PySem.W.codeIn K cd4 "is_sheet" = true) (k4 : PySem.W.keepIn K (.ref f4) = true)
    (a5 : PySem.W.nsIn K mainGlobals "checked" = some (some (.ref f5))) (l5 : K.lookup f5 = some ⟨oc5, od5, .func (PySem.W.fnOf "checked" "checked" (defArgs s_checked) (defBody s_checked) (defScope s_checked) .none kV5 dc5 pm5 an5 cd5 ct5), sl5⟩) (c5 : PySem.W.codeIn K cd5 "checked" = true) (k5 : PySem.W.keepIn K (.ref f5) = true)
    (a6 : PySem.W.nsIn K mainGlobals "need_number" = some (some (.ref f6))) (l6 : K.lookup f6 = some ⟨oc6, od6, .func (PySem.W.fnOf "need_number" "need_number" (defArgs s_need_number) (defBody s_need_number) (defScope s_need_number) .none kV6 dc6 pm6 an6 cd6 ct6), sl6⟩) (c6 : PySem.W.codeIn K cd6 "need_number" = true) (k6 : PySem.W.keepIn K (.ref f6) = true)
    (a7 : PySem.W.nsIn K mainGlobals "around" = some (some (.ref f7))) (l7 : K.lookup f7 = some ⟨oc7, od7, .func (PySem.W.fnOf "around" "around" (defArgs s_around) (defBody s_around) (defScope s_around) .none kV7 dc7 pm7 an7 cd7 ct7), sl7⟩) (c7 : PySem.W.codeIn K cd7 "around" = true) (k7 : PySem.W.keepIn K (.ref f7) = true)
    (a8 : PySem.W.nsIn K mainGlobals "turned_once" = some (some (.ref f8))) (l8 : K.lookup f8 = some ⟨oc8, od8, .func (PySem.W.fnOf "turned_once" "turned_once" (defArgs s_turned_once) (defBody s_turned_once) (defScope s_turned_once) .none kV8 dc8 pm8 an8 cd8 ct8), sl8⟩) (c8 : PySem.W.codeIn K cd8 "turned_once" = true) (k8 : PySem.W.keepIn K (.ref f8) = true)
    (a9 : PySem.W.nsIn K mainGlobals "mirrored_once" = some (some (.ref f9))) (l9 : K.lookup f9 = some ⟨oc9, od9, .func (PySem.W.fnOf "mirrored_once" "mirrored_once" (defArgs s_mirrored_once) (defBody s_mirrored_once) (defScope s_mirrored_once) .none kV9 dc9 pm9 an9 cd9 ct9), sl9⟩) (c9 : PySem.W.codeIn K cd9 "mirrored_once" = true) (k9 : PySem.W.keepIn K (.ref f9) = true)
    (a10 : PySem.W.nsIn K mainGlobals "turned" = some (some (.ref f10))) (l10 : K.lookup f10 = some ⟨oc10, od10, .func (PySem.W.fnOf "turned" "turned" (defArgs s_turned) (defBody s_turned) (defScope s_turned) .none kV10 dc10 pm10 an10 cd10 ct10), sl10⟩) (c10 : PySem.W.codeIn K cd10 "turned" = true) (k10 : PySem.W.keepIn K (.ref f10) = true)
    (a11 : PySem.W.nsIn K mainGlobals "mirrored" = some (some (.ref f11))) (l11 : K.lookup f11 = some ⟨oc11, od11, .func (PySem.W.fnOf "mirrored" "mirrored" (defArgs s_mirrored) (defBody s_mirrored) (defScope s_mirrored) .none kV11 dc11 pm11 an11 cd11 ct11), sl11⟩) (c11 : PySem.W.codeIn K cd11 "mirrored" = true) (k11 : PySem.W.keepIn K (.ref f11) = true)
    (a12 : PySem.W.nsIn K mainGlobals "worth_order" = some (some (.ref f12))) (l12 : K.lookup f12 = some ⟨oc12, od12, .func (PySem.W.fnOf "worth_order" "worth_order" (defArgs s_worth_order) (defBody s_worth_order) (defScope s_worth_order) .none kV12 dc12 pm12 an12 cd12 ct12), sl12⟩) (c12 : PySem.W.codeIn K cd12 "worth_order" = true) (k12 : PySem.W.keepIn K (.ref f12) = true)
    (a13 : PySem.W.nsIn K mainGlobals "least_of" = some (some (.ref f13))) (l13 : K.lookup f13 = some ⟨oc13, od13, .func (PySem.W.fnOf "least_of" "least_of" (defArgs s_least_of) (defBody s_least_of) (defScope s_least_of) .none kV13 dc13 pm13 an13 cd13 ct13), sl13⟩) (c13 : PySem.W.codeIn K cd13 "least_of" = true) (k13 : PySem.W.keepIn K (.ref f13) = true)
    (a14 : PySem.W.nsIn K mainGlobals "least" = some (some (.ref f14))) (l14 : K.lookup f14 = some ⟨oc14, od14, .func (PySem.W.fnOf "least" "least" (defArgs s_least) (defBody s_least) (defScope s_least) .none kV14 dc14 pm14 an14 cd14 ct14), sl14⟩) (c14 : PySem.W.codeIn K cd14 "least" = true) (k14 : PySem.W.keepIn K (.ref f14) = true)
    (a15 : PySem.W.nsIn K mainGlobals "alike" = some (some (.ref f15))) (l15 : K.lookup f15 = some ⟨oc15, od15, .func (PySem.W.fnOf "alike" "alike" (defArgs s_alike) (defBody s_alike) (defScope s_alike) .none kV15 dc15 pm15 an15 cd15 ct15), sl15⟩) (c15 : PySem.W.codeIn K cd15 "alike" = true) (k15 : PySem.W.keepIn K (.ref f15) = true)
    (a16 : PySem.W.nsIn K mainGlobals "grown" = some (some (.ref f16))) (l16 : K.lookup f16 = some ⟨oc16, od16, .func (PySem.W.fnOf "grown" "grown" (defArgs s_grown) (defBody s_grown) (defScope s_grown) .none kV16 dc16 pm16 an16 cd16 ct16), sl16⟩) (c16 : PySem.W.codeIn K cd16 "grown" = true) (k16 : PySem.W.keepIn K (.ref f16) = true)
    (a17 : PySem.W.nsIn K mainGlobals "by_sizes" = some (some (.ref f17))) (l17 : K.lookup f17 = some ⟨oc17, od17, .func (PySem.W.fnOf "by_sizes" "by_sizes" (defArgs s_by_sizes) (defBody s_by_sizes) (defScope s_by_sizes) .none kV17 dc17 pm17 an17 cd17 ct17), sl17⟩) (c17 : PySem.W.codeIn K cd17 "by_sizes" = true) (k17 : PySem.W.keepIn K (.ref f17) = true)
    (a18 : PySem.W.nsIn K mainGlobals "pieces_of" = some (some (.ref f18))) (l18 : K.lookup f18 = some ⟨oc18, od18, .func (PySem.W.fnOf "pieces_of" "pieces_of" (defArgs s_pieces_of) (defBody s_pieces_of) (defScope s_pieces_of) .none kV18 dc18 pm18 an18 cd18 ct18), sl18⟩) (c18 : PySem.W.codeIn K cd18 "pieces_of" = true) (k18 : PySem.W.keepIn K (.ref f18) = true)
    (a19 : PySem.W.nsIn K mainGlobals "counts" = some (some (.ref f19))) (l19 : K.lookup f19 = some ⟨oc19, od19, .func (PySem.W.fnOf "counts" "counts" (defArgs s_counts) (defBody s_counts) (defScope s_counts) .none kV19 dc19 pm19 an19 cd19 ct19), sl19⟩) (c19 : PySem.W.codeIn K cd19 "counts" = true) (k19 : PySem.W.keepIn K (.ref f19) = true)
    (a20 : PySem.W.nsIn K mainGlobals "sum_of" = some (some (.ref f20))) (l20 : K.lookup f20 = some ⟨oc20, od20, .func (PySem.W.fnOf "sum_of" "sum_of" (defArgs s_sum_of) (defBody s_sum_of) (defScope s_sum_of) .none kV20 dc20 pm20 an20 cd20 ct20), sl20⟩) (c20 : PySem.W.codeIn K cd20 "sum_of" = true) (k20 : PySem.W.keepIn K (.ref f20) = true)
    (a21 : PySem.W.nsIn K mainGlobals "worths_of" = some (some (.ref f21))) (l21 : K.lookup f21 = some ⟨oc21, od21, .func (PySem.W.fnOf "worths_of" "worths_of" (defArgs s_worths_of) (defBody s_worths_of) (defScope s_worths_of) .none kV21 dc21 pm21 an21 cd21 ct21), sl21⟩) (c21 : PySem.W.codeIn K cd21 "worths_of" = true) (k21 : PySem.W.keepIn K (.ref f21) = true)
    (a22 : PySem.W.nsIn K mainGlobals "worths" = some (some (.ref f22))) (l22 : K.lookup f22 = some ⟨oc22, od22, .func (PySem.W.fnOf "worths" "worths" (defArgs s_worths) (defBody s_worths) (defScope s_worths) .none kV22 dc22 pm22 an22 cd22 ct22), sl22⟩) (c22 : PySem.W.codeIn K cd22 "worths" = true) (k22 : PySem.W.keepIn K (.ref f22) = true)
    (a23 : PySem.W.nsIn K mainGlobals "missing_of" = some (some (.ref f23))) (l23 : K.lookup f23 = some ⟨oc23, od23, .func (PySem.W.fnOf "missing_of" "missing_of" (defArgs s_missing_of) (defBody s_missing_of) (defScope s_missing_of) .none kV23 dc23 pm23 an23 cd23 ct23), sl23⟩) (c23 : PySem.W.codeIn K cd23 "missing_of" = true) (k23 : PySem.W.keepIn K (.ref f23) = true)
    (a24 : PySem.W.nsIn K mainGlobals "first_missing" = some (some (.ref f24))) (l24 : K.lookup f24 = some ⟨oc24, od24, .func (PySem.W.fnOf "first_missing" "first_missing" (defArgs s_first_missing) (defBody s_first_missing) (defScope s_first_missing) .none kV24 dc24 pm24 an24 cd24 ct24), sl24⟩) (c24 : PySem.W.codeIn K cd24 "first_missing" = true) (k24 : PySem.W.keepIn K (.ref f24) = true)
    (a25 : PySem.W.nsIn K mainGlobals "need_wants" = some (some (.ref f25))) (l25 : K.lookup f25 = some ⟨oc25, od25, .func (PySem.W.fnOf "need_wants" "need_wants" (defArgs s_need_wants) (defBody s_need_wants) (defScope s_need_wants) .none kV25 dc25 pm25 an25 cd25 ct25), sl25⟩) (c25 : PySem.W.codeIn K cd25 "need_wants" = true) (k25 : PySem.W.keepIn K (.ref f25) = true)
    (a26 : PySem.W.nsIn K mainGlobals "pieces_with" = some (some (.ref f26))) (l26 : K.lookup f26 = some ⟨oc26, od26, .func (PySem.W.fnOf "pieces_with" "pieces_with" (defArgs s_pieces_with) (defBody s_pieces_with) (defScope s_pieces_with) .none kV26 dc26 pm26 an26 cd26 ct26), sl26⟩) (c26 : PySem.W.codeIn K cd26 "pieces_with" = true) (k26 : PySem.W.keepIn K (.ref f26) = true)
    (a27 : PySem.W.nsIn K mainGlobals "inner" = some (some (.ref f27))) (l27 : K.lookup f27 = some ⟨oc27, od27, .func (PySem.W.fnOf "inner" "inner" (defArgs s_inner) (defBody s_inner) (defScope s_inner) .none kV27 dc27 pm27 an27 cd27 ct27), sl27⟩) (c27 : PySem.W.codeIn K cd27 "inner" = true) (k27 : PySem.W.keepIn K (.ref f27) = true)
    (a28 : PySem.W.nsIn K mainGlobals "best_plan" = some (some (.ref f28))) (l28 : K.lookup f28 = some ⟨oc28, od28, .func (PySem.W.fnOf "best_plan" "best_plan" (defArgs s_best_plan) (defBody s_best_plan) (defScope s_best_plan) .none kV28 dc28 pm28 an28 cd28 ct28), sl28⟩) (c28 : PySem.W.codeIn K cd28 "best_plan" = true) (k28 : PySem.W.keepIn K (.ref f28) = true)
    (a29 : PySem.W.nsIn K mainGlobals "plan_for" = some (some (.ref f29))) (l29 : K.lookup f29 = some ⟨oc29, od29, .func (PySem.W.fnOf "plan_for" "plan_for" (defArgs s_plan_for) (defBody s_plan_for) (defScope s_plan_for) .none kV29 dc29 pm29 an29 cd29 ct29), sl29⟩) (c29 : PySem.W.codeIn K cd29 "plan_for" = true) (k29 : PySem.W.keepIn K (.ref f29) = true)
    (a30 : PySem.W.nsIn K mainGlobals "fewest_tears" = some (some (.ref f30))) (l30 : K.lookup f30 = some ⟨oc30, od30, .func (PySem.W.fnOf "fewest_tears" "fewest_tears" (defArgs s_fewest_tears) (defBody s_fewest_tears) (defScope s_fewest_tears) .none kV30 dc30 pm30 an30 cd30 ct30), sl30⟩) (c30 : PySem.W.codeIn K cd30 "fewest_tears" = true) (k30 : PySem.W.keepIn K (.ref f30) = true)
    (a31 : PySem.W.nsIn K mainGlobals "_law_cell_at" = some (some (.ref f31))) (l31 : K.lookup f31 = some ⟨oc31, od31, .func (PySem.W.fnOf "_law_cell_at" "_law_cell_at" (defArgs s_law_cell_at) (defBody s_law_cell_at) (defScope s_law_cell_at) .none kV31 dc31 pm31 an31 cd31 ct31), sl31⟩) (c31 : PySem.W.codeIn K cd31 "_law_cell_at" = true) (k31 : PySem.W.keepIn K (.ref f31) = true)
    (a32 : PySem.W.nsIn K mainGlobals "_law_mixed" = some (some (.ref f32))) (l32 : K.lookup f32 = some ⟨oc32, od32, .func (PySem.W.fnOf "_law_mixed" "_law_mixed" (defArgs s_law_mixed) (defBody s_law_mixed) (defScope s_law_mixed) .none kV32 dc32 pm32 an32 cd32 ct32), sl32⟩) (c32 : PySem.W.codeIn K cd32 "_law_mixed" = true) (k32 : PySem.W.keepIn K (.ref f32) = true)
    (a33 : PySem.W.nsIn K mainGlobals "_law_sheet" = some (some (.ref f33))) (l33 : K.lookup f33 = some ⟨oc33, od33, .func (PySem.W.fnOf "_law_sheet" "_law_sheet" (defArgs s_law_sheet) (defBody s_law_sheet) (defScope s_law_sheet) .none kV33 dc33 pm33 an33 cd33 ct33), sl33⟩) (c33 : PySem.W.codeIn K cd33 "_law_sheet" = true) (k33 : PySem.W.keepIn K (.ref f33) = true)
    (a34 : PySem.W.nsIn K mainGlobals "_law_worth" = some (some (.ref f34))) (l34 : K.lookup f34 = some ⟨oc34, od34, .func (PySem.W.fnOf "_law_worth" "_law_worth" (defArgs s_law_worth) (defBody s_law_worth) (defScope s_law_worth) .none kV34 dc34 pm34 an34 cd34 ct34), sl34⟩) (c34 : PySem.W.codeIn K cd34 "_law_worth" = true) (k34 : PySem.W.keepIn K (.ref f34) = true)
    (a35 : PySem.W.nsIn K mainGlobals "_law_cells" = some (some (.ref f35))) (l35 : K.lookup f35 = some ⟨oc35, od35, .func (PySem.W.fnOf "_law_cells" "_law_cells" (defArgs s_law_cells) (defBody s_law_cells) (defScope s_law_cells) .none kV35 dc35 pm35 an35 cd35 ct35), sl35⟩) (c35 : PySem.W.codeIn K cd35 "_law_cells" = true) (k35 : PySem.W.keepIn K (.ref f35) = true)
    (a36 : PySem.W.nsIn K mainGlobals "_law_beside" = some (some (.ref f36))) (l36 : K.lookup f36 = some ⟨oc36, od36, .func (PySem.W.fnOf "_law_beside" "_law_beside" (defArgs s_law_beside) (defBody s_law_beside) (defScope s_law_beside) .none kV36 dc36 pm36 an36 cd36 ct36), sl36⟩) (c36 : PySem.W.codeIn K cd36 "_law_beside" = true) (k36 : PySem.W.keepIn K (.ref f36) = true)
    (a37 : PySem.W.nsIn K mainGlobals "_law_hangs" = some (some (.ref f37))) (l37 : K.lookup f37 = some ⟨oc37, od37, .func (PySem.W.fnOf "_law_hangs" "_law_hangs" (defArgs s_law_hangs) (defBody s_law_hangs) (defScope s_law_hangs) .none kV37 dc37 pm37 an37 cd37 ct37), sl37⟩) (c37 : PySem.W.codeIn K cd37 "_law_hangs" = true) (k37 : PySem.W.keepIn K (.ref f37) = true)
    (a38 : PySem.W.nsIn K mainGlobals "_law_all" = some (some (.ref f38))) (l38 : K.lookup f38 = some ⟨oc38, od38, .func (PySem.W.fnOf "_law_all" "_law_all" (defArgs s_law_all) (defBody s_law_all) (defScope s_law_all) .none kV38 dc38 pm38 an38 cd38 ct38), sl38⟩) (c38 : PySem.W.codeIn K cd38 "_law_all" = true) (k38 : PySem.W.keepIn K (.ref f38) = true)
    (a39 : PySem.W.nsIn K mainGlobals "_law_parted" = some (some (.ref f39))) (l39 : K.lookup f39 = some ⟨oc39, od39, .func (PySem.W.fnOf "_law_parted" "_law_parted" (defArgs s_law_parted) (defBody s_law_parted) (defScope s_law_parted) .none kV39 dc39 pm39 an39 cd39 ct39), sl39⟩) (c39 : PySem.W.codeIn K cd39 "_law_parted" = true) (k39 : PySem.W.keepIn K (.ref f39) = true)
    (a40 : PySem.W.nsIn K mainGlobals "_law_turned" = some (some (.ref f40))) (l40 : K.lookup f40 = some ⟨oc40, od40, .func (PySem.W.fnOf "_law_turned" "_law_turned" (defArgs s_law_turned) (defBody s_law_turned) (defScope s_law_turned) .none kV40 dc40 pm40 an40 cd40 ct40), sl40⟩) (c40 : PySem.W.codeIn K cd40 "_law_turned" = true) (k40 : PySem.W.keepIn K (.ref f40) = true)
    (a41 : PySem.W.nsIn K mainGlobals "_law_mirrored" = some (some (.ref f41))) (l41 : K.lookup f41 = some ⟨oc41, od41, .func (PySem.W.fnOf "_law_mirrored" "_law_mirrored" (defArgs s_law_mirrored) (defBody s_law_mirrored) (defScope s_law_mirrored) .none kV41 dc41 pm41 an41 cd41 ct41), sl41⟩) (c41 : PySem.W.codeIn K cd41 "_law_mirrored" = true) (k41 : PySem.W.keepIn K (.ref f41) = true)
    (a42 : PySem.W.nsIn K mainGlobals "_law_eight" = some (some (.ref f42))) (l42 : K.lookup f42 = some ⟨oc42, od42, .func (PySem.W.fnOf "_law_eight" "_law_eight" (defArgs s_law_eight) (defBody s_law_eight) (defScope s_law_eight) .none kV42 dc42 pm42 an42 cd42 ct42), sl42⟩) (c42 : PySem.W.codeIn K cd42 "_law_eight" = true) (k42 : PySem.W.keepIn K (.ref f42) = true)
    (a43 : PySem.W.nsIn K mainGlobals "_law_ahead" = some (some (.ref f43))) (l43 : K.lookup f43 = some ⟨oc43, od43, .func (PySem.W.fnOf "_law_ahead" "_law_ahead" (defArgs s_law_ahead) (defBody s_law_ahead) (defScope s_law_ahead) .none kV43 dc43 pm43 an43 cd43 ct43), sl43⟩) (c43 : PySem.W.codeIn K cd43 "_law_ahead" = true) (k43 : PySem.W.keepIn K (.ref f43) = true)
    (a44 : PySem.W.nsIn K mainGlobals "law" = some (some (.ref f44))) (l44 : K.lookup f44 = some ⟨oc44, od44, .func (PySem.W.fnOf "law" "law" (defArgs s_law) (defBody s_law) (defScope s_law) .none kV44 dc44 pm44 an44 cd44 ct44), sl44⟩) (c44 : PySem.W.codeIn K cd44 "law" = true) (k44 : PySem.W.keepIn K (.ref f44) = true)
    (z_abs : PySem.W.nsIn K mainGlobals "abs" = some none)
    (z_all : PySem.W.nsIn K mainGlobals "all" = some none)
    (z_bool : PySem.W.nsIn K mainGlobals "bool" = some none)
    (z_enumerate : PySem.W.nsIn K mainGlobals "enumerate" = some none)
    (z_int : PySem.W.nsIn K mainGlobals "int" = some none)
    (z_isinstance : PySem.W.nsIn K mainGlobals "isinstance" = some none)
    (z_len : PySem.W.nsIn K mainGlobals "len" = some none)
    (z_list : PySem.W.nsIn K mainGlobals "list" = some none)
    (z_max : PySem.W.nsIn K mainGlobals "max" = some none)
    (z_min : PySem.W.nsIn K mainGlobals "min" = some none)
    (z_range : PySem.W.nsIn K mainGlobals "range" = some none)
    (z_reversed : PySem.W.nsIn K mainGlobals "reversed" = some none)
    (z_sorted : PySem.W.nsIn K mainGlobals "sorted" = some none)
    (z_sum : PySem.W.nsIn K mainGlobals "sum" = some none)
    (z_tuple : PySem.W.nsIn K mainGlobals "tuple" = some none)
    (z_zip : PySem.W.nsIn K mainGlobals "zip" = some none)
    (n_ROWS : PySem.W.nsIn K mainGlobals "ROWS" = some (some (.int 5 u_ROWS)))
    (n_STAMPS : PySem.W.nsIn K mainGlobals "STAMPS" = some (some (.int 12 u_STAMPS)))
    (n_WORTH : PySem.W.nsIn K mainGlobals "WORTH" = some (some (.int 9999 u_WORTH)))
    (e_NoNumber : PySem.W.nsIn K mainGlobals "NoNumber" = some (some (.ref C_NoNumber))) (ei_NoNumber : PySem.W.excIn K C_NoNumber [.type "ValueError", .type "Exception", .type "BaseException", .type "object"] "ValueError.__new__" = true) (ek_NoNumber : PySem.W.keepIn K (.ref C_NoNumber) = true) (es_NoNumber : PySem.W.subIn K (.ref C_NoNumber) (.type "BaseException") = some true) (et_NoNumber : PySem.W.typeIn K (.ref C_NoNumber) = some (.type "type"))
    (e_NoSheet : PySem.W.nsIn K mainGlobals "NoSheet" = some (some (.ref C_NoSheet))) (ei_NoSheet : PySem.W.excIn K C_NoSheet [.type "ValueError", .type "Exception", .type "BaseException", .type "object"] "ValueError.__new__" = true) (ek_NoSheet : PySem.W.keepIn K (.ref C_NoSheet) = true) (es_NoSheet : PySem.W.subIn K (.ref C_NoSheet) (.type "BaseException") = some true) (et_NoSheet : PySem.W.typeIn K (.ref C_NoSheet) = some (.type "type"))
    (e_NoWants : PySem.W.nsIn K mainGlobals "NoWants" = some (some (.ref C_NoWants))) (ei_NoWants : PySem.W.excIn K C_NoWants [.type "ValueError", .type "Exception", .type "BaseException", .type "object"] "ValueError.__new__" = true) (ek_NoWants : PySem.W.keepIn K (.ref C_NoWants) = true) (es_NoWants : PySem.W.subIn K (.ref C_NoWants) (.type "BaseException") = some true) (et_NoWants : PySem.W.typeIn K (.ref C_NoWants) = some (.type "type"))
    (main : ∀ ns : List Int, ns.length ≤ 63 → (∀ z ∈ ns, Builtin.Int.intBits z ≤ 1048576) → M_law [.list (ns.map .int)] = .ok (.bool true)) :
    ∃ fd : FuncData, (∀ (s : Shared) (v : Value), BindsTo s fd ⟨[v], []⟩ [("_law_script", v)]) ∧ ∀ base : Heap, K.In base → base.Ns mainGlobals mg → FnOk l.prog w K mg base (L2.CX l.prog w) 19 fa fd ["_law_script"] (spLaw K) := by
  have e := hfa.symm.trans (PySem.W.mg_of X G a44)
  cases e
  refine ⟨PySem.W.fnOf "law" "law" (defArgs s_law) (defBody s_law) (defScope s_law) .none kV44 dc44 pm44 an44 cd44 ct44, fun s v => .of_eq rfl, fun base _ _ => ?_⟩
  have bt_abs := PySem.W.mg_none_of X G z_abs
  have bt_all := PySem.W.mg_none_of X G z_all
  have bt_bool := PySem.W.mg_none_of X G z_bool
  have bt_enumerate := PySem.W.mg_none_of X G z_enumerate
  have bt_int := PySem.W.mg_none_of X G z_int
  have bt_isinstance := PySem.W.mg_none_of X G z_isinstance
  have bt_len := PySem.W.mg_none_of X G z_len
  have bt_list := PySem.W.mg_none_of X G z_list
  have bt_max := PySem.W.mg_none_of X G z_max
  have bt_min := PySem.W.mg_none_of X G z_min
  have bt_range := PySem.W.mg_none_of X G z_range
  have bt_reversed := PySem.W.mg_none_of X G z_reversed
  have bt_sorted := PySem.W.mg_none_of X G z_sorted
  have bt_sum := PySem.W.mg_none_of X G z_sum
  have bt_tuple := PySem.W.mg_none_of X G z_tuple
  have bt_zip := PySem.W.mg_none_of X G z_zip
  have ct_ROWS := PySem.W.mg_of X G n_ROWS
  have ct_STAMPS := PySem.W.mg_of X G n_STAMPS
  have ct_WORTH := PySem.W.mg_of X G n_WORTH
  have x_NoNumber : ExF K mg (fun c => match c with | .sheet => .ref C_NoSheet | .cell => .none | .piece => .none | .number => .ref C_NoNumber | .wants => .ref C_NoWants | .text => .none) "NoNumber" .number := ⟨C_NoNumber, rfl, PySem.W.mg_of X G e_NoNumber, ei_NoNumber, ek_NoNumber, es_NoNumber, et_NoNumber⟩
  have x_NoSheet : ExF K mg (fun c => match c with | .sheet => .ref C_NoSheet | .cell => .none | .piece => .none | .number => .ref C_NoNumber | .wants => .ref C_NoWants | .text => .none) "NoSheet" .sheet := ⟨C_NoSheet, rfl, PySem.W.mg_of X G e_NoSheet, ei_NoSheet, ek_NoSheet, es_NoSheet, et_NoSheet⟩
  have x_NoWants : ExF K mg (fun c => match c with | .sheet => .ref C_NoSheet | .cell => .none | .piece => .none | .number => .ref C_NoNumber | .wants => .ref C_NoWants | .text => .none) "NoWants" .wants := ⟨C_NoWants, rfl, PySem.W.mg_of X G e_NoWants, ei_NoWants, ek_NoWants, es_NoWants, et_NoWants⟩
  have F_is_whole := fun_mk (st := s_is_whole) l0 c0 k0
  have cc_is_whole : Cal l.prog w K mg base (fun c => match c with | .sheet => .ref C_NoSheet | .cell => .none | .piece => .none | .number => .ref C_NoNumber | .wants => .ref C_NoWants | .text => .none) "is_whole" 1 ["thing"] M_is_whole := cal_mk F_is_whole (PySem.W.mg_of X G a0) (F_is_whole.binds fun _ _ _ _ _ _ us hl => match us, hl with | [_], _ => rfl) (ok_is_whole F_is_whole bt_bool bt_int bt_isinstance)
  have F_between := fun_mk (st := s_between) l1 c1 k1
  have cc_between : Cal l.prog w K mg base (fun c => match c with | .sheet => .ref C_NoSheet | .cell => .none | .piece => .none | .number => .ref C_NoNumber | .wants => .ref C_NoWants | .text => .none) "between" 2 ["thing", "low", "most"] M_between := cal_mk F_between (PySem.W.mg_of X G a1) (F_between.binds fun _ _ _ _ _ _ us hl => match us, hl with | [_, _, _], _ => rfl) (ok_between F_between cc_is_whole)
  have F_is_row := fun_mk (st := s_is_row) l2 c2 k2
  have cc_is_row : Cal l.prog w K mg base (fun c => match c with | .sheet => .ref C_NoSheet | .cell => .none | .piece => .none | .number => .ref C_NoNumber | .wants => .ref C_NoWants | .text => .none) "is_row" 3 ["thing", "many"] M_is_row := cal_mk F_is_row (PySem.W.mg_of X G a2) (F_is_row.binds fun _ _ _ _ _ _ us hl => match us, hl with | [_, _], _ => rfl) (ok_is_row F_is_row cc_between bt_all bt_isinstance bt_len bt_tuple ct_WORTH)
  have F_cells_of := fun_mk (st := s_cells_of) l3 c3 k3
  have cc_cells_of : Cal l.prog w K mg base (fun c => match c with | .sheet => .ref C_NoSheet | .cell => .none | .piece => .none | .number => .ref C_NoNumber | .wants => .ref C_NoWants | .text => .none) "cells_of" 1 ["sheet"] M_cells_of := cal_mk F_cells_of (PySem.W.mg_of X G a3) (F_cells_of.binds fun _ _ _ _ _ _ us hl => match us, hl with | [_], _ => rfl) (ok_cells_of F_cells_of bt_len bt_range)
  have F_is_sheet := fun_mk (st := s_is_sheet) l4 c4 k4
  have cc_is_sheet : Cal l.prog w K mg base (fun c => match c with | .sheet => .ref C_NoSheet | .cell => .none | .piece => .none | .number => .ref C_NoNumber | .wants => .ref C_NoWants | .text => .none) "is_sheet" 4 ["thing"] M_is_sheet := cal_mk F_is_sheet (PySem.W.mg_of X G a4) (F_is_sheet.binds fun _ _ _ _ _ _ us hl => match us, hl with | [_], _ => rfl) (ok_is_sheet F_is_sheet cc_cells_of cc_is_row bt_all bt_isinstance bt_len bt_tuple ct_ROWS ct_STAMPS)
  have F_checked := fun_mk (st := s_checked) l5 c5 k5
  have cc_checked : Cal l.prog w K mg base (fun c => match c with | .sheet => .ref C_NoSheet | .cell => .none | .piece => .none | .number => .ref C_NoNumber | .wants => .ref C_NoWants | .text => .none) "checked" 5 ["sheet"] M_checked := cal_mk F_checked (PySem.W.mg_of X G a5) (F_checked.binds fun _ _ _ _ _ _ us hl => match us, hl with | [_], _ => rfl) (ok_checked F_checked cc_is_sheet x_NoSheet)
  have F_need_number := fun_mk (st := s_need_number) l6 c6 k6
  have cc_need_number : Cal l.prog w K mg base (fun c => match c with | .sheet => .ref C_NoSheet | .cell => .none | .piece => .none | .number => .ref C_NoNumber | .wants => .ref C_NoWants | .text => .none) "need_number" 3 ["number", "most"] M_need_number := cal_mk F_need_number (PySem.W.mg_of X G a6) (F_need_number.binds fun _ _ _ _ _ _ us hl => match us, hl with | [_, _], _ => rfl) (ok_need_number F_need_number cc_between x_NoNumber)
  have F_around := fun_mk (st := s_around) l7 c7 k7
  have cc_around : Cal l.prog w K mg base (fun c => match c with | .sheet => .ref C_NoSheet | .cell => .none | .piece => .none | .number => .ref C_NoNumber | .wants => .ref C_NoWants | .text => .none) "around" 1 ["cell"] M_around := cal_mk F_around (PySem.W.mg_of X G a7) (F_around.binds fun _ _ _ _ _ _ us hl => match us, hl with | [_], _ => rfl) (ok_around F_around)
  have F_turned_once := fun_mk (st := s_turned_once) l8 c8 k8
  have cc_turned_once : Cal l.prog w K mg base (fun c => match c with | .sheet => .ref C_NoSheet | .cell => .none | .piece => .none | .number => .ref C_NoNumber | .wants => .ref C_NoWants | .text => .none) "turned_once" 1 ["sheet"] M_turned_once := cal_mk F_turned_once (PySem.W.mg_of X G a8) (F_turned_once.binds fun _ _ _ _ _ _ us hl => match us, hl with | [_], _ => rfl) (ok_turned_once F_turned_once bt_len bt_range bt_reversed bt_tuple)
  have F_mirrored_once := fun_mk (st := s_mirrored_once) l9 c9 k9
  have cc_mirrored_once : Cal l.prog w K mg base (fun c => match c with | .sheet => .ref C_NoSheet | .cell => .none | .piece => .none | .number => .ref C_NoNumber | .wants => .ref C_NoWants | .text => .none) "mirrored_once" 1 ["sheet"] M_mirrored_once := cal_mk F_mirrored_once (PySem.W.mg_of X G a9) (F_mirrored_once.binds fun _ _ _ _ _ _ us hl => match us, hl with | [_], _ => rfl) (ok_mirrored_once F_mirrored_once bt_tuple)
  have F_turned := fun_mk (st := s_turned) l10 c10 k10
  have cc_turned : Cal l.prog w K mg base (fun c => match c with | .sheet => .ref C_NoSheet | .cell => .none | .piece => .none | .number => .ref C_NoNumber | .wants => .ref C_NoWants | .text => .none) "turned" 6 ["sheet"] M_turned := cal_mk F_turned (PySem.W.mg_of X G a10) (F_turned.binds fun _ _ _ _ _ _ us hl => match us, hl with | [_], _ => rfl) (ok_turned F_turned cc_checked cc_turned_once)
  have F_mirrored := fun_mk (st := s_mirrored) l11 c11 k11
  have cc_mirrored : Cal l.prog w K mg base (fun c => match c with | .sheet => .ref C_NoSheet | .cell => .none | .piece => .none | .number => .ref C_NoNumber | .wants => .ref C_NoWants | .text => .none) "mirrored" 6 ["sheet"] M_mirrored := cal_mk F_mirrored (PySem.W.mg_of X G a11) (F_mirrored.binds fun _ _ _ _ _ _ us hl => match us, hl with | [_], _ => rfl) (ok_mirrored F_mirrored cc_checked cc_mirrored_once)
  have F_worth_order := fun_mk (st := s_worth_order) l12 c12 k12
  have cc_worth_order : Cal l.prog w K mg base (fun c => match c with | .sheet => .ref C_NoSheet | .cell => .none | .piece => .none | .number => .ref C_NoNumber | .wants => .ref C_NoWants | .text => .none) "worth_order" 1 ["sheet"] M_worth_order := cal_mk F_worth_order (PySem.W.mg_of X G a12) (F_worth_order.binds fun _ _ _ _ _ _ us hl => match us, hl with | [_], _ => rfl) (ok_worth_order F_worth_order bt_int bt_len)
  have F_least_of := fun_mk (st := s_least_of) l13 c13 k13
  have cc_least_of : Cal l.prog w K mg base (fun c => match c with | .sheet => .ref C_NoSheet | .cell => .none | .piece => .none | .number => .ref C_NoNumber | .wants => .ref C_NoWants | .text => .none) "least_of" 4 ["sheet"] M_least_of := cal_mk F_least_of (PySem.W.mg_of X G a13) (F_least_of.binds fun _ _ _ _ _ _ us hl => match us, hl with | [_], _ => rfl) (ok_least_of F_least_of cc_mirrored_once cc_turned_once cc_worth_order bt_range bt_sorted)
  have F_least := fun_mk (st := s_least) l14 c14 k14
  have cc_least : Cal l.prog w K mg base (fun c => match c with | .sheet => .ref C_NoSheet | .cell => .none | .piece => .none | .number => .ref C_NoNumber | .wants => .ref C_NoWants | .text => .none) "least" 6 ["sheet"] M_least := cal_mk F_least (PySem.W.mg_of X G a14) (F_least.binds fun _ _ _ _ _ _ us hl => match us, hl with | [_], _ => rfl) (ok_least F_least cc_checked cc_least_of)
  have F_alike := fun_mk (st := s_alike) l15 c15 k15
  have cc_alike : Cal l.prog w K mg base (fun c => match c with | .sheet => .ref C_NoSheet | .cell => .none | .piece => .none | .number => .ref C_NoNumber | .wants => .ref C_NoWants | .text => .none) "alike" 6 ["one", "other"] M_alike := cal_mk F_alike (PySem.W.mg_of X G a15) (F_alike.binds fun _ _ _ _ _ _ us hl => match us, hl with | [_, _], _ => rfl) (ok_alike F_alike cc_checked cc_least_of)
  have F_grown := fun_mk (st := s_grown) l16 c16 k16
  have cc_grown : Cal l.prog w K mg base (fun c => match c with | .sheet => .ref C_NoSheet | .cell => .none | .piece => .none | .number => .ref C_NoNumber | .wants => .ref C_NoWants | .text => .none) "grown" 2 ["known", "some"] M_grown := cal_mk F_grown (PySem.W.mg_of X G a16) (F_grown.binds fun _ _ _ _ _ _ us hl => match us, hl with | [_, _], _ => rfl) (ok_grown F_grown cc_around bt_list bt_sorted bt_tuple)
  have F_by_sizes := fun_mk (st := s_by_sizes) l17 c17 k17
  have cc_by_sizes : Cal l.prog w K mg base (fun c => match c with | .sheet => .ref C_NoSheet | .cell => .none | .piece => .none | .number => .ref C_NoNumber | .wants => .ref C_NoWants | .text => .none) "by_sizes" 3 ["sheet", "most"] M_by_sizes := cal_mk F_by_sizes (PySem.W.mg_of X G a17) (F_by_sizes.binds fun _ _ _ _ _ _ us hl => match us, hl with | [_, _], _ => rfl) (ok_by_sizes F_by_sizes cc_cells_of cc_grown bt_len bt_min)
  have F_pieces_of := fun_mk (st := s_pieces_of) l18 c18 k18
  have cc_pieces_of : Cal l.prog w K mg base (fun c => match c with | .sheet => .ref C_NoSheet | .cell => .none | .piece => .none | .number => .ref C_NoNumber | .wants => .ref C_NoWants | .text => .none) "pieces_of" 4 ["sheet", "most"] M_pieces_of := cal_mk F_pieces_of (PySem.W.mg_of X G a18) (F_pieces_of.binds fun _ _ _ _ _ _ us hl => match us, hl with | [_, _], _ => rfl) (ok_pieces_of F_pieces_of cc_by_sizes)
  have F_counts := fun_mk (st := s_counts) l19 c19 k19
  have cc_counts : Cal l.prog w K mg base (fun c => match c with | .sheet => .ref C_NoSheet | .cell => .none | .piece => .none | .number => .ref C_NoNumber | .wants => .ref C_NoWants | .text => .none) "counts" 6 ["sheet"] M_counts := cal_mk F_counts (PySem.W.mg_of X G a19) (F_counts.binds fun _ _ _ _ _ _ us hl => match us, hl with | [_], _ => rfl) (ok_counts F_counts cc_by_sizes cc_checked bt_len ct_STAMPS)
  have F_sum_of := fun_mk (st := s_sum_of) l20 c20 k20
  have cc_sum_of : Cal l.prog w K mg base (fun c => match c with | .sheet => .ref C_NoSheet | .cell => .none | .piece => .none | .number => .ref C_NoNumber | .wants => .ref C_NoWants | .text => .none) "sum_of" 1 ["sheet", "piece"] M_sum_of := cal_mk F_sum_of (PySem.W.mg_of X G a20) (F_sum_of.binds fun _ _ _ _ _ _ us hl => match us, hl with | [_, _], _ => rfl) (ok_sum_of F_sum_of bt_sum)
  have F_worths_of := fun_mk (st := s_worths_of) l21 c21 k21
  have cc_worths_of : Cal l.prog w K mg base (fun c => match c with | .sheet => .ref C_NoSheet | .cell => .none | .piece => .none | .number => .ref C_NoNumber | .wants => .ref C_NoWants | .text => .none) "worths_of" 5 ["sheet", "most"] M_worths_of := cal_mk F_worths_of (PySem.W.mg_of X G a21) (F_worths_of.binds fun _ _ _ _ _ _ us hl => match us, hl with | [_, _], _ => rfl) (ok_worths_of F_worths_of cc_pieces_of cc_sum_of bt_list bt_sorted)
  have F_worths := fun_mk (st := s_worths) l22 c22 k22
  have cc_worths : Cal l.prog w K mg base (fun c => match c with | .sheet => .ref C_NoSheet | .cell => .none | .piece => .none | .number => .ref C_NoNumber | .wants => .ref C_NoWants | .text => .none) "worths" 6 ["sheet", "most"] M_worths := cal_mk F_worths (PySem.W.mg_of X G a22) (F_worths.binds fun _ _ _ _ _ _ us hl => match us, hl with | [_, _], _ => rfl) (ok_worths F_worths cc_checked cc_need_number cc_worths_of ct_STAMPS)
  have F_missing_of := fun_mk (st := s_missing_of) l23 c23 k23
  have cc_missing_of : Cal l.prog w K mg base (fun c => match c with | .sheet => .ref C_NoSheet | .cell => .none | .piece => .none | .number => .ref C_NoNumber | .wants => .ref C_NoWants | .text => .none) "missing_of" 6 ["sheet", "most"] M_missing_of := cal_mk F_missing_of (PySem.W.mg_of X G a23) (F_missing_of.binds fun _ _ _ _ _ _ us hl => match us, hl with | [_, _], _ => rfl) (ok_missing_of F_missing_of cc_worths_of)
  have F_first_missing := fun_mk (st := s_first_missing) l24 c24 k24
  have cc_first_missing : Cal l.prog w K mg base (fun c => match c with | .sheet => .ref C_NoSheet | .cell => .none | .piece => .none | .number => .ref C_NoNumber | .wants => .ref C_NoWants | .text => .none) "first_missing" 7 ["sheet", "most"] M_first_missing := cal_mk F_first_missing (PySem.W.mg_of X G a24) (F_first_missing.binds fun _ _ _ _ _ _ us hl => match us, hl with | [_, _], _ => rfl) (ok_first_missing F_first_missing cc_checked cc_missing_of cc_need_number ct_STAMPS)
  have F_need_wants := fun_mk (st := s_need_wants) l25 c25 k25
  have cc_need_wants : Cal l.prog w K mg base (fun c => match c with | .sheet => .ref C_NoSheet | .cell => .none | .piece => .none | .number => .ref C_NoNumber | .wants => .ref C_NoWants | .text => .none) "need_wants" 2 ["wants"] M_need_wants := cal_mk F_need_wants (PySem.W.mg_of X G a25) (F_need_wants.binds fun _ _ _ _ _ _ us hl => match us, hl with | [_], _ => rfl) (ok_need_wants F_need_wants cc_is_whole bt_all bt_isinstance bt_len bt_list x_NoWants ct_STAMPS)
  have F_pieces_with := fun_mk (st := s_pieces_with) l26 c26 k26
  have cc_pieces_with : Cal l.prog w K mg base (fun c => match c with | .sheet => .ref C_NoSheet | .cell => .none | .piece => .none | .number => .ref C_NoNumber | .wants => .ref C_NoWants | .text => .none) "pieces_with" 3 ["sheet", "free", "wanted"] M_pieces_with := cal_mk F_pieces_with (PySem.W.mg_of X G a26) (F_pieces_with.binds fun _ _ _ _ _ _ us hl => match us, hl with | [_, _, _], _ => rfl) (ok_pieces_with F_pieces_with cc_grown cc_sum_of bt_max)
  have F_inner := fun_mk (st := s_inner) l27 c27 k27
  have cc_inner : Cal l.prog w K mg base (fun c => match c with | .sheet => .ref C_NoSheet | .cell => .none | .piece => .none | .number => .ref C_NoNumber | .wants => .ref C_NoWants | .text => .none) "inner" 2 ["piece"] M_inner := cal_mk F_inner (PySem.W.mg_of X G a27) (F_inner.binds fun _ _ _ _ _ _ us hl => match us, hl with | [_], _ => rfl) (ok_inner F_inner cc_around bt_len bt_sum)
  have F_best_plan := fun_mk (st := s_best_plan) l28 c28 k28
  have cc_best_plan : Cal l.prog w K mg base (fun c => match c with | .sheet => .ref C_NoSheet | .cell => .none | .piece => .none | .number => .ref C_NoNumber | .wants => .ref C_NoWants | .text => .none) "best_plan" 16 ["sheet", "free", "left"] M_best_plan := cal_mk F_best_plan (PySem.W.mg_of X G a28) (F_best_plan.binds fun _ _ _ _ _ _ us hl => match us, hl with | [_, _, _], _ => rfl) (rec_best_plan F_best_plan cc_inner cc_pieces_with cc_sum_of bt_int bt_tuple (PySem.W.mg_of X G a28) (F_best_plan.binds fun _ _ _ _ _ _ us hl => match us, hl with | [_, _, _], _ => rfl) 13)
  have F_plan_for := fun_mk (st := s_plan_for) l29 c29 k29
  have cc_plan_for : Cal l.prog w K mg base (fun c => match c with | .sheet => .ref C_NoSheet | .cell => .none | .piece => .none | .number => .ref C_NoNumber | .wants => .ref C_NoWants | .text => .none) "plan_for" 17 ["sheet", "wants"] M_plan_for := cal_mk F_plan_for (PySem.W.mg_of X G a29) (F_plan_for.binds fun _ _ _ _ _ _ us hl => match us, hl with | [_, _], _ => rfl) (ok_plan_for F_plan_for cc_best_plan cc_cells_of cc_sum_of bt_enumerate bt_len bt_sum bt_tuple)
  have F_fewest_tears := fun_mk (st := s_fewest_tears) l30 c30 k30
  have cc_fewest_tears : Cal l.prog w K mg base (fun c => match c with | .sheet => .ref C_NoSheet | .cell => .none | .piece => .none | .number => .ref C_NoNumber | .wants => .ref C_NoWants | .text => .none) "fewest_tears" 18 ["sheet", "wants"] M_fewest_tears := cal_mk F_fewest_tears (PySem.W.mg_of X G a30) (F_fewest_tears.binds fun _ _ _ _ _ _ us hl => match us, hl with | [_, _], _ => rfl) (ok_fewest_tears F_fewest_tears cc_cells_of cc_checked cc_inner cc_need_wants cc_plan_for)
  have F_law_cell_at := fun_mk (st := s_law_cell_at) l31 c31 k31
  have cc_law_cell_at : Cal l.prog w K mg base (fun c => match c with | .sheet => .ref C_NoSheet | .cell => .none | .piece => .none | .number => .ref C_NoNumber | .wants => .ref C_NoWants | .text => .none) "_law_cell_at" 1 ["_law_script", "_law_k"] M_law_cell_at := cal_mk F_law_cell_at (PySem.W.mg_of X G a31) (F_law_cell_at.binds fun _ _ _ _ _ _ us hl => match us, hl with | [_, _], _ => rfl) (ok_law_cell_at F_law_cell_at bt_len)
  have F_law_mixed := fun_mk (st := s_law_mixed) l32 c32 k32
  have cc_law_mixed : Cal l.prog w K mg base (fun c => match c with | .sheet => .ref C_NoSheet | .cell => .none | .piece => .none | .number => .ref C_NoNumber | .wants => .ref C_NoWants | .text => .none) "_law_mixed" 2 ["_law_script", "_law_k", "_law_many"] M_law_mixed := cal_mk F_law_mixed (PySem.W.mg_of X G a32) (F_law_mixed.binds fun _ _ _ _ _ _ us hl => match us, hl with | [_, _, _], _ => rfl) (ok_law_mixed F_law_mixed cc_law_cell_at)
  have F_law_sheet := fun_mk (st := s_law_sheet) l33 c33 k33
  have cc_law_sheet : Cal l.prog w K mg base (fun c => match c with | .sheet => .ref C_NoSheet | .cell => .none | .piece => .none | .number => .ref C_NoNumber | .wants => .ref C_NoWants | .text => .none) "_law_sheet" 3 ["_law_script", "_law_at", "_law_most"] M_law_sheet := cal_mk F_law_sheet (PySem.W.mg_of X G a33) (F_law_sheet.binds fun _ _ _ _ _ _ us hl => match us, hl with | [_, _, _], _ => rfl) (ok_law_sheet F_law_sheet cc_law_mixed bt_range bt_tuple)
  have F_law_worth := fun_mk (st := s_law_worth) l34 c34 k34
  have cc_law_worth : Cal l.prog w K mg base (fun c => match c with | .sheet => .ref C_NoSheet | .cell => .none | .piece => .none | .number => .ref C_NoNumber | .wants => .ref C_NoWants | .text => .none) "_law_worth" 1 ["_law_sheet_here", "_law_some"] M_law_worth := cal_mk F_law_worth (PySem.W.mg_of X G a34) (F_law_worth.binds fun _ _ _ _ _ _ us hl => match us, hl with | [_, _], _ => rfl) (ok_law_worth F_law_worth bt_sum)
  have F_law_cells := fun_mk (st := s_law_cells) l35 c35 k35
  have cc_law_cells : Cal l.prog w K mg base (fun c => match c with | .sheet => .ref C_NoSheet | .cell => .none | .piece => .none | .number => .ref C_NoNumber | .wants => .ref C_NoWants | .text => .none) "_law_cells" 1 ["_law_sheet_here"] M_law_cells := cal_mk F_law_cells (PySem.W.mg_of X G a35) (F_law_cells.binds fun _ _ _ _ _ _ us hl => match us, hl with | [_], _ => rfl) (ok_law_cells F_law_cells bt_len bt_range)
  have F_law_beside := fun_mk (st := s_law_beside) l36 c36 k36
  have cc_law_beside : Cal l.prog w K mg base (fun c => match c with | .sheet => .ref C_NoSheet | .cell => .none | .piece => .none | .number => .ref C_NoNumber | .wants => .ref C_NoWants | .text => .none) "_law_beside" 1 ["_law_one", "_law_other"] M_law_beside := cal_mk F_law_beside (PySem.W.mg_of X G a36) (F_law_beside.binds fun _ _ _ _ _ _ us hl => match us, hl with | [_, _], _ => rfl) (ok_law_beside F_law_beside bt_abs)
  have F_law_hangs := fun_mk (st := s_law_hangs) l37 c37 k37
  have cc_law_hangs : Cal l.prog w K mg base (fun c => match c with | .sheet => .ref C_NoSheet | .cell => .none | .piece => .none | .number => .ref C_NoNumber | .wants => .ref C_NoWants | .text => .none) "_law_hangs" 2 ["_law_some"] M_law_hangs := cal_mk F_law_hangs (PySem.W.mg_of X G a37) (F_law_hangs.binds fun _ _ _ _ _ _ us hl => match us, hl with | [_], _ => rfl) (ok_law_hangs F_law_hangs cc_law_beside bt_len)
  have F_law_all := fun_mk (st := s_law_all) l38 c38 k38
  have cc_law_all : Cal l.prog w K mg base (fun c => match c with | .sheet => .ref C_NoSheet | .cell => .none | .piece => .none | .number => .ref C_NoNumber | .wants => .ref C_NoWants | .text => .none) "_law_all" 3 ["_law_sheet_here"] M_law_all := cal_mk F_law_all (PySem.W.mg_of X G a38) (F_law_all.binds fun _ _ _ _ _ _ us hl => match us, hl with | [_], _ => rfl) (ok_law_all F_law_all cc_law_cells cc_law_hangs bt_len bt_sorted)
  have F_law_parted := fun_mk (st := s_law_parted) l39 c39 k39
  have cc_law_parted : Cal l.prog w K mg base (fun c => match c with | .sheet => .ref C_NoSheet | .cell => .none | .piece => .none | .number => .ref C_NoNumber | .wants => .ref C_NoWants | .text => .none) "_law_parted" 4 ["_law_script", "_law_at", "_law_sheet_here"] M_law_parted := cal_mk F_law_parted (PySem.W.mg_of X G a39) (F_law_parted.binds fun _ _ _ _ _ _ us hl => match us, hl with | [_, _, _], _ => rfl) (ok_law_parted F_law_parted cc_law_all cc_law_cells cc_law_mixed bt_len bt_min)
  have F_law_turned := fun_mk (st := s_law_turned) l40 c40 k40
  have cc_law_turned : Cal l.prog w K mg base (fun c => match c with | .sheet => .ref C_NoSheet | .cell => .none | .piece => .none | .number => .ref C_NoNumber | .wants => .ref C_NoWants | .text => .none) "_law_turned" 1 ["_law_sheet_here"] M_law_turned := cal_mk F_law_turned (PySem.W.mg_of X G a40) (F_law_turned.binds fun _ _ _ _ _ _ us hl => match us, hl with | [_], _ => rfl) (ok_law_turned F_law_turned bt_len bt_range bt_tuple)
  have F_law_mirrored := fun_mk (st := s_law_mirrored) l41 c41 k41
  have cc_law_mirrored : Cal l.prog w K mg base (fun c => match c with | .sheet => .ref C_NoSheet | .cell => .none | .piece => .none | .number => .ref C_NoNumber | .wants => .ref C_NoWants | .text => .none) "_law_mirrored" 1 ["_law_sheet_here"] M_law_mirrored := cal_mk F_law_mirrored (PySem.W.mg_of X G a41) (F_law_mirrored.binds fun _ _ _ _ _ _ us hl => match us, hl with | [_], _ => rfl) (ok_law_mirrored F_law_mirrored bt_tuple)
  have F_law_eight := fun_mk (st := s_law_eight) l42 c42 k42
  have cc_law_eight : Cal l.prog w K mg base (fun c => match c with | .sheet => .ref C_NoSheet | .cell => .none | .piece => .none | .number => .ref C_NoNumber | .wants => .ref C_NoWants | .text => .none) "_law_eight" 2 ["_law_sheet_here"] M_law_eight := cal_mk F_law_eight (PySem.W.mg_of X G a42) (F_law_eight.binds fun _ _ _ _ _ _ us hl => match us, hl with | [_], _ => rfl) (ok_law_eight F_law_eight cc_law_mirrored cc_law_turned bt_range)
  have F_law_ahead := fun_mk (st := s_law_ahead) l43 c43 k43
  have cc_law_ahead : Cal l.prog w K mg base (fun c => match c with | .sheet => .ref C_NoSheet | .cell => .none | .piece => .none | .number => .ref C_NoNumber | .wants => .ref C_NoWants | .text => .none) "_law_ahead" 1 ["_law_one", "_law_other"] M_law_ahead := cal_mk F_law_ahead (PySem.W.mg_of X G a43) (F_law_ahead.binds fun _ _ _ _ _ _ us hl => match us, hl with | [_, _], _ => rfl) (ok_law_ahead F_law_ahead bt_len bt_zip)
  have F_law := fun_mk (st := s_law) l44 c44 k44
  exact (ok_law (P := l.prog) (w := w) (cl := (fun c => match c with | .sheet => .ref C_NoSheet | .cell => .none | .piece => .none | .number => .ref C_NoNumber | .wants => .ref C_NoWants | .text => .none)) F_law cc_law_ahead cc_law_eight cc_law_mirrored cc_law_mixed cc_law_parted cc_law_sheet cc_law_turned cc_law_worth cc_alike cc_counts cc_fewest_tears cc_first_missing cc_least cc_mirrored cc_turned cc_worths bt_bool bt_isinstance).imp (law_imp main)
theorem no_exc {P : Program} : ∀ (w : World) (H : Hp) (s : Shared) (e : Value) (s' : Shared), L2.CX P w [] H s (fun _ _ _ => False) e s' → False := fun _ _ _ _ _ ⟨_, _, _, _, _, _, _, _, _, _, _, _, z⟩ => z
end Wlk
open PySem PySem.W PyProof.Rows
set_option maxHeartbeats 0 in
theorem PySem.Challenge.cw_stampsheet_k12_whole_turned_holds : PySem.Challenge.rw_stampsheet_k12_whole_turned.Holds := by
  w_on; o_law; k_head; (case hw => w_witness2)
  k_fill
  refine L2.walk_ofB (l := PySem.Challenge.rw_stampsheet_k12_whole_turned) (n := 63) (k := 19) (x := "_law_script") (CX := fun w => L2.CX PySem.Challenge.rw_stampsheet_k12_whole_turned.prog w) (sp := fun w => Wlk.spLaw _) rfl (by decide) rfl ⟨rfl, by decide, by decide⟩ (fun w h Y => PySem.W.kIn_of Y) ?F (fun _ _ a ns hl hb _ hS => ⟨a, ns, rfl, hS, hl, hb, fun _ => rfl⟩) Wlk.no_exc
  case F =>
    intro w mg fa h KX G hmg
    refine' Wlk.all_mk KX G hmg ?a0 ?l0 ?c0 ?k0 ?a1 ?l1 ?c1 ?k1 ?a2 ?l2 ?c2 ?k2 ?a3 ?l3 ?c3 ?k3 ?a4 ?l4 ?c4 ?k4 ?a5 ?l5 ?c5 ?k5 ?a6 ?l6 ?c6 ?k6 ?a7 ?l7 ?c7 ?k7 ?a8 ?l8 ?c8 ?k8 ?a9 ?l9 ?c9 ?k9 ?a10 ?l10 ?c10 ?k10 ?a11 ?l11 ?c11 ?k11 ?a12 ?l12 ?c12 ?k12 ?a13 ?l13 ?c13 ?k13 ?a14 ?l14 ?c14 ?k14 ?a15 ?l15 ?c15 ?k15 ?a16 ?l16 ?c16 ?k16 ?a17 ?l17 ?c17 ?k17 ?a18 ?l18 ?c18 ?k18 ?a19 ?l19 ?c19 ?k19 ?a20 ?l20 ?c20 ?k20 ?a21 ?l21 ?c21 ?k21 ?a22 ?l22 ?c22 ?k22 ?a23 ?l23 ?c23 ?k23 ?a24 ?l24 ?c24 ?k24 ?a25 ?l25 ?c25 ?k25 ?a26 ?l26 ?c26 ?k26 ?a27 ?l27 ?c27 ?k27 ?a28 ?l28 ?c28 ?k28 ?a29 ?l29 ?c29 ?k29 ?a30 ?l30 ?c30 ?k30 ?a31 ?l31 ?c31 ?k31 ?a32 ?l32 ?c32 ?k32 ?a33 ?l33 ?c33 ?k33 ?a34 ?l34 ?c34 ?k34 ?a35 ?l35 ?c35 ?k35 ?a36 ?l36 ?c36 ?k36 ?a37 ?l37 ?c37 ?k37 ?a38 ?l38 ?c38 ?k38 ?a39 ?l39 ?c39 ?k39 ?a40 ?l40 ?c40 ?k40 ?a41 ?l41 ?c41 ?k41 ?a42 ?l42 ?c42 ?k42 ?a43 ?l43 ?c43 ?k43 ?a44 ?l44 ?c44 ?k44 ?z_abs ?z_all ?z_bool ?z_enumerate ?z_int ?z_isinstance ?z_len ?z_list ?z_max ?z_min ?z_range ?z_reversed ?z_sorted ?z_sum ?z_tuple ?z_zip ?n_ROWS ?n_STAMPS ?n_WORTH ?e_NoNumber ?ei_NoNumber ?ek_NoNumber ?es_NoNumber ?et_NoNumber ?e_NoSheet ?ei_NoSheet ?ek_NoSheet ?es_NoSheet ?et_NoSheet ?e_NoWants ?ei_NoWants ?ek_NoWants ?es_NoWants ?et_NoWants Stm.main_law
    (case a0 => k_is)
    (case l0 => k_is)
    (case c0 => k_is)
    (case k0 => k_is)
    (case a1 => k_is)
    (case l1 => k_is)
    (case c1 => k_is)
    (case k1 => k_is)
    (case a2 => k_is)
    (case l2 => k_is)
    (case c2 => k_is)
    (case k2 => k_is)
    (case a3 => k_is)
    (case l3 => k_is)
    (case c3 => k_is)
    (case k3 => k_is)
    (case a4 => k_is)
    (case l4 => k_is)
    (case c4 => k_is)
    (case k4 => k_is)
    (case a5 => k_is)
    (case l5 => k_is)
    (case c5 => k_is)
    (case k5 => k_is)
    (case a6 => k_is)
    (case l6 => k_is)
    (case c6 => k_is)
    (case k6 => k_is)
    (case a7 => k_is)
    (case l7 => k_is)
    (case c7 => k_is)
    (case k7 => k_is)
    (case a8 => k_is)
    (case l8 => k_is)
    (case c8 => k_is)
    (case k8 => k_is)
    (case a9 => k_is)
    (case l9 => k_is)
    (case c9 => k_is)
    (case k9 => k_is)
    (case a10 => k_is)
    (case l10 => k_is)
    (case c10 => k_is)
    (case k10 => k_is)
    (case a11 => k_is)
    (case l11 => k_is)
    (case c11 => k_is)
    (case k11 => k_is)
    (case a12 => k_is)
    (case l12 => k_is)
    (case c12 => k_is)
    (case k12 => k_is)
    (case a13 => k_is)
    (case l13 => k_is)
    (case c13 => k_is)
    (case k13 => k_is)
    (case a14 => k_is)
    (case l14 => k_is)
    (case c14 => k_is)
    (case k14 => k_is)
    (case a15 => k_is)
    (case l15 => k_is)
    (case c15 => k_is)
    (case k15 => k_is)
    (case a16 => k_is)
    (case l16 => k_is)
    (case c16 => k_is)
    (case k16 => k_is)
    (case a17 => k_is)
    (case l17 => k_is)
    (case c17 => k_is)
    (case k17 => k_is)
    (case a18 => k_is)
    (case l18 => k_is)
    (case c18 => k_is)
    (case k18 => k_is)
    (case a19 => k_is)
    (case l19 => k_is)
    (case c19 => k_is)
    (case k19 => k_is)
    (case a20 => k_is)
    (case l20 => k_is)
    (case c20 => k_is)
    (case k20 => k_is)
    (case a21 => k_is)
    (case l21 => k_is)
    (case c21 => k_is)
    (case k21 => k_is)
    (case a22 => k_is)
    (case l22 => k_is)
    (case c22 => k_is)
    (case k22 => k_is)
    (case a23 => k_is)
    (case l23 => k_is)
    (case c23 => k_is)
    (case k23 => k_is)
    (case a24 => k_is)
    (case l24 => k_is)
    (case c24 => k_is)
    (case k24 => k_is)
    (case a25 => k_is)
    (case l25 => k_is)
    (case c25 => k_is)
    (case k25 => k_is)
    (case a26 => k_is)
    (case l26 => k_is)
    (case c26 => k_is)
    (case k26 => k_is)
    (case a27 => k_is)
    (case l27 => k_is)
    (case c27 => k_is)
    (case k27 => k_is)
    (case a28 => k_is)
    (case l28 => k_is)
    (case c28 => k_is)
    (case k28 => k_is)
    (case a29 => k_is)
    (case l29 => k_is)
    (case c29 => k_is)
    (case k29 => k_is)
    (case a30 => k_is)
    (case l30 => k_is)
    (case c30 => k_is)
    (case k30 => k_is)
    (case a31 => k_is)
    (case l31 => k_is)
    (case c31 => k_is)
    (case k31 => k_is)
    (case a32 => k_is)
    (case l32 => k_is)
    (case c32 => k_is)
    (case k32 => k_is)
    (case a33 => k_is)
    (case l33 => k_is)
    (case c33 => k_is)
    (case k33 => k_is)
    (case a34 => k_is)
    (case l34 => k_is)
    (case c34 => k_is)
    (case k34 => k_is)
    (case a35 => k_is)
    (case l35 => k_is)
    (case c35 => k_is)
    (case k35 => k_is)
    (case a36 => k_is)
    (case l36 => k_is)
    (case c36 => k_is)
    (case k36 => k_is)
    (case a37 => k_is)
    (case l37 => k_is)
    (case c37 => k_is)
    (case k37 => k_is)
    (case a38 => k_is)
    (case l38 => k_is)
    (case c38 => k_is)
    (case k38 => k_is)
    (case a39 => k_is)
    (case l39 => k_is)
    (case c39 => k_is)
    (case k39 => k_is)
    (case a40 => k_is)
    (case l40 => k_is)
    (case c40 => k_is)
    (case k40 => k_is)
    (case a41 => k_is)
    (case l41 => k_is)
    (case c41 => k_is)
    (case k41 => k_is)
    (case a42 => k_is)
    (case l42 => k_is)
    (case c42 => k_is)
    (case k42 => k_is)
    (case a43 => k_is)
    (case l43 => k_is)
    (case c43 => k_is)
    (case k43 => k_is)
    (case a44 => k_is)
    (case l44 => k_is)
    (case c44 => k_is)
    (case k44 => k_is)
    (case z_abs => k_is)
    (case z_all => k_is)
    (case z_bool => k_is)
    (case z_enumerate => k_is)
    (case z_int => k_is)
    (case z_isinstance => k_is)
    (case z_len => k_is)
    (case z_list => k_is)
    (case z_max => k_is)
    (case z_min => k_is)
    (case z_range => k_is)
    (case z_reversed => k_is)
    (case z_sorted => k_is)
    (case z_sum => k_is)
    (case z_tuple => k_is)
    (case z_zip => k_is)
    (case n_ROWS => k_is)
    (case n_STAMPS => k_is)
    (case n_WORTH => k_is)
    (case e_NoNumber => k_is)
    (case ei_NoNumber => k_exc)
    (case ek_NoNumber => k_is)
    (case es_NoNumber => k_is)
    (case et_NoNumber => k_is)
    (case e_NoSheet => k_is)
    (case ei_NoSheet => k_exc)
    (case ek_NoSheet => k_is)
    (case es_NoSheet => k_is)
    (case et_NoSheet => k_is)
    (case e_NoWants => k_is)
    (case ei_NoWants => k_exc)
    (case ek_NoWants => k_is)
    (case es_NoWants => k_is)
    (case et_NoWants => k_is)
