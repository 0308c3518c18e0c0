import PyProof.Rows.All
import Wide.All
import OpenK.AllK
import Wide.FinOn
import PySem.Challenge.RW_neverhalf_k01_whole_sums_of_long_lists
import HandS.ForMost
import HandS.Exc
import HandS.WordsExc
import HandS.IsInst
import HandS.Flow
import HandS.Star
import HandS.Style
import HandS.Zip
import HandS.TupAny
import HandS.NoneIn
import HandS.Walk
import HandS.Deep
import HandS.TupMul
import HandS.IntHex
import KE.OsArith
set_option Elab.async false
set_option linter.all false
set_option maxRecDepth 100000
set_option maxHeartbeats 4000000
noncomputable section
namespace DL
open PySem PySem.Spec PyProof.Rows L2

/-! ## conditions that no kernel runs -/
def chk (p : Prop) : Bool := @decide p (Classical.propDecidable p)
theorem chk_iff {p : Prop} : (chk p = true) = p := propext ⟨fun h => @of_decide_eq_true p (Classical.propDecidable p) h, fun h => @decide_eq_true p (Classical.propDecidable p) h⟩
@[simp] theorem chk_T : chk True = true := chk_iff.mpr trivial
theorem of_chk {p : Prop} (h : chk p = true) : p := chk_iff.mp h
theorem chk_pos {p : Prop} (h : p) : chk p = true := chk_iff.mpr h

/-! ## data, outcomes, slots -/
inductive D where
  | non
  | bl (b : Bool)
  | int (i : Int)
  | str (x : Str)
  | lst (l : List D)
  | tup (l : List D)
  | dct (l : List (Key × D))
  | ty (n : String)
structure Strm where
  cells : List Int := []
  left : Int := 0
  cnt : Int := 0
  mix : Int := 0
structure Xn where
  cls : Str
  fld : Option (Str × D)
inductive R (α : Type) where
  | ok (a : α)
  | exc (x : Xn) (s : Strm)
  | bad
@[simp, reducible] def R.bind {α β : Type} (r : R α) (k : α → R β) : R β := match r with
  | .ok a => k a
  | .exc x s => .exc x s
  | .bad => .bad
instance : Monad R where
  pure := R.ok
  bind := R.bind
@[simp] theorem bind_ok {α β : Type} (a : α) (k : α → R β) : (R.ok a >>= k) = k a := rfl
@[simp] theorem bind_exc {α β : Type} (x : Xn) (s : Strm) (k : α → R β) : (R.exc x s >>= k) = R.exc x s := rfl
@[simp] theorem bind_bad {α β : Type} (k : α → R β) : ((R.bad : R α) >>= k) = R.bad := rfl
@[simp] theorem pure_ok {α : Type} (a : α) : (pure a : R α) = R.ok a := rfl
def R.wp {α : Type} (r : R α) (P : α → Prop) (PX : Xn → Strm → Prop) : Prop := match r with
  | .ok a => P a
  | .exc x s => PX x s
  | .bad => False
theorem wp_bind {α β : Type} {r : R α} {k : α → R β} {P : β → Prop} {PX : Xn → Strm → Prop} (h : (r >>= k).wp P PX) : r.wp (fun a => (k a).wp P PX) PX := by
  cases r with
  | ok a => exact h
  | exc x s => exact h
  | bad => exact h
theorem wp_mono {α : Type} {r : R α} {P P' : α → Prop} {PX PX' : Xn → Strm → Prop} (h : r.wp P PX) (hp : ∀ a, P a → P' a) (hx : ∀ x s, PX x s → PX' x s) : r.wp P' PX' := by
  cases r with
  | ok a => exact hp a h
  | exc x s => exact hx x s h
  | bad => exact h
theorem wp_ok {α : Type} {a : α} {P : α → Prop} {PX : Xn → Strm → Prop} (h : (R.ok a).wp P PX) : P a := h

/-- a value that came: shared from now on, or new and known to nobody else -/
inductive TV where
  | sh (d : D)
  | ow (d : D)
@[simp, reducible] def TV.d : TV → D
  | .sh d => d
  | .ow d => d
/-- what a slot holds -/
inductive SV where
  | un
  | sh (d : D)
  | ow (d : D)
  | stm
@[simp, reducible] def TV.sv : TV → SV
  | .sh d => .sh d
  | .ow d => .ow d
abbrev Sl := List SV
abbrev DS := Sl × Strm

/-! ## values stand for data -/
mutual
inductive Rp (K : PySem.W.Frag) (S : Hp) : V → D → Prop
  | non : Rp K S .non .non
  | bl (b : Bool) : Rp K S (.bl b) (.bl b)
  | int (i : Int) : Rp K S (.int i) (.int i)
  | str (x : Str) : Rp K S (.str x) (.str x)
  | ty (n : String) : Rp K S (.ty n) (.ty n)
  | lst {a : Addr} {xs : List V} {ds : List D} : S a = some (.lst xs) → RpL K S xs ds → Rp K S (.ref a) (.lst ds)
  | tup {a : Addr} {xs : List V} {ds : List D} : SqT K S a xs → RpL K S xs ds → Rp K S (.ref a) (.tup ds)
  | dct {a : Addr} {kvs : List (Key × V)} {ds : List (Key × D)} : S a = some (.dK kvs) → RpK K S kvs ds → Rp K S (.ref a) (.dct ds)
inductive RpL (K : PySem.W.Frag) (S : Hp) : List V → List D → Prop
  | nil : RpL K S [] []
  | cons {v : V} {vs : List V} {d : D} {ds : List D} : Rp K S v d → RpL K S vs ds → RpL K S (v :: vs) (d :: ds)
inductive RpK (K : PySem.W.Frag) (S : Hp) : List (Key × V) → List (Key × D) → Prop
  | nil : RpK K S [] []
  | cons {k : Key} {v : V} {vs : List (Key × V)} {d : D} {ds : List (Key × D)} : Rp K S v d → RpK K S vs ds → RpK K S ((k, v) :: vs) ((k, d) :: ds)
end
section
variable {K : PySem.W.Frag} {S S' H H' : Hp}
theorem sqT_same {a : Addr} {xs : List V} (e : Same S S') (h : SqT K S a xs) : SqT K S' a xs := by
  rcases h with (h | ⟨o, h⟩) | h
  · exact .inl (.inl (e _ _ h))
  · exact .inl (.inr ⟨o, e _ _ h⟩)
  · exact .inr h
mutual
theorem Rp.mono (e : Same S S') : ∀ (d : D) {v : V}, Rp K S v d → Rp K S' v d
  | .non, _, h => by cases h; exact .non
  | .bl _, _, h => by cases h; exact .bl _
  | .int _, _, h => by cases h; exact .int _
  | .str _, _, h => by cases h; exact .str _
  | .ty _, _, h => by cases h; exact .ty _
  | .lst ds, _, h => by
    cases h with
    | lst h1 h2 => exact .lst (e _ _ h1) (RpL.mono e ds h2)
  | .tup ds, _, h => by
    cases h with
    | tup h1 h2 => exact .tup (sqT_same e h1) (RpL.mono e ds h2)
  | .dct ds, _, h => by
    cases h with
    | dct h1 h2 => exact .dct (e _ _ h1) (RpK.mono e ds h2)
theorem RpL.mono (e : Same S S') : ∀ (ds : List D) {vs : List V}, RpL K S vs ds → RpL K S' vs ds
  | [], _, h => by cases h; exact .nil
  | d :: ds, _, h => by
    cases h with
    | cons h1 h2 => exact .cons (Rp.mono e d h1) (RpL.mono e ds h2)
theorem RpK.mono (e : Same S S') : ∀ (ds : List (Key × D)) {vs : List (Key × V)}, RpK K S vs ds → RpK K S' vs ds
  | [], _, h => by cases h; exact .nil
  | (_, d) :: ds, _, h => by
    cases h with
    | cons h1 h2 => exact .cons (Rp.mono e d h1) (RpK.mono e ds h2)
end
theorem RpL.length : ∀ {vs : List V} {ds : List D}, RpL K S vs ds → vs.length = ds.length
  | _, _, .nil => rfl
  | _, _, .cons _ t => congrArg (· + 1) (RpL.length t)
theorem RpL.append : ∀ {vs ws : List V} {ds es : List D}, RpL K S vs ds → RpL K S ws es → RpL K S (vs ++ ws) (ds ++ es)
  | _, _, _, _, .nil, s => s
  | _, _, _, _, .cons r t, s => .cons r (RpL.append t s)
theorem RpL.snoc {vs : List V} {ds : List D} {v : V} {d : D} (h : RpL K S vs ds) (r : Rp K S v d) : RpL K S (vs ++ [v]) (ds ++ [d]) := h.append (.cons r .nil)
theorem RpL.get : ∀ {vs : List V} {ds : List D} {i : Nat} {d : D}, RpL K S vs ds → ds[i]? = some d → ∃ v, vs[i]? = some v ∧ Rp K S v d
  | _, _, _, _, .nil, e => by simp at e
  | _, _, 0, _, .cons r _, e => by simp at e; subst e; exact ⟨_, rfl, r⟩
  | _, _, i + 1, d, .cons _ t, e => by
    obtain ⟨v, h1, h2⟩ := RpL.get (i := i) (d := d) t (by simpa using e)
    exact ⟨v, by simpa using h1, h2⟩
theorem RpL.getV : ∀ {vs : List V} {ds : List D} {i : Nat} {v : V}, RpL K S vs ds → vs[i]? = some v → ∃ d, ds[i]? = some d ∧ Rp K S v d
  | _, _, _, _, .nil, e => by simp at e
  | _, _, 0, _, .cons r _, e => by simp at e; subst e; exact ⟨_, rfl, r⟩
  | _, _, i + 1, v, .cons _ t, e => by
    obtain ⟨d, h1, h2⟩ := RpL.getV (i := i) (v := v) t (by simpa using e)
    exact ⟨d, by simpa using h1, h2⟩
theorem RpL.take : ∀ {vs : List V} {ds : List D} (n : Nat), RpL K S vs ds → RpL K S (vs.take n) (ds.take n)
  | _, _, 0, _ => .nil
  | _, _, _ + 1, .nil => .nil
  | _, _, n + 1, .cons r t => .cons r (RpL.take n t)
theorem RpL.drop : ∀ {vs : List V} {ds : List D} (n : Nat), RpL K S vs ds → RpL K S (vs.drop n) (ds.drop n)
  | _, _, 0, r => r
  | _, _, _ + 1, .nil => .nil
  | _, _, n + 1, .cons _ t => RpL.drop n t
theorem RpL.set {v : V} {d : D} (r : Rp K S v d) : ∀ {vs : List V} {ds : List D} (i : Nat), RpL K S vs ds → RpL K S (vs.set i v) (ds.set i d)
  | _, _, _, .nil => .nil
  | _, _, 0, .cons _ t => .cons r t
  | _, _, i + 1, .cons q t => .cons q (RpL.set r i t)
theorem RpL.reverse {vs : List V} {ds : List D} (h : RpL K S vs ds) : RpL K S vs.reverse ds.reverse := by
  induction h using RpL.rec (motive_1 := fun _ _ _ => True) (motive_3 := fun _ _ _ => True) with
  | nil => exact .nil
  | cons r t _ ih => rw [List.reverse_cons, List.reverse_cons]; exact ih.snoc r
  | _ => trivial
theorem RpL.eraseIdx : ∀ {vs : List V} {ds : List D} (i : Nat), RpL K S vs ds → RpL K S (vs.eraseIdx i) (ds.eraseIdx i)
  | _, _, _, .nil => .nil
  | _, _, 0, .cons _ t => t
  | _, _, i + 1, .cons r t => .cons r (RpL.eraseIdx i t)
theorem RpL.rep {vs : List V} {ds : List D} (h : RpL K S vs ds) : ∀ k : Nat, RpL K S (List.replicate k vs).flatten (List.replicate k ds).flatten
  | 0 => .nil
  | k + 1 => by
    rw [List.replicate_succ, List.replicate_succ, List.flatten_cons, List.flatten_cons]
    exact h.append (RpL.rep h k)
theorem RpL.ints : ∀ {vs : List V} {ns : List Int}, RpL K S vs (ns.map D.int) → vs = ns.map V.int
  | _, [], h => by cases h; rfl
  | _, n :: ns, h => by
    cases h with
    | cons h1 h2 => cases h1; rw [RpL.ints h2]; rfl
theorem RpL.of_ints : ∀ (ns : List Int), RpL K S (ns.map V.int) (ns.map D.int)
  | [] => .nil
  | n :: ns => .cons (.int n) (RpL.of_ints ns)
end

/-! ## the frame: what others hold, the stream -/
structure Frm where
  prot : Hp
  pq : Option (Addr × Addr)
def StAt (H : Hp) (p q : Addr) (st : Strm) : Prop := H p = some (.lst [.ref q, .int st.left, .int st.cnt, .int st.mix]) ∧ H q = some (.lst (st.cells.map V.int)) ∧ p ≠ q
structure FrOk (fr : Frm) (S H : Hp) (st : Strm) : Prop where
  sub : Same S H
  prt : Same fr.prot H
  stm : ∀ p q, fr.pq = some (p, q) → StAt H p q st ∧ S p = none ∧ S q = none ∧ fr.prot p = none ∧ fr.prot q = none
structure Grow (fr : Frm) (S S' : Hp) : Prop where
  sub : Same S S'
  off : ∀ b o, fr.prot b = some o → S b = none → S' b = none
theorem Grow.refl (fr : Frm) (S : Hp) : Grow fr S S := ⟨Same.refl S, fun _ _ _ h => h⟩
theorem Grow.trans {fr : Frm} {S S1 S2 : Hp} (a : Grow fr S S1) (b : Grow fr S1 S2) : Grow fr S S2 :=
  ⟨a.sub.trans b.sub, fun c o h n => b.off c o h (a.off c o h n)⟩
inductive OwnO (K : PySem.W.Frag) (S : Hp) : HO → D → Prop
  | lst {xs : List V} {ds : List D} : RpL K S xs ds → OwnO K S (.lst xs) (.lst ds)
  | dct {kvs : List (Key × V)} {ds : List (Key × D)} : RpK K S kvs ds → OwnO K S (.dK kvs) (.dct ds)
theorem OwnO.mono {K : PySem.W.Frag} {S S' : Hp} {ho : HO} {d : D} (e : Same S S') (h : OwnO K S ho d) : OwnO K S' ho d := by
  cases h with
  | lst r => exact .lst (RpL.mono e _ r)
  | dct r => exact .dct (RpK.mono e _ r)
structure Own (K : PySem.W.Frag) (fr : Frm) (S H : Hp) (a : Addr) (d : D) : Prop where
  at_ : ∃ ho, H a = some ho ∧ OwnO K S ho d
  offS : S a = none
  offP : fr.prot a = none
  offQ : ∀ p q, fr.pq = some (p, q) → a ≠ p ∧ a ≠ q
def SlotOk (K : PySem.W.Frag) (fr : Frm) (S H : Hp) (o : Option V) : SV → Prop
  | .un => True
  | .sh d => ∃ v, o = some v ∧ Rp K S v d
  | .ow d => ∃ a, o = some (.ref a) ∧ Own K fr S H a d
  | .stm => ∃ p q, fr.pq = some (p, q) ∧ o = some (.ref p)
structure Rel (K : PySem.W.Frag) (fr : Frm) (S : Hp) (σ : L2.St) (H : Hp) (Δ : DS) : Prop where
  fro : FrOk fr S H Δ.2
  len : σ.length = Δ.1.length
  slot : ∀ (i : Nat) (s : SV), Δ.1[i]? = some s → ∃ o, σ[i]? = some o ∧ SlotOk K fr S H o s
  dist : ∀ (i j : Nat) (a : Addr) (d e : D), Δ.1[i]? = some (.ow d) → Δ.1[j]? = some (.ow e) → σ[i]? = some (some (.ref a)) → σ[j]? = some (some (.ref a)) → i = j
/-- no slot owns what stands at a -/
def NoSlot (σ : L2.St) (g : Sl) (a : Addr) : Prop := ∀ (i : Nat) (d : D), g[i]? = some (.ow d) → σ[i]? ≠ some (some (.ref a))
inductive TvOk (K : PySem.W.Frag) (fr : Frm) (S H : Hp) (σ : L2.St) (g : Sl) : V → TV → Prop
  | sh {v : V} {d : D} : Rp K S v d → TvOk K fr S H σ g v (.sh d)
  | ow {a : Addr} {d : D} : Own K fr S H a d → NoSlot σ g a → TvOk K fr S H σ g (.ref a) (.ow d)

/-! ## exceptions -/
def RpX (K : PySem.W.Frag) (mg : Str → Option Value) (S H : Hp) (cls : Value) (xd : Option Addr) (x : Xn) : Prop :=
  mg x.cls = some cls ∧ match x.fld with
    | none => True
    | some (f, d) => ∃ a v, xd = some a ∧ H a = some (.xd [(f, v)]) ∧ Rp K S v d
def XP (K : PySem.W.Frag) (mg : Str → Option Value) (fr : Frm) (S : Hp) (E : XK) (x : Xn) (st : Strm) : Prop :=
  ∀ S' H' cls xd, Grow fr S S' → FrOk fr S' H' st → RpX K mg S' H' cls xd x → E cls xd H'
theorem XP.grow {K : PySem.W.Frag} {mg : Str → Option Value} {fr : Frm} {S S1 : Hp} {E : XK} {x : Xn} {st : Strm} (g : Grow fr S S1) (h : XP K mg fr S E x st) : XP K mg fr S1 E x st :=
  fun S' H' cls xd g' f r => h S' H' cls xd (g.trans g') f r

/-! ## judgements -/
/-- an expression whose value is shared -/
def DE (X : Cx) (E : XK) (e : Expr) (f : DS → R (D × DS)) : Prop := ∃ t, PE X e t ∧ ∀ fr S H σ Δ Q, Rel X.K fr S σ H Δ →
  (f Δ).wp (fun r => ∀ S' H' v, Grow fr S S' → Rel X.K fr S' σ H' r.2 → Rp X.K S' v r.1 → Q v H') (XP X.K X.mg fr S E) → t σ H Q
/-- one whose value may be new -/
def DO (X : Cx) (E : XK) (e : Expr) (f : DS → R (TV × DS)) : Prop := ∃ t, PE X e t ∧ ∀ fr S H σ Δ Q, Rel X.K fr S σ H Δ →
  (f Δ).wp (fun r => ∀ S' H' v, Grow fr S S' → Rel X.K fr S' σ H' r.2 → TvOk X.K fr S' H' σ r.2.1 v r.1 → Q v H') (XP X.K X.mg fr S E) → t σ H Q
/-- a test -/
def DT (X : Cx) (E : XK) (e : Expr) (f : DS → R (Bool × DS)) : Prop := ∃ t, PT X e t ∧ ∀ fr S H σ Δ Q, Rel X.K fr S σ H Δ →
  (f Δ).wp (fun r => ∀ S' H', Grow fr S S' → Rel X.K fr S' σ H' r.2 → Q r.1 H') (XP X.K X.mg fr S E) → t σ H Q
def DW (X : Cx) (E : XK) (e : Expr) (f : DS → R (Bool × DS)) : Prop := ∃ t, PW X e t ∧ ∀ fr S H σ Δ Q, Rel X.K fr S σ H Δ →
  (f Δ).wp (fun r => ∀ S' H', Grow fr S S' → Rel X.K fr S' σ H' r.2 → Q r.1 H') (XP X.K X.mg fr S E) → t σ H Q
/-- arguments -/
def DA (X : Cx) (E : XK) (es : List Expr) (f : DS → R (List D × DS)) : Prop := ∃ t, PA X es t ∧ ∀ fr S H σ Δ Q, Rel X.K fr S σ H Δ →
  (f Δ).wp (fun r => ∀ S' H' vs, Grow fr S S' → Rel X.K fr S' σ H' r.2 → RpL X.K S' vs r.1 → Q vs H') (XP X.K X.mg fr S E) → t σ H Q

/-! ## steps of the relation -/
section
variable {K : PySem.W.Frag} {fr : Frm} {S S' H H' : Hp} {σ : L2.St} {Δ : DS}
theorem same_off {a : Addr} {o : HO} (e : Same S H) (n : S a = none) : Same S (upd H a o) := fun b u h => by
  rw [upd_ne (ne_of_none h n)]
  exact e b u h
theorem same_new {p : Addr} {o : HO} (h : H p = none) : Same H (upd H p o) := fun b u e => by
  rw [upd_ne (ne_of_none e h)]
  exact e
theorem StAt.ne {p q a : Addr} {o : HO} {st : Strm} (h : StAt H p q st) (n1 : a ≠ p) (n2 : a ≠ q) : StAt (upd H a o) p q st :=
  ⟨by rw [upd_ne n1.symm]; exact h.1, by rw [upd_ne n2.symm]; exact h.2.1, h.2.2⟩
theorem SlotOk.keep {o : Option V} {s : SV} (g : Same S S') (hH : ∀ a d, s = .ow d → o = some (.ref a) → H' a = H a ∧ S' a = none) (h : SlotOk K fr S H o s) : SlotOk K fr S' H' o s := by
  cases s with
  | un => exact trivial
  | sh d => obtain ⟨v, e, r⟩ := h; exact ⟨v, e, Rp.mono g d r⟩
  | ow d =>
    obtain ⟨a, e, ⟨ho, h1, h2⟩, w1, w2, w3⟩ := h
    obtain ⟨z1, z2⟩ := hH a d rfl e
    exact ⟨a, e, ⟨ho, z1.trans h1, h2.mono g⟩, z2, w2, w3⟩
  | stm => exact h
/-- the address of an owning slot is none of a free address -/
theorem Rel.own (r : Rel K fr S σ H Δ) {i : Nat} {d : D} (h : Δ.1[i]? = some (.ow d)) : ∃ a, σ[i]? = some (some (.ref a)) ∧ Own K fr S H a d := by
  obtain ⟨o, e, a, e2, w⟩ := r.slot i _ h
  exact ⟨a, by rw [e, e2], w⟩
/-- a new object at p comes into the shared part -/
theorem Rel.laid (r : Rel K fr S σ H Δ) {p : Addr} {o : HO} (n : H p = none) : Rel K fr (upd S p o) σ (upd H p o) Δ ∧ Grow fr S (upd S p o) := by
  have nS : S p = none := Same.free r.fro.sub n
  have nP : fr.prot p = none := Same.free r.fro.prt n
  have g : Grow fr S (upd S p o) := ⟨same_new nS, fun b u e q => by rw [upd_ne (ne_of_none e nP)]; exact q⟩
  refine ⟨⟨⟨fun b u e => ?_, same_off r.fro.prt nP, fun a q e => ?_⟩, r.len, fun i s e => ?_, r.dist⟩, g⟩
  · by_cases hb : b = p
    · subst hb
      rw [upd_same] at e ⊢
      exact e
    · rw [upd_ne hb] at e ⊢
      exact r.fro.sub b u e
  · obtain ⟨h1, h2, h3, h4, h5⟩ := r.fro.stm a q e
    have na : p ≠ a := (ne_of_none h1.1 n).symm
    have nq : p ≠ q := (ne_of_none h1.2.1 n).symm
    exact ⟨h1.ne na nq, by rw [upd_ne na.symm]; exact h2, by rw [upd_ne nq.symm]; exact h3, h4, h5⟩
  · obtain ⟨u, e1, h1⟩ := r.slot i s e
    refine ⟨u, e1, h1.keep g.sub fun a d hs ho => ?_⟩
    obtain ⟨b, e2, w⟩ := r.own (hs ▸ e)
    rw [e1, ho] at e2
    cases e2
    obtain ⟨ho', h2, _⟩ := w.at_
    exact ⟨upd_ne (ne_of_none h2 n), by rw [upd_ne (ne_of_none h2 n)]; exact w.offS⟩
/-- a new object that stays out of the shared part -/
theorem Rel.beside (r : Rel K fr S σ H Δ) {p : Addr} {o : HO} (n : H p = none) : Rel K fr S σ (upd H p o) Δ := by
  have nS : S p = none := Same.free r.fro.sub n
  have nP : fr.prot p = none := Same.free r.fro.prt n
  refine ⟨⟨same_off r.fro.sub nS, same_off r.fro.prt nP, fun a q e => ?_⟩, r.len, fun i s e => ?_, r.dist⟩
  · obtain ⟨h1, h2, h3, h4, h5⟩ := r.fro.stm a q e
    exact ⟨h1.ne (ne_of_none h1.1 n).symm (ne_of_none h1.2.1 n).symm, h2, h3, h4, h5⟩
  · obtain ⟨u, e1, h1⟩ := r.slot i s e
    refine ⟨u, e1, h1.keep (Same.refl S) fun a d hs ho => ?_⟩
    obtain ⟨b, e2, w⟩ := r.own (hs ▸ e)
    rw [e1, ho] at e2
    cases e2
    obtain ⟨ho', h2, _⟩ := w.at_
    exact ⟨upd_ne (ne_of_none h2 n), w.offS⟩
/-- .. and is new to all -/
theorem Rel.newOwn (r : Rel K fr S σ H Δ) {p : Addr} {o : HO} {d : D} (n : H p = none) (h : OwnO K S o d) : Own K fr S (upd H p o) p d ∧ NoSlot σ Δ.1 p := by
  refine ⟨⟨⟨o, upd_same, h⟩, Same.free r.fro.sub n, Same.free r.fro.prt n, fun a q e => ?_⟩, fun i d' e z => ?_⟩
  · obtain ⟨h1, _⟩ := r.fro.stm a q e
    exact ⟨(ne_of_none h1.1 n).symm, (ne_of_none h1.2.1 n).symm⟩
  · obtain ⟨b, e2, w⟩ := r.own e
    rw [z] at e2
    cases e2
    obtain ⟨ho', h2, _⟩ := w.at_
    rw [n] at h2
    cases h2
/-- what was owned by nobody is shared from now on -/
theorem Rel.freeze (r : Rel K fr S σ H Δ) {a : Addr} {d : D} (w : Own K fr S H a d) (ns : NoSlot σ Δ.1 a) : ∃ S', Grow fr S S' ∧ Rel K fr S' σ H Δ ∧ Rp K S' (.ref a) d := by
  obtain ⟨ho, h1, h2⟩ := w.at_
  have g : Grow fr S (upd S a ho) := ⟨same_new w.offS, fun b u e q => by rw [upd_ne (ne_of_none e w.offP)]; exact q⟩
  refine ⟨upd S a ho, g, ⟨⟨fun b u e => ?_, r.fro.prt, fun p q e => ?_⟩, r.len, fun i s e => ?_, r.dist⟩, ?_⟩
  · by_cases hb : b = a
    · subst hb
      rw [upd_same] at e
      rw [h1]
      exact e
    · rw [upd_ne hb] at e
      exact r.fro.sub b u e
  · obtain ⟨z1, z2, z3, z4, z5⟩ := r.fro.stm p q e
    obtain ⟨n1, n2⟩ := w.offQ p q e
    exact ⟨z1, by rw [upd_ne n1.symm]; exact z2, by rw [upd_ne n2.symm]; exact z3, z4, z5⟩
  · obtain ⟨u, e1, q1⟩ := r.slot i s e
    refine ⟨u, e1, q1.keep g.sub fun b d' hs ho' => ⟨rfl, ?_⟩⟩
    obtain ⟨b', e2, w'⟩ := r.own (hs ▸ e)
    rw [e1, ho'] at e2
    cases e2
    have nb : b ≠ a := fun z => by
      subst z
      exact ns i d' (hs ▸ e) (by rw [e1, ho'])
    rw [upd_ne nb]
    exact w'.offS
  · cases h2 with
    | lst q => exact .lst upd_same (RpL.mono g.sub _ q)
    | dct q => exact .dct upd_same (RpK.mono g.sub _ q)
/-- a slot that owned is forgotten, or holds other things -/
theorem Rel.setSlot (r : Rel K fr S σ H Δ) {i : Nat} {s : SV} {o : Option V} (h : SlotOk K fr S H o s) (ns : ∀ d a, s = .ow d → o = some (.ref a) → NoSlot σ Δ.1 a) : Rel K fr S (σ.set i o) H (Δ.1.set i s, Δ.2) := by
  refine ⟨r.fro, by simp [r.len], fun j u e => ?_, fun j k a d e h1 h2 h3 h4 => ?_⟩
  · by_cases hj : i = j
    · subst hj
      by_cases hl : i < Δ.1.length
      · rw [show (Δ.1.set i s, Δ.2).1 = Δ.1.set i s from rfl, List.getElem?_set_self hl] at e
        cases e
        exact ⟨o, by rw [List.getElem?_set_self (by rw [r.len]; exact hl)], h⟩
      · rw [show (Δ.1.set i s, Δ.2).1 = Δ.1.set i s from rfl, List.getElem?_eq_none (by simpa using hl)] at e
        cases e
    · rw [show (Δ.1.set i s, Δ.2).1 = Δ.1.set i s from rfl, List.getElem?_set_ne hj] at e
      rw [List.getElem?_set_ne hj]
      exact r.slot j u e
  · have h1 : (Δ.1.set i s)[j]? = some (.ow d) := h1
    have h2 : (Δ.1.set i s)[k]? = some (.ow e) := h2
    have own_new : ∀ {m : Nat} {d' : D}, i = m → (Δ.1.set i s)[m]? = some (.ow d') → (σ.set i o)[m]? = some (some (.ref a)) → s = .ow d' ∧ o = some (.ref a) := fun {m d'} em q1 q2 => by
      subst em
      have hl : i < Δ.1.length := by
        by_cases hl : i < Δ.1.length
        · exact hl
        · rw [List.getElem?_eq_none (by simpa using hl)] at q1
          cases q1
      rw [List.getElem?_set_self hl] at q1
      rw [List.getElem?_set_self (by rw [r.len]; exact hl)] at q2
      exact ⟨Option.some.inj q1, Option.some.inj q2⟩
    by_cases hj : i = j
    · by_cases hk : i = k
      · rw [← hj, ← hk]
      · obtain ⟨es, eo⟩ := own_new hj h1 h3
        rw [List.getElem?_set_ne hk] at h2 h4
        exact absurd h4 (ns d a es eo k e h2)
    · by_cases hk : i = k
      · obtain ⟨es, eo⟩ := own_new hk h2 h4
        rw [List.getElem?_set_ne hj] at h1 h3
        exact absurd h3 (ns e a es eo j d h1)
      · rw [List.getElem?_set_ne hj] at h1 h3
        rw [List.getElem?_set_ne hk] at h2 h4
        exact r.dist j k a d e h1 h2 h3 h4
/-- reading a slot: an owning one shares from now on -/
theorem Rel.share (r : Rel K fr S σ H Δ) {i : Nat} {d : D} (h : Δ.1[i]? = some (.ow d)) : ∃ S' v, Grow fr S S' ∧ Rel K fr S' σ H (Δ.1.set i (.sh d), Δ.2) ∧ σ[i]? = some (some v) ∧ Rp K S' v d := by
  obtain ⟨a, e, w⟩ := r.own h
  have r1 : Rel K fr S (σ.set i (some (.ref a))) H (Δ.1.set i .un, Δ.2) := r.setSlot (s := .un) trivial (fun d a z => by cases z)
  have es : σ.set i (some (.ref a)) = σ := by
    apply List.ext_getElem?
    intro j
    by_cases hj : i = j
    · subst hj
      rw [e]
      exact List.getElem?_set_self (List.getElem?_eq_some_iff.mp e).1
    · rw [List.getElem?_set_ne hj]
  rw [es] at r1
  have hl : i < Δ.1.length := (List.getElem?_eq_some_iff.mp h).1
  have ns : NoSlot σ (Δ.1.set i .un) a := fun j d' q z => by
    by_cases hj : i = j
    · subst hj
      rw [List.getElem?_set_self hl] at q
      cases q
    · rw [List.getElem?_set_ne hj] at q
      exact hj (r.dist i j a d d' h q e z)
  obtain ⟨S', g, r2, rp⟩ := r1.freeze w ns
  have r3 := r2.setSlot (i := i) (s := .sh d) (o := some (.ref a)) ⟨_, rfl, rp⟩ (fun d a z => by cases z)
  rw [es] at r3
  refine ⟨S', _, g, ?_, e, rp⟩
  simp only [List.set_set] at r3
  exact r3
end
end DL
namespace DL
open PySem PySem.Spec PyProof.Rows L2

/-! ## expressions -/
section
variable {X : Cx} {E : XK} {e a b c : Expr} {es : List Expr} {pos : Pos}
@[simp, reducible] def fC (d : D) : DS → R (D × DS) := fun Δ => .ok (d, Δ)
@[simp, reducible] def fVar (i : Nat) : DS → R (D × DS) := fun Δ => match Δ.1[i]? with
  | some (.sh d) => .ok (d, Δ)
  | some (.ow d) => .ok (d, (Δ.1.set i (.sh d), Δ.2))
  | _ => .bad
@[simp, reducible] def fSh (f : DS → R (D × DS)) : DS → R (TV × DS) := fun Δ => f Δ >>= fun r => .ok (.sh r.1, r.2)
@[simp, reducible] def fFz (f : DS → R (TV × DS)) : DS → R (D × DS) := fun Δ => f Δ >>= fun r => .ok (r.1.d, r.2)

theorem DE.o {f : DS → R (D × DS)} (h : DE X E e f) : DO X E e (fSh f) := by
  obtain ⟨t, p, h⟩ := h
  refine ⟨t, p, fun fr S H σ Δ Q r w => h fr S H σ Δ Q r (wp_mono (wp_bind w) (fun x q S' H' v g r' rp => ?_) fun _ _ z => z)⟩
  exact wp_ok q S' H' v g r' (.sh rp)
theorem DO.fz {f : DS → R (TV × DS)} (h : DO X E e f) : DE X E e (fFz f) := by
  obtain ⟨t, p, h⟩ := h
  refine ⟨t, p, fun fr S H σ Δ Q r w => h fr S H σ Δ Q r (wp_mono (wp_bind w) (fun x q S' H' v g r' tv => ?_) fun _ _ z => z)⟩
  obtain ⟨tv0, Δ'⟩ := x
  cases tv with
  | sh rp => exact wp_ok q S' H' v g r' rp
  | ow w0 ns =>
    obtain ⟨S2, g2, r2, rp⟩ := r'.freeze w0 ns
    exact wp_ok q S2 H' _ (g.trans g2) r2 rp
theorem de_var (i : Nat) {x : Str} (hN : X.N[i]? = some x := by rfl) (hv : Vis X.env.scope x := by first | exact Or.inl rfl | exact Or.inr (Or.inl rfl) | exact Or.inr (Or.inr rfl)) (hd : (x == ("__debug__" : Str)) = false := by decide)
    (hcd : (x == ("__classdict__" : Str)) = false := by decide) : DE X E (.Name x pos) (fVar i) := by
  refine ⟨_, pv i hN hv hd hcd, fun fr S H σ Δ Q r w => ?_⟩
  unfold fVar at w
  cases q : Δ.1[i]? with
  | none => rw [q] at w; exact w.elim
  | some s =>
    rw [q] at w
    cases s with
    | un => exact w.elim
    | stm => exact w.elim
    | sh d =>
      obtain ⟨o, e1, v, e2, rp⟩ := r.slot i _ q
      exact ⟨v, by rw [e1, e2], wp_ok w S H v (Grow.refl fr S) r rp⟩
    | ow d =>
      obtain ⟨S', v, g, r', e1, rp⟩ := r.share q
      exact ⟨v, e1, wp_ok w S' H v g r' rp⟩
theorem de_int {i : Int} {j : Nat} : DE X E (.Constant (.int i) j pos) (fC (.int i)) := ⟨_, pe_int, fun fr S H σ Δ Q r w => wp_ok w S H _ (Grow.refl fr S) r (.int i)⟩
theorem de_bl {b : Bool} {j : Nat} : DE X E (.Constant (.bool b) j pos) (fC (.bl b)) := ⟨_, pe_bl, fun fr S H σ Δ Q r w => wp_ok w S H _ (Grow.refl fr S) r (.bl b)⟩
theorem de_non {j : Nat} : DE X E (.Constant .none j pos) (fC .non) := ⟨_, pe_non, fun fr S H σ Δ Q r w => wp_ok w S H _ (Grow.refl fr S) r .non⟩
theorem de_str {x : Str} {j : Nat} : DE X E (.Constant (.str x) j pos) (fC (.str x)) := ⟨_, pe_str, fun fr S H σ Δ Q r w => wp_ok w S H _ (Grow.refl fr S) r (.str x)⟩
/-- a built-in class as a value -/
theorem de_ty {x : Str} {n : String} (hg : Gl X x) (hm : X.mg x = none) (hv : bootBuiltins x = some (.type n)) (hn : x ≠ "__name__" := by decide) (hd : (x == ("__debug__" : Str)) = false := by decide) : DE X E (.Name x pos) (fC (.ty n)) :=
  ⟨_, pe_bltn (v := .ty n) hg hm hv rfl hn hd, fun fr S H σ Δ Q r w => wp_ok w S H _ (Grow.refl fr S) r (.ty n)⟩
end

/-! ## operators by values -/
def oWp {α : Type} (o : Option α) (P : α → Prop) : Prop := match o with
  | some a => P a
  | none => False
@[simp, reducible] def R.of {α : Type} (o : Option α) : R α := match o with
  | some a => .ok a
  | none => .bad
theorem of_wp {α : Type} {o : Option α} {P : α → Prop} {PX : Xn → Strm → Prop} (h : (R.of o).wp P PX) : oWp o P := by
  cases o with
  | some a => exact h
  | none => exact h
theorem oWp_mono {α : Type} {o : Option α} {P P' : α → Prop} (h : oWp o P) (k : ∀ a, P a → P' a) : oWp o P' := by
  cases o with
  | some a => exact k a h
  | none => exact h
theorem oWp_some {α : Type} {a : α} {P : α → Prop} (h : oWp (some a) P) : P a := h
/-- what a rule by values must reach -/
abbrev Reach (K : PySem.W.Frag) (fr : Frm) (S : Hp) (σ : L2.St) (Δ : DS) (Q : VK) : TV → Prop := fun tv => ∀ S' H' v, Grow fr S S' → Rel K fr S' σ H' Δ → TvOk K fr S' H' σ Δ.1 v tv → Q v H'
def OpD (X : Cx) (op : Value → Value → Sem Value) (g : D → D → Option TV) : Prop := ∃ r : R2, OpR X op r ∧ ∀ fr S H σ Δ x y d e Q, Rel X.K fr S σ H Δ → Rp X.K S x d → Rp X.K S y e → oWp (g d e) (Reach X.K fr S σ Δ Q) → r x y H Q
def UnD (X : Cx) (op : Value → Sem Value) (g : D → Option TV) : Prop := ∃ r : V → Hp → VK → Prop, UnR X op r ∧ ∀ fr S H σ Δ x d Q, Rel X.K fr S σ H Δ → Rp X.K S x d → oWp (g d) (Reach X.K fr S σ Δ Q) → r x H Q
def CallD (X : Cx) (f : Value) (g : List D → Option TV) : Prop := ∃ r, CallR X f r ∧ ∀ fr S H σ Δ vs ds Q, Rel X.K fr S σ H Δ → RpL X.K S vs ds → oWp (g ds) (Reach X.K fr S σ Δ Q) → r vs H Q
def MtD (X : Cx) (T id : String) (g : D → List D → Option TV) : Prop := ∃ r, MtR X id r ∧ ∀ fr S H σ Δ x d vs ds Q, Rel X.K fr S σ H Δ → Rp X.K S x d → RpL X.K S vs ds → oWp (g d ds) (Reach X.K fr S σ Δ Q) → r x vs H Q
def IxD (X : Cx) (g : D → D → Option TV) : Prop := ∃ r : R2, IxR X r ∧ ∀ fr S H σ Δ x y d e Q, Rel X.K fr S σ H Δ → Rp X.K S x d → Rp X.K S y e → oWp (g d e) (Reach X.K fr S σ Δ Q) → r x y H Q
def SlD (X : Cx) (g : D → Option Int → Option Int → Option TV) : Prop := ∃ r, SlR X r ∧ ∀ fr S H σ Δ x d lo hi Q, Rel X.K fr S σ H Δ → Rp X.K S x d → oWp (g d lo hi) (Reach X.K fr S σ Δ Q) → r x lo hi H Q
/-- the first way, or else the second -/
@[simp, reducible] def oEls {α : Type} (a b : Option α) : Option α := match a with
  | none => b
  | some r => some r
theorem els_wp {α : Type} {a b : Option α} {P : α → Prop} (h : oWp (oEls a b) P) : oWp a P ∨ oWp b P := by
  cases a with
  | some x => exact .inl h
  | none => exact .inr h
section
variable {X : Cx}
theorem OpD.or {op : Value → Value → Sem Value} {g g' : D → D → Option TV} (h : OpD X op g) (h' : OpD X op g') : OpD X op (fun d e => oEls (g d e) (g' d e)) := by
  obtain ⟨r, h1, h2⟩ := h
  obtain ⟨r', h3, h4⟩ := h'
  refine ⟨_, h1.or h3, fun fr S H σ Δ x y d e Q rl rx ry w => ?_⟩
  rcases els_wp w with w | w
  · exact .inl (h2 fr S H σ Δ x y d e Q rl rx ry w)
  · exact .inr (h4 fr S H σ Δ x y d e Q rl rx ry w)
theorem IxD.or {g g' : D → D → Option TV} (h : IxD X g) (h' : IxD X g') : IxD X (fun d e => oEls (g d e) (g' d e)) := by
  obtain ⟨r, h1, h2⟩ := h
  obtain ⟨r', h3, h4⟩ := h'
  refine ⟨_, h1.or h3, fun fr S H σ Δ x y d e Q rl rx ry w => ?_⟩
  rcases els_wp w with w | w
  · exact .inl (h2 fr S H σ Δ x y d e Q rl rx ry w)
  · exact .inr (h4 fr S H σ Δ x y d e Q rl rx ry w)
theorem SlD.or {g g' : D → Option Int → Option Int → Option TV} (h : SlD X g) (h' : SlD X g') : SlD X (fun d i j => oEls (g d i j) (g' d i j)) := by
  obtain ⟨r, h1, h2⟩ := h
  obtain ⟨r', h3, h4⟩ := h'
  refine ⟨_, h1.or h3, fun fr S H σ Δ x d lo hi Q rl rx w => ?_⟩
  rcases els_wp w with w | w
  · exact .inl (h2 fr S H σ Δ x d lo hi Q rl rx w)
  · exact .inr (h4 fr S H σ Δ x d lo hi Q rl rx w)
theorem CallD.or {f : Value} {g g' : List D → Option TV} (h : CallD X f g) (h' : CallD X f g') : CallD X f (fun ds => oEls (g ds) (g' ds)) := by
  obtain ⟨r, h1, h2⟩ := h
  obtain ⟨r', h3, h4⟩ := h'
  refine ⟨_, h1.or h3, fun fr S H σ Δ vs ds Q rl rv w => ?_⟩
  rcases els_wp w with w | w
  · exact .inl (h2 fr S H σ Δ vs ds Q rl rv w)
  · exact .inr (h4 fr S H σ Δ vs ds Q rl rv w)
end

section
variable {X : Cx} {E : XK} {e a b c : Expr} {es rest : List Expr} {pos : Pos} {fa fb fc : DS → R (D × DS)} {ft fu : DS → R (Bool × DS)} {fl : DS → R (List D × DS)}
@[simp, reducible] def fBin (g : D → D → Option TV) (fa fb : DS → R (D × DS)) : DS → R (TV × DS) := fun Δ => fa Δ >>= fun p => fb p.2 >>= fun q => R.of (g p.1 q.1) >>= fun v => .ok (v, q.2)
@[simp, reducible] def fUn (g : D → Option TV) (fa : DS → R (D × DS)) : DS → R (TV × DS) := fun Δ => fa Δ >>= fun p => R.of (g p.1) >>= fun v => .ok (v, p.2)
/-- two operands in a row, then a rule by values -/
theorem two_run {ta tb : TE} {r : R2} {g : D → D → Option TV} (ha : ∀ fr S H σ Δ Q, Rel X.K fr S σ H Δ → (fa Δ).wp (fun r => ∀ S' H' v, Grow fr S S' → Rel X.K fr S' σ H' r.2 → Rp X.K S' v r.1 → Q v H') (XP X.K X.mg fr S E) → ta σ H Q)
    (hb : ∀ fr S H σ Δ Q, Rel X.K fr S σ H Δ → (fb Δ).wp (fun r => ∀ S' H' v, Grow fr S S' → Rel X.K fr S' σ H' r.2 → Rp X.K S' v r.1 → Q v H') (XP X.K X.mg fr S E) → tb σ H Q)
    (hr : ∀ fr S H σ Δ x y d e Q, Rel X.K fr S σ H Δ → Rp X.K S x d → Rp X.K S y e → oWp (g d e) (Reach X.K fr S σ Δ Q) → r x y H Q)
    {fr : Frm} {S H : Hp} {σ : L2.St} {Δ : DS} {Q : VK} (rl : Rel X.K fr S σ H Δ)
    (w : (fBin g fa fb Δ).wp (fun r => ∀ S' H' v, Grow fr S S' → Rel X.K fr S' σ H' r.2 → TvOk X.K fr S' H' σ r.2.1 v r.1 → Q v H') (XP X.K X.mg fr S E)) : tOp r ta tb σ H Q := by
  refine ha fr S H σ Δ _ rl (wp_mono (wp_bind w) (fun p w1 S1 H1 v g1 r1 rv => ?_) fun _ _ z => z)
  refine hb fr S1 H1 σ p.2 _ r1 (wp_mono (wp_bind w1) (fun q w2 S2 H2 u g2 r2 ru => ?_) fun _ _ z => z.grow g1)
  refine hr fr S2 H2 σ q.2 v u p.1 q.1 Q r2 (Rp.mono g2.sub _ rv) ru (oWp_mono (of_wp (wp_bind w2)) fun tv w3 S3 H3 z g3 r3 tz => ?_)
  exact wp_ok w3 S3 H3 z (g1.trans (g2.trans g3)) r3 tz
theorem do_bin {op : Operator} {g : D → D → Option TV} (h : OpD X (binaryOp op) g) (ha : DE X E a fa) (hb : DE X E b fb) : DO X E (.BinOp a op b pos) (fBin g fa fb) := by
  obtain ⟨r, h1, h2⟩ := h
  obtain ⟨ta, p, ha⟩ := ha
  obtain ⟨tb, q, hb⟩ := hb
  exact ⟨_, pe_op h1 p q, fun fr S H σ Δ Q rl w => two_run ha hb h2 rl w⟩
theorem do_un {op : UnaryOp} {g : D → Option TV} (h : UnD X (unaryOp op) g) (ha : DE X E a fa) : DO X E (.UnaryOp op a pos) (fUn g fa) := by
  obtain ⟨r, h1, h2⟩ := h
  obtain ⟨ta, p, ha⟩ := ha
  refine ⟨_, pe_un h1 p, fun fr S H σ Δ Q rl w => ?_⟩
  refine ha fr S H σ Δ _ rl (wp_mono (wp_bind w) (fun p w1 S1 H1 v g1 r1 rv => ?_) fun _ _ z => z)
  refine h2 fr S1 H1 σ p.2 v p.1 Q r1 rv (oWp_mono (of_wp (wp_bind w1)) fun tv w3 S3 H3 z g3 r3 tz => ?_)
  exact wp_ok w3 S3 H3 z (g1.trans g3) r3 tz
theorem do_cmp {op : CmpOp} {g : D → D → Option TV} (h : OpD X (compareOp op) g) (ha : DE X E a fa) (hb : DE X E b fb) (hm : behindInMarks op b = false) : DO X E (.Compare a [op] [b] pos) (fBin g fa fb) := by
  obtain ⟨r, h1, h2⟩ := h
  obtain ⟨ta, p, ha⟩ := ha
  obtain ⟨tb, q, hb⟩ := hb
  exact ⟨_, pe_cmpR h1 p q hm, fun fr S H σ Δ Q rl w => two_run ha hb h2 rl w⟩
@[simp, reducible] def TV.bool? : TV → Option Bool
  | .sh (.bl k) => some k
  | _ => none
@[simp, reducible] def fBool (f : DS → R (TV × DS)) : DS → R (Bool × DS) := fun Δ => f Δ >>= fun p => R.of p.1.bool? >>= fun k => .ok (k, p.2)
theorem dt_cmp {op : CmpOp} {g : D → D → Option TV} (h : OpD X (compareOp op) g) (ha : DE X E a fa) (hb : DE X E b fb) (hm : behindInMarks op b = false) : DT X E (.Compare a [op] [b] pos) (fBool (fBin g fa fb)) := by
  obtain ⟨r, h1, h2⟩ := h
  obtain ⟨ta, p, ha⟩ := ha
  obtain ⟨tb, q, hb⟩ := hb
  refine ⟨_, pt_cmpR h1 p q hm, fun fr S H σ Δ Q rl w => ?_⟩
  refine two_run ha hb h2 rl (wp_mono (wp_bind w) (fun p w1 S1 H1 v g1 r1 tv => ?_) fun _ _ z => z)
  obtain ⟨tv0, Δ1⟩ := p
  have w2 := of_wp (wp_bind w1)
  cases tv with
  | ow _ _ => exact w2.elim
  | @sh _ d rv =>
    cases d with
    | bl k =>
      cases rv
      exact ⟨k, rfl, wp_ok (oWp_some w2) S1 H1 g1 r1⟩
    | _ => exact w2.elim
/-- a value's truth -/
@[simp, reducible] def D.tru : D → Option Bool
  | .non => some false
  | .bl b => some b
  | .int i => some (i != 0)
  | .str y => if y.length ≤ sizeLine then some ((y.length : Int) != 0) else none
  | .lst l => some (!l.isEmpty)
  | .tup l => some (!l.isEmpty)
  | .dct l => some (!l.isEmpty)
  | .ty _ => none
theorem RpL.isEmpty {K : PySem.W.Frag} {S : Hp} {vs : List V} {ds : List D} (h : RpL K S vs ds) : (!vs.isEmpty) = !ds.isEmpty := by
  cases h <;> rfl
theorem RpK.isEmpty {K : PySem.W.Frag} {S : Hp} {vs : List (Key × V)} {ds : List (Key × D)} (h : RpK K S vs ds) : (!vs.isEmpty) = !ds.isEmpty := by
  cases h <;> rfl
theorem tru_of {K : PySem.W.Frag} {S H : Hp} {v : V} {d : D} {k : Bool} (e : Same S H) (h : Rp K S v d) (t : d.tru = some k) : TruV K v H k := by
  cases h with
  | non => cases t; rfl
  | bl b => cases t; rfl
  | int i => cases t; rfl
  | str y =>
    have t : (if y.length ≤ sizeLine then some ((y.length : Int) != 0) else none) = some k := t
    by_cases hz : y.length ≤ sizeLine
    · rw [if_pos hz] at t
      cases t
      exact ⟨hz, rfl⟩
    · rw [if_neg hz] at t
      cases t
  | lst h1 h2 => cases t; exact .inl ⟨_, SqL.of (e _ _ h1), by rw [h2.isEmpty]⟩
  | tup h1 h2 => cases t; exact .inr (.inl ⟨_, sqT_same e h1, by rw [h2.isEmpty]⟩)
  | dct h1 h2 => cases t; exact .inr (.inr ⟨_, e _ _ h1, by rw [h2.isEmpty]⟩)
  | ty n => cases t
@[simp, reducible] def fTru (f : DS → R (D × DS)) : DS → R (Bool × DS) := fun Δ => f Δ >>= fun p => R.of p.1.tru >>= fun k => .ok (k, p.2)
/-- an expression as a test -/
theorem dt_tru (ha : DE X E a fa) (he : ∀ whole, isTrue a X.env whole = (do let v ← whole; standAt a.pos; holding [v] (truthy v)) := by intro _; rfl) : DT X E a (fTru fa) := by
  obtain ⟨ta, p, ha⟩ := ha
  refine ⟨_, pt_truth p he, fun fr S H σ Δ Q rl w => ?_⟩
  refine ha fr S H σ Δ _ rl (wp_mono (wp_bind w) (fun p w1 S1 H1 v g1 r1 rv => ?_) fun _ _ z => z)
  have w2 := of_wp (wp_bind w1)
  cases q : p.1.tru with
  | none => rw [q] at w2; exact w2.elim
  | some k =>
    rw [q] at w2
    exact ⟨k, tru_of r1.fro.sub rv q, wp_ok (oWp_some w2) S1 H1 g1 r1⟩
@[simp, reducible] def fAnd (f g : DS → R (Bool × DS)) : DS → R (Bool × DS) := fun Δ => f Δ >>= fun p => match p.1 with
  | true => g p.2
  | false => .ok (false, p.2)
@[simp, reducible] def fOr (f g : DS → R (Bool × DS)) : DS → R (Bool × DS) := fun Δ => f Δ >>= fun p => match p.1 with
  | true => .ok (true, p.2)
  | false => g p.2
@[simp, reducible] def fNot (f : DS → R (Bool × DS)) : DS → R (Bool × DS) := fun Δ => f Δ >>= fun p => .ok (!p.1, p.2)
theorem dw_and1 (ha : DT X E a ft) : DW X E (.BoolOp .And [a] pos) ft := by
  obtain ⟨t, p, h⟩ := ha
  exact ⟨t, pw_and1 p, h⟩
theorem dw_or1 (ha : DT X E a ft) : DW X E (.BoolOp .Or [a] pos) ft := by
  obtain ⟨t, p, h⟩ := ha
  exact ⟨t, pw_or1 p, h⟩
theorem dw_and (ha : DT X E a ft) (hb : DW X E (.BoolOp .And (b :: rest) pos) fu) : DW X E (.BoolOp .And (a :: b :: rest) pos) (fAnd ft fu) := by
  obtain ⟨t, p, ha⟩ := ha
  obtain ⟨u, q, hb⟩ := hb
  refine ⟨_, pw_and p q, fun fr S H σ Δ Q rl w => ?_⟩
  refine ha fr S H σ Δ _ rl (wp_mono (wp_bind w) (fun p w1 S1 H1 g1 r1 => ?_) fun _ _ z => z)
  obtain ⟨k, Δ1⟩ := p
  cases k with
  | true =>
    refine iteT (hb fr S1 H1 σ Δ1 Q r1 (wp_mono w1 (fun q w2 S2 H2 g2 r2 => w2 S2 H2 (g1.trans g2) r2) fun _ _ z => z.grow g1))
  | false => exact iteF (wp_ok w1 S1 H1 g1 r1)
theorem dw_or (ha : DT X E a ft) (hb : DW X E (.BoolOp .Or (b :: rest) pos) fu) : DW X E (.BoolOp .Or (a :: b :: rest) pos) (fOr ft fu) := by
  obtain ⟨t, p, ha⟩ := ha
  obtain ⟨u, q, hb⟩ := hb
  refine ⟨_, pw_or p q, fun fr S H σ Δ Q rl w => ?_⟩
  refine ha fr S H σ Δ _ rl (wp_mono (wp_bind w) (fun p w1 S1 H1 g1 r1 => ?_) fun _ _ z => z)
  obtain ⟨k, Δ1⟩ := p
  cases k with
  | false =>
    refine iteF (hb fr S1 H1 σ Δ1 Q r1 (wp_mono w1 (fun q w2 S2 H2 g2 r2 => w2 S2 H2 (g1.trans g2) r2) fun _ _ z => z.grow g1))
  | true => exact iteT (wp_ok w1 S1 H1 g1 r1)
theorem DW.t (h : DW X E a ft) : DT X E a ft := by
  obtain ⟨t, p, h⟩ := h
  exact ⟨t, p.pt, h⟩
theorem dt_not (ha : DT X E a ft) : DT X E (.UnaryOp .Not a pos) (fNot ft) := by
  obtain ⟨t, p, ha⟩ := ha
  refine ⟨_, pt_not p, fun fr S H σ Δ Q rl w => ?_⟩
  exact ha fr S H σ Δ _ rl (wp_mono (wp_bind w) (fun p w1 S1 H1 g1 r1 => wp_ok w1 S1 H1 g1 r1) fun _ _ z => z)
@[simp, reducible] def fIf (ft : DS → R (Bool × DS)) {α : Type} (f g : DS → R α) : DS → R α := fun Δ => ft Δ >>= fun p => match p.1 with
  | true => f p.2
  | false => g p.2
theorem de_if (hc : DT X E c ft) (ha : DE X E a fa) (hb : DE X E b fb) : DE X E (.IfExp c a b pos) (fIf ft fa fb) := by
  obtain ⟨t, p, hc⟩ := hc
  obtain ⟨ta, p1, ha⟩ := ha
  obtain ⟨tb, p2, hb⟩ := hb
  refine ⟨_, pe_ifExp p p1 p2, fun fr S H σ Δ Q rl w => ?_⟩
  refine hc fr S H σ Δ _ rl (wp_mono (wp_bind w) (fun p w1 S1 H1 g1 r1 => ?_) fun _ _ z => z)
  obtain ⟨k, Δ1⟩ := p
  cases k with
  | true => exact iteT (ha fr S1 H1 σ Δ1 Q r1 (wp_mono w1 (fun q w2 S2 H2 v g2 r2 rv => w2 S2 H2 v (g1.trans g2) r2 rv) fun _ _ z => z.grow g1))
  | false => exact iteF (hb fr S1 H1 σ Δ1 Q r1 (wp_mono w1 (fun q w2 S2 H2 v g2 r2 rv => w2 S2 H2 v (g1.trans g2) r2 rv) fun _ _ z => z.grow g1))
/-- and, or as values -/
@[simp, reducible] def fAndV (f g : DS → R (D × DS)) : DS → R (D × DS) := fun Δ => f Δ >>= fun p => R.of p.1.tru >>= fun k => match k with
  | true => g p.2
  | false => .ok p
@[simp, reducible] def fOrV (f g : DS → R (D × DS)) : DS → R (D × DS) := fun Δ => f Δ >>= fun p => R.of p.1.tru >>= fun k => match k with
  | true => .ok p
  | false => g p.2
theorem de_one {op : BoolOp} (ha : DE X E a fa) : DE X E (.BoolOp op [a] pos) fa := by
  obtain ⟨t, p, h⟩ := ha
  exact ⟨t, pe_one p, h⟩
theorem de_and (ha : DE X E a fa) (hb : DE X E (.BoolOp .And (b :: rest) pos) fb) : DE X E (.BoolOp .And (a :: b :: rest) pos) (fAndV fa fb) := by
  obtain ⟨t, p, ha⟩ := ha
  obtain ⟨u, q, hb⟩ := hb
  refine ⟨_, pe_andT p q, fun fr S H σ Δ Q rl w => ?_⟩
  refine ha fr S H σ Δ _ rl (wp_mono (wp_bind w) (fun p w1 S1 H1 v g1 r1 rv => ?_) fun _ _ z => z)
  have w2 := of_wp (wp_bind w1)
  cases q : p.1.tru with
  | none => rw [q] at w2; exact w2.elim
  | some k =>
    rw [q] at w2
    refine ⟨k, tru_of r1.fro.sub rv q, ?_⟩
    cases k with
    | true => exact iteT (hb fr S1 H1 σ p.2 Q r1 (wp_mono (oWp_some w2) (fun q w2 S2 H2 v g2 r2 rv => w2 S2 H2 v (g1.trans g2) r2 rv) fun _ _ z => z.grow g1))
    | false => exact iteF (wp_ok (oWp_some w2) S1 H1 v g1 r1 rv)
theorem de_or (ha : DE X E a fa) (hb : DE X E (.BoolOp .Or (b :: rest) pos) fb) : DE X E (.BoolOp .Or (a :: b :: rest) pos) (fOrV fa fb) := by
  obtain ⟨t, p, ha⟩ := ha
  obtain ⟨u, q, hb⟩ := hb
  refine ⟨_, pe_orT p q, fun fr S H σ Δ Q rl w => ?_⟩
  refine ha fr S H σ Δ _ rl (wp_mono (wp_bind w) (fun p w1 S1 H1 v g1 r1 rv => ?_) fun _ _ z => z)
  have w2 := of_wp (wp_bind w1)
  cases q : p.1.tru with
  | none => rw [q] at w2; exact w2.elim
  | some k =>
    rw [q] at w2
    refine ⟨k, tru_of r1.fro.sub rv q, ?_⟩
    cases k with
    | false => exact iteF (hb fr S1 H1 σ p.2 Q r1 (wp_mono (oWp_some w2) (fun q w2 S2 H2 v g2 r2 rv => w2 S2 H2 v (g1.trans g2) r2 rv) fun _ _ z => z.grow g1))
    | true => exact iteT (wp_ok (oWp_some w2) S1 H1 v g1 r1 rv)
@[simp, reducible] def fNotV (f : DS → R (D × DS)) : DS → R (D × DS) := fun Δ => f Δ >>= fun p => R.of p.1.tru >>= fun k => .ok (.bl (!k), p.2)
theorem de_not (ha : DE X E a fa) : DE X E (.UnaryOp .Not a pos) (fNotV fa) := by
  obtain ⟨t, p, ha⟩ := ha
  refine ⟨_, pe_notT p, fun fr S H σ Δ Q rl w => ?_⟩
  refine ha fr S H σ Δ _ rl (wp_mono (wp_bind w) (fun p w1 S1 H1 v g1 r1 rv => ?_) fun _ _ z => z)
  have w2 := of_wp (wp_bind w1)
  cases q : p.1.tru with
  | none => rw [q] at w2; exact w2.elim
  | some k =>
    rw [q] at w2
    exact ⟨k, tru_of r1.fro.sub rv q, wp_ok (oWp_some w2) S1 H1 _ g1 r1 (.bl _)⟩

/-! ### arguments, displays -/
@[simp, reducible] def fNil : DS → R (List D × DS) := fun Δ => .ok ([], Δ)
@[simp, reducible] def fCons (f : DS → R (D × DS)) (g : DS → R (List D × DS)) : DS → R (List D × DS) := fun Δ => f Δ >>= fun p => g p.2 >>= fun q => .ok (p.1 :: q.1, q.2)
theorem da_nil : DA X E [] fNil := ⟨_, pa_nil, fun fr S H σ Δ Q rl w => wp_ok w S H [] (Grow.refl fr S) rl .nil⟩
theorem da_cons (ha : DE X E e fa) (hr : DA X E es fl) (hs : starEach (e :: es) X.env = (false, eval e X.env) :: starEach es X.env := by rfl) : DA X E (e :: es) (fCons fa fl) := by
  obtain ⟨t, p, ha⟩ := ha
  obtain ⟨u, q, hb⟩ := hr
  refine ⟨_, pa_cons p q hs, fun fr S H σ Δ Q rl w => ?_⟩
  refine ha fr S H σ Δ _ rl (wp_mono (wp_bind w) (fun p w1 S1 H1 v g1 r1 rv => ?_) fun _ _ z => z)
  refine hb fr S1 H1 σ p.2 _ r1 (wp_mono (wp_bind w1) (fun q w2 S2 H2 vs g2 r2 rvs => ?_) fun _ _ z => z.grow g1)
  exact wp_ok w2 S2 H2 _ (g1.trans g2) r2 (.cons (Rp.mono g2.sub _ rv) rvs)
/-- *e in a display or a call -/
@[simp, reducible] def D.its : D → Option (List D)
  | .lst l => some l
  | .tup l => some l
  | _ => none
@[simp, reducible] def fStar (f : DS → R (D × DS)) (g : DS → R (List D × DS)) : DS → R (List D × DS) := fun Δ => f Δ >>= fun p => R.of p.1.its >>= fun l => g p.2 >>= fun q => .ok (l ++ q.1, q.2)
theorem da_star {pos' : Pos} (ha : DE X E e fa) (hr : DA X E es fl) (hs : starEach (.Starred e pos' :: es) X.env = (true, eval e X.env) :: starEach es X.env := by rfl) : DA X E (.Starred e pos' :: es) (fStar fa fl) := by
  obtain ⟨t, p, ha⟩ := ha
  obtain ⟨u, q, hb⟩ := hr
  refine ⟨_, StX.pa_star p q hs, fun fr S H σ Δ Q rl w => ?_⟩
  refine ha fr S H σ Δ _ rl (wp_mono (wp_bind w) (fun p w1 S1 H1 v g1 r1 rv => ?_) fun _ _ z => z)
  have w2 := of_wp (wp_bind w1)
  have fin : ∀ (a : Addr) (xs : List V) (l : List D), v = .ref a → (SqT X.K H1 a xs ∨ SqL X.K H1 a xs) → RpL X.K S1 xs l → (fl p.2 >>= fun q => R.ok (l ++ q.1, q.2)).wp (fun r => ∀ S' H' vs, Grow fr S S' → Rel X.K fr S' σ H' r.2 → RpL X.K S' vs r.1 → Q vs H') (XP X.K X.mg fr S E) →
      ∃ p' xs', v = .ref p' ∧ (SqT X.K H1 p' xs' ∨ SqL X.K H1 p' xs') ∧ u σ H1 fun ys H2 => Q (xs' ++ ys) H2 := fun a xs l ev hq hl w3 => by
    refine ⟨a, xs, ev, hq, hb fr S1 H1 σ p.2 _ r1 (wp_mono (wp_bind w3) (fun q w2 S2 H2 vs g2 r2 rvs => ?_) fun _ _ z => z.grow g1)⟩
    exact wp_ok w2 S2 H2 _ (g1.trans g2) r2 ((RpL.mono g2.sub _ hl).append rvs)
  obtain ⟨d, Δ1⟩ := p
  cases rv with
  | lst h1 h2 => exact fin _ _ _ rfl (.inr (SqL.of (r1.fro.sub _ _ h1))) h2 (oWp_some w2)
  | tup h1 h2 => exact fin _ _ _ rfl (.inl (sqT_same r1.fro.sub h1)) h2 (oWp_some w2)
  | _ => exact w2.elim
@[simp, reducible] def fLst (f : DS → R (List D × DS)) : DS → R (TV × DS) := fun Δ => f Δ >>= fun p => if p.1.length ≤ sizeLine then .ok (.ow (.lst p.1), p.2) else .bad
@[simp, reducible] def fTup (f : DS → R (List D × DS)) : DS → R (D × DS) := fun Δ => f Δ >>= fun p => if p.1.length ≤ sizeLine then .ok (.tup p.1, p.2) else .bad
theorem do_lst (h : DA X E es fl) : DO X E (.List es pos) (fLst fl) := by
  obtain ⟨t, p, h⟩ := h
  refine ⟨_, pe_lst p, fun fr S H σ Δ Q rl w => ?_⟩
  refine h fr S H σ Δ _ rl (wp_mono (wp_bind w) (fun p w1 S1 H1 vs g1 r1 rv => ?_) fun _ _ z => z)
  split at w1
  · rename_i hz
    refine ⟨by rw [rv.length]; exact hz, fun a hn => ?_⟩
    obtain ⟨o1, o2⟩ := r1.newOwn hn (.lst rv)
    exact wp_ok w1 S1 _ _ g1 (r1.beside hn) (.ow o1 o2)
  · exact w1.elim
theorem de_tup {k : Nat} (h : DA X E es fl) : DE X E (.Tuple es k pos) (fTup fl) := by
  obtain ⟨t, p, h⟩ := h
  refine ⟨_, pe_tup p, fun fr S H σ Δ Q rl w => ?_⟩
  refine h fr S H σ Δ _ rl (wp_mono (wp_bind w) (fun p w1 S1 H1 vs g1 r1 rv => ?_) fun _ _ z => z)
  split at w1
  · rename_i hz
    refine ⟨by rw [rv.length]; exact hz, fun a hn => ?_⟩
    obtain ⟨r2, g2⟩ := r1.laid (o := .tup vs) hn
    exact wp_ok w1 _ _ _ (g1.trans g2) r2 (.tup (.inl (.inl upd_same)) (RpL.mono g2.sub _ rv))
  · exact w1.elim

/-! ### calls of built-ins, methods, subscripts, slices -/
@[simp, reducible] def fCall (g : List D → Option TV) (fl : DS → R (List D × DS)) : DS → R (TV × DS) := fun Δ => fl Δ >>= fun p => R.of (g p.1) >>= fun v => .ok (v, p.2)
theorem do_callB {x : Str} {p : Pos} {id : String} {g : List D → Option TV} (h : CallD X (.builtin id) g) (hg : Gl X x) (hm : X.mg x = none) (hv : bootBuiltins x = some (.builtin id)) (ha : DA X E (e :: es) fl) (hn : x ≠ "__name__" := by decide) (hdb : (x == ("__debug__" : Str)) = false := by decide)
    (he : starEach (e :: es) X.env = (false, eval e X.env) :: starEach es X.env := by rfl) (hpl : (backTo pos (starEach es X.env)).any (·.1) = false := by rfl) : DO X E (.Call (.Name x p) (e :: es) [] pos) (fCall g fl) := by
  obtain ⟨r, h1, h2⟩ := h
  obtain ⟨t, q, ha⟩ := ha
  refine ⟨_, pe_callB h1 hg hm hv q hn hdb he hpl, fun fr S H σ Δ Q rl w => ?_⟩
  refine ha fr S H σ Δ _ rl (wp_mono (wp_bind w) (fun p w1 S1 H1 vs g1 r1 rv => ?_) fun _ _ z => z)
  refine h2 fr S1 H1 σ p.2 vs p.1 Q r1 rv (oWp_mono (of_wp (wp_bind w1)) fun tv w3 S3 H3 z g3 r3 tz => ?_)
  exact wp_ok w3 S3 H3 z (g1.trans g3) r3 tz
theorem do_callTy {x : Str} {p : Pos} {T : String} {g : List D → Option TV} (h : CallD X (.type T) g) (hg : Gl X x) (hm : X.mg x = none) (hv : bootBuiltins x = some (.type T)) (ha : DA X E (e :: es) fl) (hn : x ≠ "__name__" := by decide) (hdb : (x == ("__debug__" : Str)) = false := by decide)
    (he : starEach (e :: es) X.env = (false, eval e X.env) :: starEach es X.env := by rfl) (hpl : (backTo pos (starEach es X.env)).any (·.1) = false := by rfl) : DO X E (.Call (.Name x p) (e :: es) [] pos) (fCall g fl) := by
  obtain ⟨r, h1, h2⟩ := h
  obtain ⟨t, q, ha⟩ := ha
  refine ⟨_, pe_callTy h1 hg hm hv q hn hdb he hpl, fun fr S H σ Δ Q rl w => ?_⟩
  refine ha fr S H σ Δ _ rl (wp_mono (wp_bind w) (fun p w1 S1 H1 vs g1 r1 rv => ?_) fun _ _ z => z)
  refine h2 fr S1 H1 σ p.2 vs p.1 Q r1 rv (oWp_mono (of_wp (wp_bind w1)) fun tv w3 S3 H3 z g3 r3 tz => ?_)
  exact wp_ok w3 S3 H3 z (g1.trans g3) r3 tz
/-- a text's method -/
@[simp, reducible] def fMtS (g : D → List D → Option TV) (fo : DS → R (D × DS)) (fl : DS → R (List D × DS)) : DS → R (TV × DS) := fun Δ => fo Δ >>= fun o => match o.1 with
  | .str x => fl o.2 >>= fun p => R.of (g (.str x) p.1) >>= fun v => .ok (v, p.2)
  | _ => .bad
theorem do_mtS {name : Str} {id : String} {apos : Pos} {g : D → List D → Option TV} (pa : PlainAttrs "str") (slot : Slot "str" name id) (hty : typeOf (.builtin id) = pure (.type "method_descriptor")) (hm : MtD X "str" id g) (ho : DE X E a fa) (ha : DA X E (e :: es) fl)
    (hbase : attributeBase a name X.env (eval a X.env) = eval a X.env := by rfl)
    (hfew : ((backTo pos (starEach (e :: es) X.env)).all (fun x => !x.1) && (backToKw pos (keywordEach [] X.env)).all (fun x => x.1.isSome)
      && decide ((e :: es).length + ([] : List Keyword).length + (if ([] : List Keyword).isEmpty then 0 else 1) < 30)) = true := by rfl)
    (hline : (apos.endLine == pos.line) = true := by rfl) (hs : starEach (e :: es) X.env = (false, eval e X.env) :: starEach es X.env := by rfl) (hplain : (backTo pos (starEach es X.env)).any (·.1) = false := by rfl) :
    DO X E (.Call (.Attribute a name apos) (e :: es) [] pos) (fMtS g fa fl) := by
  obtain ⟨r, h1, h2⟩ := hm
  obtain ⟨to, q, ho⟩ := ho
  obtain ⟨t, q2, ha⟩ := ha
  refine ⟨_, pe_bm pa slot hty h1 q q2 hbase hfew hline hs hplain, fun fr S H σ Δ Q rl w => ?_⟩
  refine ho fr S H σ Δ _ rl (wp_mono (wp_bind w) (fun p w1 S1 H1 v g1 r1 rv => ?_) fun _ _ z => z)
  obtain ⟨d, Δ1⟩ := p
  cases rv with
  | str x =>
    refine ⟨rfl, ha fr S1 H1 σ Δ1 _ r1 (wp_mono (wp_bind w1) (fun p w2 S2 H2 vs g2 r2 rv => ?_) fun _ _ z => z.grow g1)⟩
    refine h2 fr S2 H2 σ p.2 (.str x) (.str x) vs p.1 Q r2 (.str x) rv (oWp_mono (of_wp (wp_bind w2)) fun tv w3 S3 H3 z g3 r3 tz => ?_)
    exact wp_ok w3 S3 H3 z (g1.trans (g2.trans g3)) r3 tz
  | _ => exact w1.elim
theorem do_ix {g : D → D → Option TV} (h : IxD X g) (ha : DE X E a fa) (hb : DE X E b fb) (hs : PlainIx b := by exact fun _ _ => rfl) : DO X E (.Subscript a b pos) (fBin g fa fb) := by
  obtain ⟨r, h1, h2⟩ := h
  obtain ⟨ta, p, ha⟩ := ha
  obtain ⟨tb, q, hb⟩ := hb
  exact ⟨_, pe_ix h1 p q hs, fun fr S H σ Δ Q rl w => two_run ha hb h2 rl w⟩
/-- a part of a slice -/
def DP (X : Cx) (E : XK) (e : Option Expr) (f : DS → R (Option Int × DS)) : Prop := ∃ t, PO X e t ∧ ∀ fr S H σ Δ Q, Rel X.K fr S σ H Δ →
  (f Δ).wp (fun r => ∀ S' H', Grow fr S S' → Rel X.K fr S' σ H' r.2 → Q r.1 H') (XP X.K X.mg fr S E) → t σ H Q
@[simp, reducible] def fNoP : DS → R (Option Int × DS) := fun Δ => .ok (none, Δ)
@[simp, reducible] def fPart (f : DS → R (D × DS)) : DS → R (Option Int × DS) := fun Δ => f Δ >>= fun p => match p.1 with
  | .int i => .ok (some i, p.2)
  | _ => .bad
theorem dp_none : DP X E none fNoP := ⟨_, po_none, fun fr S H σ Δ Q rl w => wp_ok w S H (Grow.refl fr S) rl⟩
theorem dp_some (ha : DE X E a fa) : DP X E (some a) (fPart fa) := by
  obtain ⟨t, p, ha⟩ := ha
  refine ⟨_, po_some p, fun fr S H σ Δ Q rl w => ?_⟩
  refine ha fr S H σ Δ _ rl (wp_mono (wp_bind w) (fun p w1 S1 H1 v g1 r1 rv => ?_) fun _ _ z => z)
  obtain ⟨d, Δ1⟩ := p
  cases rv with
  | int i => exact ⟨i, rfl, wp_ok w1 S1 H1 g1 r1⟩
  | _ => exact w1.elim
@[simp, reducible] def fSl (g : D → Option Int → Option Int → Option TV) (fa : DS → R (D × DS)) (fl fh : DS → R (Option Int × DS)) : DS → R (TV × DS) := fun Δ => fa Δ >>= fun p => fl p.2 >>= fun l => fh l.2 >>= fun h => R.of (g p.1 l.1 h.1) >>= fun v => .ok (v, h.2)
theorem do_sl {g : D → Option Int → Option Int → Option TV} {lo hi : Option Expr} {p2 : Pos} {flo fhi : DS → R (Option Int × DS)} (h : SlD X g) (ha : DE X E a fa) (hl : DP X E lo flo) (hh : DP X E hi fhi) : DO X E (.Subscript a (.Slice lo hi none p2) pos) (fSl g fa flo fhi) := by
  obtain ⟨r, h1, h2⟩ := h
  obtain ⟨ta, p, ha⟩ := ha
  obtain ⟨tl, q1, hl⟩ := hl
  obtain ⟨th, q2, hh⟩ := hh
  refine ⟨_, pe_slice h1 p q1 q2, fun fr S H σ Δ Q rl w => ?_⟩
  refine ha fr S H σ Δ _ rl (wp_mono (wp_bind w) (fun p w1 S1 H1 v g1 r1 rv => ?_) fun _ _ z => z)
  refine hl fr S1 H1 σ p.2 _ r1 (wp_mono (wp_bind w1) (fun l w2 S2 H2 g2 r2 => ?_) fun _ _ z => z.grow g1)
  refine hh fr S2 H2 σ l.2 _ r2 (wp_mono (wp_bind w2) (fun u w3 S3 H3 g3 r3 => ?_) fun _ _ z => z.grow (g1.trans g2))
  refine h2 fr S3 H3 σ u.2 v p.1 l.1 u.1 Q r3 (Rp.mono (g2.sub.trans g3.sub) _ rv) (oWp_mono (of_wp (wp_bind w3)) fun tv w4 S4 H4 z g4 r4 tz => ?_)
  exact wp_ok w4 S4 H4 z (g1.trans (g2.trans (g3.trans g4))) r4 tz
/-- x[::-1] of a list -/
@[simp, reducible] def fRev (fa : DS → R (D × DS)) : DS → R (TV × DS) := fun Δ => fa Δ >>= fun p => match p.1 with
  | .lst l => .ok (.ow (.lst l.reverse), p.2)
  | _ => .bad
theorem do_rev {k : Nat} {p1 p2 p3 : Pos} (ha : DE X E a fa) : DO X E (.Subscript a (.Slice none none (some (.UnaryOp .USub (.Constant (.int 1) k p1) p2)) p3) pos) (fRev fa) := by
  obtain ⟨ta, p, ha⟩ := ha
  refine ⟨_, pe_revL p, fun fr S H σ Δ Q rl w => ?_⟩
  refine ha fr S H σ Δ _ rl (wp_mono (wp_bind w) (fun p w1 S1 H1 v g1 r1 rv => ?_) fun _ _ z => z)
  obtain ⟨d, Δ1⟩ := p
  cases rv with
  | lst h1 h2 =>
    refine ⟨_, _, rfl, SqL.of (r1.fro.sub _ _ h1), fun a hn => ?_⟩
    obtain ⟨o1, o2⟩ := r1.newOwn hn (.lst h2.reverse)
    exact wp_ok w1 S1 _ _ g1 (r1.beside hn) (.ow o1 o2)
  | _ => exact w1.elim
/-- a < b < c -/
@[simp, reducible] def fChain (g g' : D → D → Option TV) (fa fb fc : DS → R (D × DS)) : DS → R (Bool × DS) := fun Δ => fa Δ >>= fun p => fb p.2 >>= fun q => R.of ((g p.1 q.1).bind TV.bool?) >>= fun k => match k with
  | true => fc q.2 >>= fun z => R.of ((g' q.1 z.1).bind TV.bool?) >>= fun k' => .ok (k', z.2)
  | false => .ok (false, q.2)
end
end DL
namespace DL
open PySem PySem.Spec PyProof.Rows L2

theorem oWp_bind {α β : Type} {o : Option α} {k : α → Option β} {P : β → Prop} (h : oWp (o.bind k) P) : oWp o fun a => oWp (k a) P := by
  cases o with
  | some a => exact h
  | none => exact h

/-! ## statements -/
inductive Fl where
  | nx
  | bk
  | ct
  | rt (d : D)
def FlPost (K : PySem.W.Frag) (S : Hp) (fl : Fl) (N : Ends) (σ : L2.St) (H : Hp) : Prop := match fl with
  | .nx => N.nx σ H
  | .bk => N.bk σ H
  | .ct => N.ct σ H
  | .rt d => ∀ v, Rp K S v d → N.rt v H
abbrev SPost (X : Cx) (fr : Frm) (S : Hp) (N : Ends) : Fl × DS → Prop := fun r => ∀ S' H' σ', Grow fr S S' → Rel X.K fr S' σ' H' r.2 → FlPost X.K S' r.1 N σ' H'
def Dst (X : Cx) (E : XK) (st : Stmt) (f : DS → R (Fl × DS)) : Prop := ∃ t, PS X st t ∧ ∀ fr S H σ Δ N, Rel X.K fr S σ H Δ → (f Δ).wp (SPost X fr S N) (XP X.K X.mg fr S E) → t N σ H
def Dss (X : Cx) (E : XK) (sts : List Stmt) (f : DS → R (Fl × DS)) : Prop := ∃ t, PSs X sts t ∧ ∀ fr S H σ Δ N, Rel X.K fr S σ H Δ → (f Δ).wp (SPost X fr S N) (XP X.K X.mg fr S E) → t N σ H
/-- a target; vs: the slots it writes -/
def Dtg (X : Cx) (tg : Expr) (vs : List Nat) (f : TV → DS → Option DS) : Prop := ∃ t, PG X tg t ∧ ∀ fr S H σ Δ v tv Q, Rel X.K fr S σ H Δ → TvOk X.K fr S H σ Δ.1 v tv →
  oWp (f tv Δ) (fun Δ' => ∀ S' H' σ', Grow fr S S' → Rel X.K fr S' σ' H' Δ' → (∀ us : List Nat, (∀ i ∈ vs, i ∈ us) → wipe σ' us = wipe σ us) → Q σ' H') → t v σ H Q

section
variable {X : Cx} {E : XK} {e a b c tg : Expr} {es rest : List Expr} {st : Stmt} {sts body els : List Stmt} {pos : Pos} {fa fb : DS → R (D × DS)} {fo : DS → R (TV × DS)} {ft : DS → R (Bool × DS)} {f1 f2 f3 : DS → R (Fl × DS)} {fl : DS → R (List D × DS)} {vs : List Nat} {fg : TV → DS → Option DS}
@[simp, reducible] def fNext : DS → R (Fl × DS) := fun Δ => .ok (.nx, Δ)
@[simp, reducible] def fSeq (f g : DS → R (Fl × DS)) : DS → R (Fl × DS) := fun Δ => f Δ >>= fun r => match r.1 with
  | .nx => g r.2
  | x => .ok (x, r.2)
theorem FlPost.grow {K : PySem.W.Frag} {S S' : Hp} {fl : Fl} {N : Ends} {σ : L2.St} {H : Hp} (g : Same S S') (h : FlPost K S' fl N σ H) (n : ∀ d, fl ≠ .rt d) : FlPost K S fl N σ H := by
  cases fl with
  | rt d => exact (n d rfl).elim
  | nx => exact h
  | bk => exact h
  | ct => exact h
theorem dss_nil : Dss X E [] fNext := ⟨_, pss_nil, fun fr S H σ Δ N rl w => wp_ok w S H σ (Grow.refl fr S) rl⟩
theorem dss_cons (h1 : Dst X E st f1) (h2 : Dss X E sts f2) : Dss X E (st :: sts) (fSeq f1 f2) := by
  obtain ⟨t, p, h1⟩ := h1
  obtain ⟨u, q, h2⟩ := h2
  refine ⟨_, pss_cons p q, fun fr S H σ Δ N rl w => ?_⟩
  refine h1 fr S H σ Δ _ rl (wp_mono (wp_bind w) (fun r w1 S1 H1 σ1 g1 r1 => ?_) fun _ _ z => z)
  obtain ⟨x, Δ1⟩ := r
  cases x with
  | nx => exact h2 fr S1 H1 σ1 Δ1 N r1 (wp_mono w1 (fun r w2 S2 H2 σ2 g2 r2 => w2 S2 H2 σ2 (g1.trans g2) r2) fun _ _ z => z.grow g1)
  | bk => exact wp_ok w1 S1 H1 σ1 g1 r1
  | ct => exact wp_ok w1 S1 H1 σ1 g1 r1
  | rt d => exact wp_ok w1 S1 H1 σ1 g1 r1
theorem dss_one (h1 : Dst X E st f1) : Dss X E [st] f1 := by
  obtain ⟨t, p, h1⟩ := h1
  exact ⟨_, pss_one p, h1⟩
theorem ds_pass : Dst X E (.Pass pos) fNext := ⟨_, ps_pass, fun fr S H σ Δ N rl w => wp_ok w S H σ (Grow.refl fr S) rl⟩
@[simp, reducible] def fBreak : DS → R (Fl × DS) := fun Δ => .ok (.bk, Δ)
@[simp, reducible] def fCont : DS → R (Fl × DS) := fun Δ => .ok (.ct, Δ)
theorem ds_break : Dst X E (.Break pos) fBreak := ⟨_, ps_break, fun fr S H σ Δ N rl w => wp_ok w S H σ (Grow.refl fr S) rl⟩
theorem ds_cont : Dst X E (.Continue pos) fCont := ⟨_, ps_continue, fun fr S H σ Δ N rl w => wp_ok w S H σ (Grow.refl fr S) rl⟩
@[simp, reducible] def fDrop (f : DS → R (TV × DS)) : DS → R (Fl × DS) := fun Δ => f Δ >>= fun r => .ok (.nx, r.2)
theorem ds_expr (h : DO X E e fo) (hs : swapsWith e none pos.line X.env = pure false := by rfl) : Dst X E (.Expr e pos) (fDrop fo) := by
  obtain ⟨t, p, h⟩ := h
  refine ⟨_, ps_expr p hs, fun fr S H σ Δ N rl w => ?_⟩
  exact h fr S H σ Δ _ rl (wp_mono (wp_bind w) (fun r w1 S1 H1 v g1 r1 _ => wp_ok w1 S1 H1 σ g1 r1) fun _ _ z => z)
@[simp, reducible] def fRet (f : DS → R (D × DS)) : DS → R (Fl × DS) := fun Δ => f Δ >>= fun r => .ok (.rt r.1, r.2)
theorem ds_ret (h : DE X E e fa) : Dst X E (.Return (some e) pos) (fRet fa) := by
  obtain ⟨t, p, h⟩ := h
  refine ⟨_, ps_ret p, fun fr S H σ Δ N rl w => ?_⟩
  exact h fr S H σ Δ _ rl (wp_mono (wp_bind w) (fun r w1 S1 H1 v g1 r1 rv => wp_ok w1 S1 H1 σ g1 r1 v rv) fun _ _ z => z)
@[simp, reducible] def fRetN : DS → R (Fl × DS) := fun Δ => .ok (.rt .non, Δ)
theorem ds_retN : Dst X E (.Return none pos) fRetN := ⟨_, ps_retN, fun fr S H σ Δ N rl w => wp_ok w S H σ (Grow.refl fr S) rl .non .non⟩
theorem ds_if (hc : DT X E c ft) (ha : Dss X E body f1) (hb : Dss X E els f2) : Dst X E (.If c body els pos) (fIf ft f1 f2) := by
  obtain ⟨t, p, hc⟩ := hc
  obtain ⟨ta, p1, ha⟩ := ha
  obtain ⟨tb, p2, hb⟩ := hb
  refine ⟨_, ps_if p p1 p2, fun fr S H σ Δ N rl w => ?_⟩
  refine hc fr S H σ Δ _ rl (wp_mono (wp_bind w) (fun p w1 S1 H1 g1 r1 => ?_) fun _ _ z => z)
  obtain ⟨k, Δ1⟩ := p
  cases k with
  | true => exact iteT (ha fr S1 H1 σ Δ1 N r1 (wp_mono w1 (fun q w2 S2 H2 v g2 r2 => w2 S2 H2 v (g1.trans g2) r2) fun _ _ z => z.grow g1))
  | false => exact iteF (hb fr S1 H1 σ Δ1 N r1 (wp_mono w1 (fun q w2 S2 H2 v g2 r2 => w2 S2 H2 v (g1.trans g2) r2) fun _ _ z => z.grow g1))
@[simp, reducible] def fNever : DS → R (Fl × DS) := fun _ => .bad
theorem ds_never : Dst X E st fNever := ⟨_, ps_never, fun fr S H σ Δ N rl w => w⟩
theorem dss_never : Dss X E sts fNever := ⟨_, pss_never, fun fr S H σ Δ N rl w => w⟩

/-! ### targets -/
@[simp, reducible] def gSet (i : Nat) : TV → DS → Option DS := fun tv Δ => some (Δ.1.set i tv.sv, Δ.2)
theorem wipe_set {σ : L2.St} {o : Option V} {i : Nat} : ∀ (us : List Nat), i ∈ us → wipe (σ.set i o) us = wipe σ us
  | [], h => by cases h
  | u :: us, h => by
    show (wipe (σ.set i o) us).set u none = (wipe σ us).set u none
    by_cases hi : i ∈ us
    · rw [wipe_set us hi]
    · have hu : i = u := by
        rcases List.mem_cons.mp h with e | e
        · exact e
        · exact absurd e hi
      subst hu
      have key : ∀ (vs : List Nat), i ∉ vs → wipe (σ.set i o) vs = (wipe σ vs).set i o := by
        intro vs
        induction vs with
        | nil => intro _; rfl
        | cons v vs ih =>
          intro hv
          have hne : i ≠ v := fun e => hv (by rw [e]; exact List.mem_cons_self)
          show (wipe (σ.set i o) vs).set v none = ((wipe σ vs).set v none).set i o
          rw [ih fun z => hv (List.mem_cons_of_mem _ z), List.set_comm _ _ hne]
      rw [key us hi, List.set_set]
theorem dt_name {i : Nat} {x : Str} (hN : X.N.Nodup) (hi : X.N[i]? = some x := by rfl) (hx : Loc X.env.scope x := by first | exact Or.inl rfl | exact Or.inr rfl) (hf : X.fn x = true ∨ X.env.scope.names.lookup x = some .local := by first | exact .inl rfl | exact .inr rfl | assumption) : Dtg X (.Name x pos) [i] (gSet i) := by
  refine ⟨_, pg_name hN hi hx hf, fun fr S H σ Δ v tv Q rl tk w => ?_⟩
  refine oWp_some w S H _ (Grow.refl fr S) ?_ fun us h => wipe_set us (h i (by simp))
  cases tk with
  | sh rp => exact rl.setSlot (s := .sh _) ⟨v, rfl, rp⟩ fun _ _ z => by cases z
  | @ow a0 d0 w0 ns =>
    refine rl.setSlot (s := .ow d0) ⟨a0, rfl, w0⟩ fun d a z y => ?_
    cases y
    exact ns
/-- a, b, .. = a tuple or list -/
def Dtgs (X : Cx) (tgs : List Expr) (vs : List Nat) (f : List D → DS → Option DS) : Prop := ∃ t, PGs X tgs t ∧ ∀ fr S H σ Δ xs ds Q, Rel X.K fr S σ H Δ → RpL X.K S xs ds →
  oWp (f ds Δ) (fun Δ' => ∀ S' H' σ', Grow fr S S' → Rel X.K fr S' σ' H' Δ' → (∀ us : List Nat, (∀ i ∈ vs, i ∈ us) → wipe σ' us = wipe σ us) → Q σ' H') → t xs σ H Q
@[simp, reducible] def gNilD : List D → DS → Option DS := fun ds Δ => match ds with
  | [] => some Δ
  | _ :: _ => none
@[simp, reducible] def gConsD (g : TV → DS → Option DS) (h : List D → DS → Option DS) : List D → DS → Option DS := fun ds Δ => match ds with
  | [] => none
  | d :: ds => (g (.sh d) Δ).bind fun Δ' => h ds Δ'
theorem dtgs_nil : Dtgs X [] [] gNilD := by
  refine ⟨_, pgs_nil, fun fr S H σ Δ xs ds Q rl rx w => ?_⟩
  cases rx with
  | nil => exact ⟨rfl, oWp_some w S H σ (Grow.refl fr S) rl fun _ _ => rfl⟩
  | cons _ _ => exact w.elim
theorem dtgs_cons {tgs : List Expr} {ws : List Nat} {fh : List D → DS → Option DS} (h1 : Dtg X tg vs fg) (h2 : Dtgs X tgs ws fh) (hs : (assignEach (tg :: tgs) X.env).map (·.2) = assign tg X.env :: (assignEach tgs X.env).map (·.2) := by rfl) :
    Dtgs X (tg :: tgs) (vs ++ ws) (gConsD fg fh) := by
  obtain ⟨t, p, h1⟩ := h1
  obtain ⟨u, q, h2⟩ := h2
  refine ⟨_, pgs_cons p q hs, fun fr S H σ Δ xs ds Q rl rx w => ?_⟩
  cases rx with
  | nil => exact w.elim
  | @cons v vs' d ds' r rr =>
    refine ⟨v, vs', rfl, h1 fr S H σ Δ v (.sh d) _ rl (.sh r) (oWp_mono (oWp_bind w) fun Δ1 w1 S1 H1 σ1 g1 r1 e1 => ?_)⟩
    refine h2 fr S1 H1 σ1 Δ1 vs' ds' Q r1 (RpL.mono g1.sub _ rr) (oWp_mono w1 fun Δ2 w2 S2 H2 σ2 g2 r2 e2 => ?_)
    exact w2 S2 H2 σ2 (g1.trans g2) r2 fun us h => (e2 us fun i hi => h i (List.mem_append_right _ hi)).trans (e1 us fun i hi => h i (List.mem_append_left _ hi))
@[simp, reducible] def gTupD (n : Nat) (h : List D → DS → Option DS) : TV → DS → Option DS := fun tv Δ => match tv with
  | .sh (.tup l) => if l.length = n then h l Δ else none
  | .sh (.lst l) => if l.length = n then h l Δ else none
  | .ow (.lst l) => if l.length = n then h l Δ else none
  | _ => none
theorem pg_or {tg : Expr} {t u : TG} (h1 : PG X tg t) (h2 : PG X tg u) : PG X tg (fun v σ H Q => t v σ H Q ∨ u v σ H Q) :=
  ⟨fun pins s σ H v w Q I r hw => hw.elim (fun z => h1.run pins s σ H v w Q I r z) fun z => h2.run pins s σ H v w Q I r z⟩
theorem dt_tup {tgs : List Expr} {k n : Nat} {fh : List D → DS → Option DS} (hc : X.calm = true) (h : Dtgs X tgs vs fh) (hn : (assignEach tgs X.env).length = n := by rfl) (hst : (assignEach tgs X.env).findIdx? (·.1) = none := by rfl) :
    Dtg X (.Tuple tgs k pos) vs (gTupD n fh) := by
  obtain ⟨t, p, h⟩ := h
  refine ⟨_, pg_or (pg_tup hc p hn hst) (pg_unl hc p hn hst), fun fr S H σ Δ v tv Q rl tk w => ?_⟩
  have cut : ∀ {ds0 : List D}, oWp (if ds0.length = n then fh ds0 Δ else none) (fun Δ' => ∀ S' H' σ', Grow fr S S' → Rel X.K fr S' σ' H' Δ' → (∀ us : List Nat, (∀ i ∈ vs, i ∈ us) → wipe σ' us = wipe σ us) → Q σ' H') → ds0.length = n ∧ oWp (fh ds0 Δ) (fun Δ' => ∀ S' H' σ', Grow fr S S' → Rel X.K fr S' σ' H' Δ' → (∀ us : List Nat, (∀ i ∈ vs, i ∈ us) → wipe σ' us = wipe σ us) → Q σ' H') := fun {ds0} w' => by
    by_cases hl : ds0.length = n
    · rw [if_pos hl] at w'
      exact ⟨hl, w'⟩
    · rw [if_neg hl] at w'
      exact w'.elim
  cases tk with
  | @ow a d o ns =>
    obtain ⟨ho, h1, h2⟩ := o.at_
    cases h2 with
    | @lst xs ds r =>
      obtain ⟨hl, w'⟩ := cut (ds0 := ds) w
      exact .inr ⟨_, _, rfl, SqL.of h1, by rw [r.length]; exact hl, h fr S H σ Δ _ _ Q rl r w'⟩
    | _ => exact w.elim
  | @sh _ d rp =>
    cases rp with
    | @tup a0 xs0 ds0 h1 h2 =>
      obtain ⟨hl, w'⟩ := cut (ds0 := ds0) w
      exact .inl ⟨_, _, rfl, sqT_same rl.fro.sub h1, by rw [h2.length]; exact hl, h fr S H σ Δ _ _ Q rl h2 w'⟩
    | @lst a0 xs0 ds0 h1 h2 =>
      obtain ⟨hl, w'⟩ := cut (ds0 := ds0) w
      exact .inr ⟨_, _, rfl, SqL.of (rl.fro.sub _ _ h1), by rw [h2.length]; exact hl, h fr S H σ Δ _ _ Q rl h2 w'⟩
    | _ => exact w.elim
@[simp, reducible] def fAsg (f : DS → R (TV × DS)) (g : TV → DS → Option DS) : DS → R (Fl × DS) := fun Δ => f Δ >>= fun r => R.of (g r.1 r.2) >>= fun Δ' => .ok (.nx, Δ')
theorem ds_asg (he : DO X E e fo) (hg : Dtg X tg vs fg) (hs : swapsWithSole [tg] e pos.line X.env = pure false := by rfl) (hw : swappedStores [tg] e X.env = pure none := by rfl)
    (h1 : (assignEach [tg] X.env).map (·.2) = [assign tg X.env] := by rfl) : Dst X E (.Assign [tg] e pos) (fAsg fo fg) := by
  obtain ⟨t, p, he⟩ := he
  obtain ⟨u, q, hg⟩ := hg
  refine ⟨_, ps_asg p q hs hw h1, fun fr S H σ Δ N rl w => ?_⟩
  refine he fr S H σ Δ _ rl (wp_mono (wp_bind w) (fun r w1 S1 H1 v g1 r1 tk => ?_) fun _ _ z => z)
  refine hg fr S1 H1 σ r.2 v r.1 _ r1 tk (oWp_mono (of_wp (wp_bind w1)) fun Δ' w2 S2 H2 σ2 g2 r2 _ => ?_)
  exact wp_ok w2 S2 H2 σ2 (g1.trans g2) r2
/-- name = e -/
theorem ds_set {i : Nat} {x : Str} {pos' : Pos} (hN : X.N.Nodup) (he : DO X E e fo) (hi : X.N[i]? = some x := by rfl) (hx : Loc X.env.scope x := by first | exact Or.inl rfl | exact Or.inr rfl) (hs : swapsWith e (some (.Name x pos')) pos.line X.env = pure false := by rfl) (hf : X.fn x = true ∨ X.env.scope.names.lookup x = some .local := by first | exact .inl rfl | exact .inr rfl | assumption) :
    Dst X E (.Assign [.Name x pos'] e pos) (fAsg fo (gSet i)) := by
  obtain ⟨t, p, he⟩ := he
  refine ⟨_, ps_set hN hi hx p hs hf, fun fr S H σ Δ N rl w => ?_⟩
  refine he fr S H σ Δ _ rl (wp_mono (wp_bind w) (fun r w1 S1 H1 v g1 r1 tk => ?_) fun _ _ z => z)
  have w2 := oWp_some (of_wp (wp_bind w1))
  refine wp_ok w2 S1 H1 _ g1 ?_
  obtain ⟨tv, Δ1⟩ := r
  cases tk with
  | sh rp => exact r1.setSlot (s := .sh _) ⟨v, rfl, rp⟩ fun _ _ z => by cases z
  | @ow a0 d0 w0 ns =>
    refine r1.setSlot (s := .ow d0) ⟨a0, rfl, w0⟩ fun d a z y => ?_
    cases y
    exact ns
end

/-! ## protecting what nobody owns by name -/
@[simp, reducible] def Frm.add (fr : Frm) (a : Addr) (o : HO) : Frm := ⟨upd fr.prot a o, fr.pq⟩
section
variable {K : PySem.W.Frag} {fr : Frm} {S S' H H' : Hp} {σ : L2.St} {Δ : DS} {a : Addr} {o : HO}
theorem Rel.protect (r : Rel K fr S σ H Δ) (h : H a = some o) (nS : S a = none) (nq : ∀ p q, fr.pq = some (p, q) → a ≠ p ∧ a ≠ q) (ns : NoSlot σ Δ.1 a) : Rel K (fr.add a o) S σ H Δ := by
  refine ⟨⟨r.fro.sub, fun b u e => ?_, fun p q e => ?_⟩, r.len, fun i s e => ?_, r.dist⟩
  · by_cases hb : b = a
    · subst hb
      rw [show (fr.add b o).prot b = some o from upd_same] at e
      cases e
      exact h
    · rw [show (fr.add a o).prot b = fr.prot b from upd_ne hb] at e
      exact r.fro.prt b u e
  · obtain ⟨z1, z2, z3, z4, z5⟩ := r.fro.stm p q e
    obtain ⟨n1, n2⟩ := nq p q e
    exact ⟨z1, z2, z3, by rw [show (fr.add a o).prot p = fr.prot p from upd_ne n1.symm]; exact z4, by rw [show (fr.add a o).prot q = fr.prot q from upd_ne n2.symm]; exact z5⟩
  · obtain ⟨u, e1, q1⟩ := r.slot i s e
    refine ⟨u, e1, ?_⟩
    cases s with
    | un => exact trivial
    | sh d => exact q1
    | stm => exact q1
    | ow d =>
      obtain ⟨b, e2, w⟩ := q1
      have nb : b ≠ a := fun z => ns i d e (by rw [e1, e2, z])
      exact ⟨b, e2, w.at_, w.offS, by rw [show (fr.add a o).prot b = fr.prot b from upd_ne nb]; exact w.offP, w.offQ⟩
theorem Grow.unprotect (g : Grow (fr.add a o) S S') (nS : S a = none) : Grow fr S S' ∧ S' a = none := by
  have hz : S' a = none := g.off a o upd_same nS
  refine ⟨⟨g.sub, fun b u e n => ?_⟩, hz⟩
  by_cases hb : b = a
  · rw [hb]; exact hz
  · exact g.off b u (by rw [show (fr.add a o).prot b = fr.prot b from upd_ne hb]; exact e) n
theorem Rel.unprotect (r : Rel K (fr.add a o) S σ H Δ) (nP : fr.prot a = none) (nq : ∀ p q, fr.pq = some (p, q) → a ≠ p ∧ a ≠ q) : Rel K fr S σ H Δ ∧ H a = some o ∧ NoSlot σ Δ.1 a := by
  have sub : ∀ b u, fr.prot b = some u → (fr.add a o).prot b = some u := fun b u e => by
    rw [show (fr.add a o).prot b = fr.prot b from upd_ne (ne_of_none e nP)]
    exact e
  have off : ∀ b, (fr.add a o).prot b = none → fr.prot b = none := fun b e => by
    by_cases hb : b = a
    · rw [hb]; exact nP
    · rw [show (fr.add a o).prot b = fr.prot b from upd_ne hb] at e
      exact e
  refine ⟨⟨⟨r.fro.sub, fun b u e => r.fro.prt b u (sub b u e), fun p q e => ?_⟩, r.len, fun i s e => ?_, r.dist⟩, r.fro.prt a o upd_same, fun i d e z => ?_⟩
  · obtain ⟨z1, z2, z3, z4, z5⟩ := r.fro.stm p q e
    exact ⟨z1, z2, z3, off p z4, off q z5⟩
  · obtain ⟨u, e1, q1⟩ := r.slot i s e
    refine ⟨u, e1, ?_⟩
    cases s with
    | un => exact trivial
    | sh d => exact q1
    | stm => exact q1
    | ow d =>
      obtain ⟨b, e2, w⟩ := q1
      exact ⟨b, e2, w.at_, w.offS, off b w.offP, w.offQ⟩
  · obtain ⟨b, e2, w⟩ := r.own e
    rw [z] at e2
    cases e2
    have := w.offP
    rw [show (fr.add a o).prot a = some o from upd_same] at this
    cases this
theorem Own.grow (w : Own K fr S H a o') (g : Same S S') (h : H' a = H a) (n : S' a = none) : Own K fr S' H' a o' := by
  obtain ⟨⟨ho, h1, h2⟩, w1, w2, w3⟩ := w
  exact ⟨⟨ho, h.trans h1, h2.mono g⟩, n, w2, w3⟩
end

/-! ## a, b, .. = e1, e2, ..: what is new stays owned -/
def TvsOk (K : PySem.W.Frag) (fr : Frm) (S H : Hp) (σ : L2.St) (g : Sl) : List V → List TV → Prop
  | [], [] => True
  | v :: vs, tv :: tvs => TvOk K fr S H σ g v tv ∧ (∀ d, tv = .ow d → ∀ a, v = .ref a → ∀ w ∈ vs.zip tvs, ∀ d', w.2 = .ow d' → w.1 ≠ .ref a) ∧ TvsOk K fr S H σ g vs tvs
  | _, _ => False
section
variable {X : Cx} {E : XK} {e a b c tg : Expr} {es rest : List Expr} {st : Stmt} {sts body els : List Stmt} {pos : Pos} {fa fb : DS → R (D × DS)} {fo : DS → R (TV × DS)} {ft : DS → R (Bool × DS)} {f1 f2 f3 : DS → R (Fl × DS)} {fl : DS → R (List TV × DS)} {vs : List Nat} {fg : TV → DS → Option DS}
def DAo (X : Cx) (E : XK) (es : List Expr) (f : DS → R (List TV × DS)) : Prop := ∃ t, PA X es t ∧ ∀ fr S H σ Δ Q, Rel X.K fr S σ H Δ →
  (f Δ).wp (fun r => ∀ S' H' vs, Grow fr S S' → Rel X.K fr S' σ H' r.2 → TvsOk X.K fr S' H' σ r.2.1 vs r.1 → Q vs H') (XP X.K X.mg fr S E) → t σ H Q
@[simp, reducible] def fNilO : DS → R (List TV × DS) := fun Δ => .ok ([], Δ)
@[simp, reducible] def fConsO (f : DS → R (TV × DS)) (g : DS → R (List TV × DS)) : DS → R (List TV × DS) := fun Δ => f Δ >>= fun p => g p.2 >>= fun q => .ok (p.1 :: q.1, q.2)
theorem dao_nil : DAo X E [] fNilO := ⟨_, pa_nil, fun fr S H σ Δ Q rl w => wp_ok w S H [] (Grow.refl fr S) rl trivial⟩
theorem XP.protect {K : PySem.W.Frag} {mg : Str → Option Value} {fr : Frm} {S : Hp} {E : XK} {x : Xn} {st : Strm} {a : Addr} {o : HO} (nS : S a = none) (nP : fr.prot a = none) (h : XP K mg fr S E x st) : XP K mg (fr.add a o) S E x st :=
  fun S' H' cls xd g f r => h S' H' cls xd (g.unprotect nS).1 ⟨f.sub, fun b u e => f.prt b u (by rw [show (fr.add a o).prot b = fr.prot b from upd_ne (ne_of_none e nP)]; exact e), fun p q e => by
    obtain ⟨z1, z2, z3, z4, z5⟩ := f.stm p q e
    have off : ∀ b, (fr.add a o).prot b = none → fr.prot b = none := fun b e => by
      by_cases hb : b = a
      · rw [hb]; exact nP
      · rw [show (fr.add a o).prot b = fr.prot b from upd_ne hb] at e
        exact e
    exact ⟨z1, z2, z3, off p z4, off q z5⟩⟩ r
theorem TvsOk.unprotect {K : PySem.W.Frag} {fr : Frm} {S H : Hp} {σ : L2.St} {g : Sl} {a : Addr} {o : HO} (nP : fr.prot a = none) : ∀ {vs : List V} {tvs : List TV}, TvsOk K (fr.add a o) S H σ g vs tvs → TvsOk K fr S H σ g vs tvs ∧ ∀ w ∈ vs.zip tvs, ∀ d', w.2 = .ow d' → w.1 ≠ .ref a
  | [], [], _ => ⟨trivial, fun w h => by cases h⟩
  | [], _ :: _, h => h.elim
  | _ :: _, [], h => h.elim
  | v :: vs, tv :: tvs, ⟨h1, h2, h3⟩ => by
    obtain ⟨i1, i2⟩ := TvsOk.unprotect nP h3
    cases h1 with
    | sh rp =>
      refine ⟨⟨.sh rp, h2, i1⟩, fun w hw d' e => ?_⟩
      rcases List.mem_cons.mp hw with z | z
      · subst z; cases e
      · exact i2 w z d' e
    | @ow b d w0 ns =>
      have nb : b ≠ a := fun z => by
        have q := w0.offP
        rw [z, show (fr.add a o).prot a = some o from upd_same] at q
        cases q
      refine ⟨⟨.ow ⟨w0.at_, w0.offS, by rw [← show (fr.add a o).prot b = fr.prot b from upd_ne nb]; exact w0.offP, w0.offQ⟩ ns, h2, i1⟩, fun w hw d' e => ?_⟩
      rcases List.mem_cons.mp hw with z | z
      · subst z
        intro q
        cases q
        exact nb rfl
      · exact i2 w z d' e
theorem dao_cons (ha : DO X E e fo) (hr : DAo X E es fl) (hs : starEach (e :: es) X.env = (false, eval e X.env) :: starEach es X.env := by rfl) : DAo X E (e :: es) (fConsO fo fl) := by
  obtain ⟨t, p, ha⟩ := ha
  obtain ⟨u, q, hb⟩ := hr
  refine ⟨_, pa_cons p q hs, fun fr S H σ Δ Q rl w => ?_⟩
  refine ha fr S H σ Δ _ rl (wp_mono (wp_bind w) (fun p w1 S1 H1 v g1 r1 tk => ?_) fun _ _ z => z)
  obtain ⟨tv, Δ1⟩ := p
  cases tk with
  | sh rp =>
    refine hb fr S1 H1 σ Δ1 _ r1 (wp_mono (wp_bind w1) (fun q w2 S2 H2 vs g2 r2 rvs => ?_) fun _ _ z => z.grow g1)
    exact wp_ok w2 S2 H2 _ (g1.trans g2) r2 ⟨.sh (Rp.mono g2.sub _ rp), (fun d z => by cases z), rvs⟩
  | @ow b d w0 ns =>
    obtain ⟨ho, h1, h2⟩ := w0.at_
    refine hb (fr.add b ho) S1 H1 σ Δ1 _ (r1.protect h1 w0.offS w0.offQ ns) (wp_mono (wp_bind w1) (fun q w2 S2 H2 vs g2 r2 rvs => ?_) fun _ _ z => (z.grow g1).protect w0.offS w0.offP)
    obtain ⟨g3, n3⟩ := g2.unprotect w0.offS
    obtain ⟨r3, e3, ns3⟩ := r2.unprotect w0.offP w0.offQ
    obtain ⟨t3, d3⟩ := rvs.unprotect w0.offP
    refine wp_ok w2 S2 H2 _ (g1.trans g3) r3 ⟨.ow (w0.grow g3.sub (e3.trans h1.symm) n3) ns3, fun d' z a' za w' hw d'' zd => ?_, t3⟩
    cases za
    exact d3 w' hw d'' zd
@[simp, reducible] def gNames : List Nat → List TV → DS → Option DS
  | [], [], Δ => some Δ
  | i :: is, tv :: tvs, Δ => gNames is tvs (Δ.1.set i tv.sv, Δ.2)
  | _, _, _ => none
def setAll : List Nat → List V → L2.St → L2.St
  | i :: is, v :: vs, σ => setAll is vs (σ.set i (some v))
  | _, _, σ => σ
theorem TvsOk.stored {K : PySem.W.Frag} {fr : Frm} {S H : Hp} {σ : L2.St} {g : Sl} {i : Nat} {s : SV} {v : V} (hl : σ.length = g.length) : ∀ {vs : List V} {tvs : List TV}, (∀ d a, s = .ow d → v = .ref a → ∀ w ∈ vs.zip tvs, ∀ d', w.2 = .ow d' → w.1 ≠ .ref a) →
    TvsOk K fr S H σ g vs tvs → TvsOk K fr S H (σ.set i (some v)) (g.set i s) vs tvs
  | [], [], _, _ => trivial
  | [], _ :: _, _, h => h.elim
  | _ :: _, [], _, h => h.elim
  | u :: vs, tv :: tvs, hd, ⟨h1, h2, h3⟩ => by
    refine ⟨?_, h2, TvsOk.stored hl (fun d a z y w hw => hd d a z y w (List.mem_cons_of_mem _ hw)) h3⟩
    cases h1 with
    | sh rp => exact .sh rp
    | @ow b d w0 ns =>
      refine .ow w0 fun j d' e z => ?_
      by_cases hj : i = j
      · subst hj
        have hlt : i < g.length := by
          by_cases hlt : i < g.length
          · exact hlt
          · rw [List.getElem?_eq_none (by simpa using hlt)] at e
            cases e
        rw [List.getElem?_set_self hlt] at e
        rw [List.getElem?_set_self (by rw [hl]; exact hlt)] at z
        have e1 := Option.some.inj e
        have z1 := Option.some.inj (Option.some.inj z)
        exact hd d' b e1 z1 (.ref b, .ow d) List.mem_cons_self d rfl rfl
      · rw [List.getElem?_set_ne hj] at e z
        exact ns j d' e z
theorem names_rel {K : PySem.W.Frag} {fr : Frm} {S H : Hp} : ∀ {is : List Nat} {vs : List V} {tvs : List TV} {σ : L2.St} {Δ Δ' : DS}, Rel K fr S σ H Δ → TvsOk K fr S H σ Δ.1 vs tvs → gNames is tvs Δ = some Δ' → vs.length = is.length ∧ Rel K fr S (setAll is vs σ) H Δ'
  | [], [], [], σ, Δ, Δ', r, _, e => by
    cases e
    exact ⟨rfl, r⟩
  | i :: is, v :: vs, tv :: tvs, σ, Δ, Δ', r, ⟨h1, h2, h3⟩, e => by
    have r2 : Rel K fr S (σ.set i (some v)) H (Δ.1.set i tv.sv, Δ.2) := by
      cases h1 with
      | sh rp => exact r.setSlot (s := .sh _) ⟨v, rfl, rp⟩ fun _ _ z => by cases z
      | @ow a0 d0 w0 ns =>
        refine r.setSlot (s := .ow d0) ⟨a0, rfl, w0⟩ fun d a z y => ?_
        cases y
        exact ns
    have t2 : TvsOk K fr S H (σ.set i (some v)) (Δ.1.set i tv.sv) vs tvs := h3.stored r.len fun d a z y w hw d' zd => by
      cases tv with
      | sh d0 => cases z
      | ow d0 => exact h2 d0 rfl a y w hw d' zd
    obtain ⟨l1, r3⟩ := names_rel (is := is) r2 t2 e
    exact ⟨by simp [l1], r3⟩
  | [], _ :: _, [], _, _, _, _, h, _ => h.elim
  | [], [], _ :: _, _, _, _, _, h, _ => h.elim
  | [], _ :: _, _ :: _, _, _, _, _, _, e => by cases e
  | _ :: _, [], [], _, _, _, _, _, e => by cases e
  | _ :: _, _ :: _, [], _, _, _, _, h, _ => h.elim
  | _ :: _, [], _ :: _, _, _, _, _, h, _ => h.elim
@[simp, reducible] def fPar (is : List Nat) (f : DS → R (List TV × DS)) : DS → R (Fl × DS) := fun Δ => f Δ >>= fun p => R.of (gNames is p.1 p.2) >>= fun Δ' => .ok (.nx, Δ')
theorem ds_par2 {i j : Nat} {x y : Str} {px py pt : Pos} {kt k2 pt2} (hc : X.calm = true) (hN : X.N.Nodup) (hi : X.N[i]? = some x) (hj : X.N[j]? = some y) (hij : i ≠ j)
    (hx : X.env.scope.names.lookup x = some .local) (hy : X.env.scope.names.lookup y = some .local) (ha : DAo X E [a, b] fl)
    (hw : swappedStores [.Tuple [.Name x px, .Name y py] kt pt] (.Tuple [a, b] k2 pt2) X.env = pure (some [x, y]))
    (hs : swapsWithSole [.Tuple [.Name x px, .Name y py] kt pt] (.Tuple [a, b] k2 pt2) pos.line X.env = pure false := by rfl) :
    Dst X E (.Assign [.Tuple [.Name x px, .Name y py] kt pt] (.Tuple [a, b] k2 pt2) pos) (fPar [i, j] fl) := by
  obtain ⟨t, p, ha⟩ := ha
  refine ⟨_, ps_par hc hN hi hj hij hx hy p hw hs, fun fr S H σ Δ N rl w => ?_⟩
  refine ha fr S H σ Δ _ rl (wp_mono (wp_bind w) (fun r w1 S1 H1 vs g1 r1 tk => ?_) fun _ _ z => z)
  have w2 := of_wp (wp_bind w1)
  cases q : gNames [i, j] r.1 r.2 with
  | none => rw [q] at w2; exact w2.elim
  | some Δ' =>
    rw [q] at w2
    obtain ⟨l1, r2⟩ := names_rel r1 tk q
    match vs, l1 with
    | [v, u], _ => exact ⟨v, u, rfl, wp_ok (oWp_some w2) S1 H1 _ g1 r2⟩
theorem ds_par3 {i j l : Nat} {x y z : Str} {px py pz pt : Pos} {kt k2 pt2} (hc : X.calm = true) (hN : X.N.Nodup) (hi : X.N[i]? = some x) (hj : X.N[j]? = some y) (hl : X.N[l]? = some z) (hij : i ≠ j) (hil : i ≠ l) (hjl : j ≠ l)
    (hx : X.env.scope.names.lookup x = some .local) (hy : X.env.scope.names.lookup y = some .local) (hz : X.env.scope.names.lookup z = some .local) (ha : DAo X E [a, b, c] fl)
    (hw : swappedStores [.Tuple [.Name x px, .Name y py, .Name z pz] kt pt] (.Tuple [a, b, c] k2 pt2) X.env = pure (some [x, y, z]))
    (hs : swapsWithSole [.Tuple [.Name x px, .Name y py, .Name z pz] kt pt] (.Tuple [a, b, c] k2 pt2) pos.line X.env = pure false := by rfl) :
    Dst X E (.Assign [.Tuple [.Name x px, .Name y py, .Name z pz] kt pt] (.Tuple [a, b, c] k2 pt2) pos) (fPar [i, j, l] fl) := by
  obtain ⟨t, p, ha⟩ := ha
  refine ⟨_, ps_par3 hc hN hi hj hl hij hil hjl hx hy hz p hw hs, fun fr S H σ Δ N rl w => ?_⟩
  refine ha fr S H σ Δ _ rl (wp_mono (wp_bind w) (fun r w1 S1 H1 vs g1 r1 tk => ?_) fun _ _ z => z)
  have w2 := of_wp (wp_bind w1)
  cases q : gNames [i, j, l] r.1 r.2 with
  | none => rw [q] at w2; exact w2.elim
  | some Δ' =>
    rw [q] at w2
    obtain ⟨l1, r2⟩ := names_rel r1 tk q
    match vs, l1 with
    | [v, u, o], _ => exact ⟨v, u, o, rfl, wp_ok (oWp_some w2) S1 H1 _ g1 r2⟩
/-- the pair is made, then taken apart -/
theorem TvsOk.beside {K : PySem.W.Frag} {fr : Frm} {S H : Hp} {σ : L2.St} {g : Sl} {p : Addr} {o : HO} (n : H p = none) : ∀ {vs : List V} {tvs : List TV}, TvsOk K fr S H σ g vs tvs → TvsOk K fr S (upd H p o) σ g vs tvs
  | [], [], _ => trivial
  | [], _ :: _, h => h.elim
  | _ :: _, [], h => h.elim
  | u :: vs, tv :: tvs, ⟨h1, h2, h3⟩ => by
    refine ⟨?_, h2, TvsOk.beside n h3⟩
    cases h1 with
    | sh rp => exact .sh rp
    | @ow b d w0 ns =>
      obtain ⟨ho, e1, _⟩ := w0.at_
      exact .ow (w0.grow (Same.refl S) (upd_ne (ne_of_none e1 n)) w0.offS) ns
inductive Nms (X : Cx) : List Expr → List Nat → TGs → Prop
  | nil : Nms X [] [] gNil
  | cons {x : Str} {pos : Pos} {i : Nat} {es : List Expr} {is : List Nat} {t : TGs} (hN : X.N.Nodup) (h : Nms X es is t) (hi : X.N[i]? = some x := by rfl) (hx : Loc X.env.scope x := by first | exact Or.inl rfl | exact Or.inr rfl) (hf : X.fn x = true ∨ X.env.scope.names.lookup x = some .local := by first | exact .inl rfl | exact .inr rfl | assumption)
      (hs : (assignEach (.Name x pos :: es) X.env).map (·.2) = assign (.Name x pos) X.env :: (assignEach es X.env).map (·.2) := by rfl) : Nms X (.Name x pos :: es) (i :: is) (gCons (gName i) t)
theorem Nms.pgs {es : List Expr} {is : List Nat} {t : TGs} (h : Nms X es is t) : PGs X es t ∧ ∀ (vs : List V) (σ : L2.St) (H : Hp) (Q : L2.St → Hp → Prop), vs.length = is.length → Q (setAll is vs σ) H → t vs σ H Q := by
  induction h with
  | nil =>
    refine ⟨pgs_nil, fun vs σ H Q hl q => ?_⟩
    cases vs with
    | nil => exact ⟨rfl, q⟩
    | cons _ _ => cases hl
  | cons hN h hi hx hf hs ih =>
    refine ⟨pgs_cons (pg_name hN hi hx hf) ih.1 hs, fun vs σ H Q hl q => ?_⟩
    cases vs with
    | nil => cases hl
    | cons v vs => exact ⟨v, vs, rfl, ih.2 vs _ H Q (Nat.succ.inj hl) q⟩
theorem ds_parN {tgs : List Expr} {is : List Nat} {t : TGs} {k k2 n : Nat} {pt pt2 : Pos} (hc : X.calm = true) (hN : Nms X tgs is t) (ha : DAo X E es fl) (hl : is.length = n := by rfl) (hz : n ≤ 1000 := by decide) (hn : (assignEach tgs X.env).length = n := by rfl) (hst : (assignEach tgs X.env).findIdx? (·.1) = none := by rfl)
    (hs : swapsWithSole [.Tuple tgs k pt] (.Tuple es k2 pt2) pos.line X.env = pure false := by rfl) (hw : swappedStores [.Tuple tgs k pt] (.Tuple es k2 pt2) X.env = pure none := by rfl)
    (h1 : (assignEach [.Tuple tgs k pt] X.env).map (·.2) = [assign (.Tuple tgs k pt) X.env] := by rfl) :
    Dst X E (.Assign [.Tuple tgs k pt] (.Tuple es k2 pt2) pos) (fPar is fl) := by
  obtain ⟨t', p, ha⟩ := ha
  refine ⟨_, ps_asg (pe_tup p) (pg_tup hc hN.pgs.1 hn hst) hs hw h1, fun fr S H σ Δ N rl w => ?_⟩
  refine ha fr S H σ Δ _ rl (wp_mono (wp_bind w) (fun r w1 S1 H1 vs g1 r1 tk => ?_) fun _ _ z => z)
  have w2 := of_wp (wp_bind w1)
  cases q : gNames is r.1 r.2 with
  | none => rw [q] at w2; exact w2.elim
  | some Δ' =>
    rw [q] at w2
    obtain ⟨l1, _⟩ := names_rel r1 tk q
    refine ⟨by rw [l1, hl]; exact Nat.le_trans hz (by decide), fun a hn' => ?_⟩
    obtain ⟨_, r2⟩ := names_rel (r1.beside hn') (tk.beside hn') q
    exact ⟨a, vs, rfl, .inl (.inl upd_same), by rw [l1, hl], hN.pgs.2 vs σ _ _ l1 (wp_ok (oWp_some w2) S1 _ _ g1 r2)⟩
end
end DL
namespace DL
open PySem PySem.Spec PyProof.Rows L2

/-! ## what is walked -/
structure ItOk (K : PySem.W.Frag) (S : Hp) (J : It) (ds : List D) : Prop where
  goes : ∀ i H, i < ds.length → Same S H → J.go i H
  stops : ∀ H, Same S H → J.stop ds.length H
  yields : ∀ i H x H', i < ds.length → Same S H → J.yld i H x H' → ∃ d, ds[i]? = some d ∧ ((H' = H ∧ Rp K S x d) ∨ ∃ T xs es, x = .ref T ∧ H T = none ∧ H' = upd H T (.tup xs) ∧ d = .tup es ∧ RpL K S xs es)
def Dit (X : Cx) (E : XK) (tg iter : Expr) (f : DS → R (List D × DS)) : Prop := ∃ wi, PI X tg iter wi ∧ ∀ fr S H σ Δ (W : It → Hp → Prop), Rel X.K fr S σ H Δ →
  (f Δ).wp (fun r => ∀ S' H' J, Grow fr S S' → Rel X.K fr S' σ H' r.2 → ItOk X.K S' J r.1 → W J H') (XP X.K X.mg fr S E) → wi σ H W
theorem pi_or {X : Cx} {tg iter : Expr} {w1 w2 : TI} (h1 : PI X tg iter w1) (h2 : PI X tg iter w2) : PI X tg iter (fun σ H W => w1 σ H W ∨ w2 σ H W) :=
  ⟨fun pins s σ H W I h => h.elim (h1.run pins s σ H W I) (h2.run pins s σ H W I)⟩
theorem ItOk.of {K : PySem.W.Frag} {S : Hp} {J : It} {ds : List D} {n : Nat} {G : Hp → Prop} {Y : Nat → Hp → V → Hp → Prop} (w : Walk J n G Y) (hn : n = ds.length) (hG : ∀ H, Same S H → G H)
    (hY : ∀ i H x H', i < ds.length → Same S H → Y i H x H' → ∃ d, ds[i]? = some d ∧ ((H' = H ∧ Rp K S x d) ∨ ∃ T xs es, x = .ref T ∧ H T = none ∧ H' = upd H T (.tup xs) ∧ d = .tup es ∧ RpL K S xs es)) : ItOk K S J ds := by
  subst hn
  exact ⟨fun i H hi e => w.goes i H hi (hG H e), fun H e => w.stops H (hG H e), fun i H x H' hi e y => hY i H x H' hi e (w.yields i H x H' hi (hG H e) y)⟩
section
variable {X : Cx} {E : XK} {e a b c tg : Expr} {es rest : List Expr} {pos : Pos} {fa fb : DS → R (D × DS)} {fl : DS → R (List D × DS)}
def D.iter : D → Option (List D)
  | .lst l => some l
  | .tup l => some l
  | .str x => some (x.cps.toList.map fun c => .str ⟨#[c]⟩)
  | _ => none
@[simp] theorem iter_lst (l : List D) : D.iter (.lst l) = some l := rfl
@[simp] theorem iter_tup (l : List D) : D.iter (.tup l) = some l := rfl
@[simp, reducible] def fIter (f : DS → R (D × DS)) : DS → R (List D × DS) := fun Δ => f Δ >>= fun p => R.of p.1.iter >>= fun l => .ok (l, p.2)
/-- a list, a tuple or a text -/
theorem it_any (ha : DE X E a fa) : Dit X E tg a (fIter fa) := by
  obtain ⟨t, p, ha⟩ := ha
  refine ⟨_, pi_or (pi_list p) (pi_or (pi_tup p) (pi_str p)), fun fr S H σ Δ W rl w => ?_⟩
  cases q : fa Δ with
  | bad =>
    have w' : (fa Δ >>= fun p => R.of p.1.iter >>= fun l => R.ok (l, p.2)).wp _ _ := w
    rw [q] at w'
    exact w'.elim
  | exc x s =>
    have w' : (fa Δ >>= fun p => R.of p.1.iter >>= fun l => R.ok (l, p.2)).wp _ _ := w
    rw [q] at w'
    refine .inl (ha fr S H σ Δ _ rl ?_)
    rw [q]
    exact w'
  | ok r =>
    obtain ⟨d, Δ1⟩ := r
    have w' : (fa Δ >>= fun p => R.of p.1.iter >>= fun l => R.ok (l, p.2)).wp _ _ := w
    rw [q] at w'
    have w2 := of_wp (wp_bind w')
    have go : ∀ Q : VK, (∀ S' H' v, Grow fr S S' → Rel X.K fr S' σ H' Δ1 → Rp X.K S' v d → Q v H') → t σ H Q := fun Q hQ => ha fr S H σ Δ Q rl (by rw [q]; exact hQ)
    cases d with
    | lst l =>
      refine .inl (go _ fun S1 H1 v g1 r1 rv => ?_)
      cases rv with
      | @lst a0 xs _ h1 h2 =>
        refine ⟨a0, rfl, ⟨xs, SqL.of (r1.fro.sub _ _ h1)⟩, wp_ok (oWp_some w2) S1 H1 _ g1 r1 (ItOk.of (walk_list (xs := xs)) h2.length (fun H e => SqL.of (e _ _ h1)) fun i H x H' _ _ y => ?_)⟩
        obtain ⟨e1, e2⟩ := y
        obtain ⟨d, h3, h4⟩ := h2.getV e2
        exact ⟨d, h3, .inl ⟨e1, h4⟩⟩
    | tup l =>
      refine .inr (.inl (go _ fun S1 H1 v g1 r1 rv => ?_))
      cases rv with
      | @tup a0 xs _ h1 h2 =>
        refine ⟨a0, rfl, ⟨xs, sqT_same r1.fro.sub h1⟩, wp_ok (oWp_some w2) S1 H1 _ g1 r1 (ItOk.of (walk_tup (xs := xs)) h2.length (fun H e => sqT_same e h1) fun i H x H' _ _ y => ?_)⟩
        obtain ⟨e1, e2⟩ := y
        obtain ⟨d, h3, h4⟩ := h2.getV e2
        exact ⟨d, h3, .inl ⟨e1, h4⟩⟩
    | str z =>
      refine .inr (.inr (go _ fun S1 H1 v g1 r1 rv => ?_))
      cases rv with
      | str =>
        refine ⟨z, rfl, wp_ok (oWp_some w2) S1 H1 _ g1 r1 (ItOk.of (walk_str (z := z)) (by simp) (fun H e => trivial) fun i H x H' hi _ y => ?_)⟩
        obtain ⟨e1, c, e2, e3⟩ := y
        refine ⟨.str ⟨#[c]⟩, ?_, .inl ⟨e1, by rw [e3]; exact .str _⟩⟩
        rw [List.getElem?_map, Array.getElem?_toList, e2]
        rfl
    | _ => exact w2.elim
def D.rng1 : List D → Option (List D)
  | [.int j] => if chk (-(2 ^ 62) ≤ j ∧ j < 2 ^ 62) = true then some ((List.range j.toNat).map fun k => .int (k : Nat)) else none
  | _ => none
def D.rng2 : List D → Option (List D)
  | [.int i, .int j] => if chk (-(2 ^ 62) ≤ i ∧ i < 2 ^ 62 ∧ -(2 ^ 62) ≤ j ∧ j < 2 ^ 62) = true then some ((List.range (j - i).toNat).map fun k => .int (i + (k : Nat))) else none
  | _ => none
/-- how many steps range(i, j, c) has -/
def D.rng3 : List D → Option (List D)
  | [.int i, .int j, .int c] => if chk (c ≠ 0 ∧ c.natAbs < 1073741824 ∧ Builtin.Range.small i j c = true) = true then some ((List.range (Builtin.Range.rangeSize i j c).toNat).map fun k => .int (i + (k : Nat) * c)) else none
  | _ => none
theorem rng1_some {ds l : List D} (h : D.rng1 ds = some l) : ∃ j, ds = [.int j] ∧ (-(2 ^ 62) ≤ j ∧ j < 2 ^ 62) ∧ l = (List.range j.toNat).map fun k => .int (k : Nat) := by
  unfold D.rng1 at h
  split at h
  · split at h
    · rename_i hj
      cases h
      exact ⟨_, rfl, of_chk hj, rfl⟩
    · cases h
  · cases h
theorem rng2_some {ds l : List D} (h : D.rng2 ds = some l) : ∃ i j, ds = [.int i, .int j] ∧ (-(2 ^ 62) ≤ i ∧ i < 2 ^ 62 ∧ -(2 ^ 62) ≤ j ∧ j < 2 ^ 62) ∧ l = (List.range (j - i).toNat).map fun k => .int (i + (k : Nat)) := by
  unfold D.rng2 at h
  split at h
  · split at h
    · rename_i hj
      cases h
      exact ⟨_, _, rfl, of_chk hj, rfl⟩
    · cases h
  · cases h
theorem rng3_some {ds l : List D} (h : D.rng3 ds = some l) : ∃ i j c, ds = [.int i, .int j, .int c] ∧ (c ≠ 0 ∧ c.natAbs < 1073741824 ∧ Builtin.Range.small i j c = true) ∧ l = (List.range (Builtin.Range.rangeSize i j c).toNat).map fun k => .int (i + (k : Nat) * c) := by
  unfold D.rng3 at h
  split at h
  · split at h
    · rename_i hj
      cases h
      exact ⟨_, _, _, rfl, of_chk hj, rfl⟩
    · cases h
  · cases h
@[simp, reducible] def fRng (g : List D → Option (List D)) (f : DS → R (List D × DS)) : DS → R (List D × DS) := fun Δ => f Δ >>= fun p => R.of (g p.1) >>= fun l => .ok (l, p.2)
theorem it_range1 {p : Pos} (hg : Gl X "range") (hm : X.mg "range" = none) (ha : DA X E [a] fl) (hs : starEach [a] X.env = [(false, eval a X.env)] := by rfl) : Dit X E tg (.Call (.Name "range" p) [a] [] pos) (fRng D.rng1 fl) := by
  obtain ⟨t, q, ha⟩ := ha
  refine ⟨_, pi_range1 hg hm q hs, fun fr S H σ Δ W rl w => ?_⟩
  refine ha fr S H σ Δ _ rl (wp_mono (wp_bind w) (fun p w1 S1 H1 vs g1 r1 rv => ?_) fun _ _ z => z)
  have w2 := of_wp (wp_bind w1)
  obtain ⟨ds, Δ1⟩ := p
  cases q : D.rng1 ds with
  | none => rw [q] at w2; exact w2.elim
  | some l =>
    rw [q] at w2
    obtain ⟨j, rfl, hj, rfl⟩ := rng1_some q
    cases rv with
    | cons h1 h2 =>
      cases h1
      cases h2
      refine ⟨j, rfl, hj.1, hj.2, wp_ok (oWp_some w2) S1 H1 _ g1 r1 (ItOk.of (walk_range (lo := 0) (n := j.toNat)) (by simp) (fun H e => trivial) fun i H x H' hi _ y => ?_)⟩
      obtain ⟨e1, e2⟩ := y
      have e2 : x = .int (0 + (i : Nat)) := e2
      rw [Int.zero_add] at e2
      refine ⟨.int (i : Nat), ?_, .inl ⟨e1, by rw [e2]; exact .int _⟩⟩
      rw [List.getElem?_map, List.getElem?_range (by simpa using hi)]
      rfl
theorem it_range2 {p : Pos} (hg : Gl X "range") (hm : X.mg "range" = none) (ha : DA X E [a, b] fl) (hs : starEach [a, b] X.env = [(false, eval a X.env), (false, eval b X.env)] := by rfl) (hs2 : starEach [b] X.env = [(false, eval b X.env)] := by rfl) : Dit X E tg (.Call (.Name "range" p) [a, b] [] pos) (fRng D.rng2 fl) := by
  obtain ⟨t, q, ha⟩ := ha
  refine ⟨_, pi_range2 hg hm q hs hs2, fun fr S H σ Δ W rl w => ?_⟩
  refine ha fr S H σ Δ _ rl (wp_mono (wp_bind w) (fun p w1 S1 H1 vs g1 r1 rv => ?_) fun _ _ z => z)
  have w2 := of_wp (wp_bind w1)
  obtain ⟨ds, Δ1⟩ := p
  cases q : D.rng2 ds with
  | none => rw [q] at w2; exact w2.elim
  | some l =>
    rw [q] at w2
    obtain ⟨i, j, rfl, hj, rfl⟩ := rng2_some q
    cases rv with
    | cons h1 h2 =>
      cases h1
      cases h2 with
      | cons h2 h3 =>
        cases h2
        cases h3
        refine ⟨i, j, rfl, hj, wp_ok (oWp_some w2) S1 H1 _ g1 r1 (ItOk.of (walk_range (lo := i) (n := (j - i).toNat)) (by simp) (fun H e => trivial) fun k H x H' hi _ y => ?_)⟩
        obtain ⟨e1, e2⟩ := y
        refine ⟨.int (i + (k : Nat)), ?_, .inl ⟨e1, by rw [e2]; exact .int _⟩⟩
        rw [List.getElem?_map, List.getElem?_range (by simpa using hi)]
        rfl
theorem it_range3 {p : Pos} (hg : Gl X "range") (hm : X.mg "range" = none) (ha : DA X E [a, b, c] fl) (hs : starEach [a, b, c] X.env = (false, eval a X.env) :: starEach [b, c] X.env := by rfl)
    (hs2 : (backTo pos (starEach [b, c] X.env)).any (·.1) = false := by rfl) : Dit X E tg (.Call (.Name "range" p) [a, b, c] [] pos) (fRng D.rng3 fl) := by
  obtain ⟨t, q, ha⟩ := ha
  refine ⟨_, pi_range3 hg hm q hs hs2, fun fr S H σ Δ W rl w => ?_⟩
  refine ha fr S H σ Δ _ rl (wp_mono (wp_bind w) (fun p w1 S1 H1 vs g1 r1 rv => ?_) fun _ _ z => z)
  have w2 := of_wp (wp_bind w1)
  obtain ⟨ds, Δ1⟩ := p
  cases q : D.rng3 ds with
  | none => rw [q] at w2; exact w2.elim
  | some l =>
    rw [q] at w2
    obtain ⟨i, j, c, rfl, hj, rfl⟩ := rng3_some q
    cases rv with
    | cons h1 h2 =>
      cases h1
      cases h2 with
      | cons h2 h3 =>
        cases h2
        cases h3 with
        | cons h3 h4 =>
          cases h3
          cases h4
          have hsz : (0 : Int) ≤ Builtin.Range.rangeSize i j c := by rw [rangeSize_toNat]; exact Int.natCast_nonneg _
          refine ⟨i, j, c, _, rfl, ⟨hj.1, hj.2.1, hj.2.2, (Int.toNat_of_nonneg hsz).symm⟩, wp_ok (oWp_some w2) S1 H1 _ g1 r1 (ItOk.of (walk_rangeC (lo := i) (c := c) (n := (Builtin.Range.rangeSize i j c).toNat)) (by simp) (fun H e => trivial) fun k H x H' hi _ y => ?_)⟩
          obtain ⟨e1, e2⟩ := y
          refine ⟨.int (i + (k : Nat) * c), ?_, .inl ⟨e1, by rw [e2]; exact .int _⟩⟩
          rw [List.getElem?_map, List.getElem?_range (by simpa using hi)]
          rfl
/-- enumerate(list), zip(list, list), zip(tuple, tuple) -/
@[simp, reducible] def D.enm : List D → Option (List D)
  | [.lst l] => some (l.zipIdx.map fun p => .tup [.int (p.2 : Nat), p.1])
  | _ => none
@[simp, reducible] def D.zp : List D → Option (List D)
  | [.lst l, .lst m] => some ((l.zip m).map fun p => .tup [p.1, p.2])
  | [.tup l, .tup m] => some ((l.zip m).map fun p => .tup [p.1, p.2])
  | _ => none
theorem enm_some {ds l : List D} (h : D.enm ds = some l) : ∃ m, ds = [.lst m] ∧ l = m.zipIdx.map fun p => .tup [.int (p.2 : Nat), p.1] := by
  unfold D.enm at h
  split at h
  · cases h
    exact ⟨_, rfl, rfl⟩
  · cases h
theorem zp_some {ds l : List D} (h : D.zp ds = some l) : ∃ m n, (ds = [.lst m, .lst n] ∨ ds = [.tup m, .tup n]) ∧ l = (m.zip n).map fun p => .tup [p.1, p.2] := by
  unfold D.zp at h
  split at h
  · cases h
    exact ⟨_, _, .inl rfl, rfl⟩
  · cases h
    exact ⟨_, _, .inr rfl, rfl⟩
  · cases h
theorem it_enum {p tpos : Pos} {elts : List Expr} {kk : Nat} (hg : Gl X "enumerate") (hm : X.mg "enumerate" = none) (ha : DA X E [a] fl) (hs : starEach [a] X.env = [(false, eval a X.env)] := by rfl) : Dit X E (.Tuple elts kk tpos) (.Call (.Name "enumerate" p) [a] [] pos) (fRng D.enm fl) := by
  obtain ⟨t, q, ha⟩ := ha
  refine ⟨_, pi_enum hg hm q hs, fun fr S H σ Δ W rl w => ?_⟩
  refine ha fr S H σ Δ _ rl (wp_mono (wp_bind w) (fun p w1 S1 H1 vs g1 r1 rv => ?_) fun _ _ z => z)
  have w2 := of_wp (wp_bind w1)
  obtain ⟨ds, Δ1⟩ := p
  cases q : D.enm ds with
  | none => rw [q] at w2; exact w2.elim
  | some l =>
    rw [q] at w2
    obtain ⟨m, rfl, rfl⟩ := enm_some q
    cases rv with
    | cons h1 h2 =>
      cases h2
      cases h1 with
      | @lst a0 xs _ h1 h2 =>
        refine ⟨a0, xs, rfl, SqL.of (r1.fro.sub _ _ h1), wp_ok (oWp_some w2) S1 H1 _ g1 r1 (ItOk.of (walk_enum (xs := xs)) (by simp [h2.length]) (fun H e => SqL.of (e _ _ h1)) fun i H x H' hi _ y => ?_)⟩
        obtain ⟨T, x1, x2, e1, e2, e3, e4, e5⟩ := y
        obtain ⟨d, h3, h4⟩ := h2.getV e5
        cases e4
        refine ⟨.tup [.int (i : Nat), d], ?_, .inr ⟨T, _, _, e1, e2, e3, rfl, .cons (.int _) (.cons h4 .nil)⟩⟩
        rw [List.getElem?_map, List.getElem?_zipIdx, h3]
        simp
theorem it_zip {p tpos : Pos} {elts : List Expr} {kk : Nat} (hg : Gl X "zip") (hm : X.mg "zip" = none) (ha : DA X E [a, b] fl) (hs : starEach [a, b] X.env = (false, eval a X.env) :: starEach [b] X.env := by rfl)
    (hpl : (backTo pos (starEach [b] X.env)).any (·.1) = false := by rfl) : Dit X E (.Tuple elts kk tpos) (.Call (.Name "zip" p) [a, b] [] pos) (fRng D.zp fl) := by
  obtain ⟨t, q, ha⟩ := ha
  refine ⟨_, RZ.pi_zipA hg hm q hs hpl, fun fr S H σ Δ W rl w => ?_⟩
  refine ha fr S H σ Δ _ rl (wp_mono (wp_bind w) (fun p w1 S1 H1 vs g1 r1 rv => ?_) fun _ _ z => z)
  have w2 := of_wp (wp_bind w1)
  obtain ⟨ds, Δ1⟩ := p
  cases q : D.zp ds with
  | none => rw [q] at w2; exact w2.elim
  | some l =>
    rw [q] at w2
    obtain ⟨m, n, e, rfl⟩ := zp_some q
    have fin : ∀ (xs ys : List V) (i : Nat) (H : Hp) (x : V) (H' : Hp), RpL X.K S1 xs m → RpL X.K S1 ys n → YPair (fun i => xs[i]?) (fun i => ys[i]?) i H x H' →
        ∃ d, ((m.zip n).map fun p => D.tup [p.1, p.2])[i]? = some d ∧ ((H' = H ∧ Rp X.K S1 x d) ∨ ∃ T xs es, x = .ref T ∧ H T = none ∧ H' = upd H T (.tup xs) ∧ d = .tup es ∧ RpL X.K S1 xs es) := fun xs ys i H x H' hx hy y => by
      obtain ⟨T, x1, x2, e1, e2, e3, e4, e5⟩ := y
      obtain ⟨d1, h3, h4⟩ := hx.getV e4
      obtain ⟨d2, h5, h6⟩ := hy.getV e5
      refine ⟨.tup [d1, d2], ?_, .inr ⟨T, _, _, e1, e2, e3, rfl, .cons h4 (.cons h6 .nil)⟩⟩
      rw [List.getElem?_map, List.getElem?_zip_eq_some.mpr (show m[i]? = some (d1, d2).1 ∧ n[i]? = some (d1, d2).2 from ⟨h3, h5⟩)]
      rfl
    rcases e with rfl | rfl
    · cases rv with
      | cons h1 h2 =>
        cases h2 with
        | cons h2 h3 =>
          cases h3
          cases h1 with
          | @lst a0 xs _ h1 h1' =>
            cases h2 with
            | @lst b0 ys _ h2 h2' =>
              exact ⟨a0, b0, xs, ys, rfl, .inl ⟨SqL.of (r1.fro.sub _ _ h1), SqL.of (r1.fro.sub _ _ h2), wp_ok (oWp_some w2) S1 H1 _ g1 r1 (ItOk.of (walk_zip (xs := xs) (ys := ys) rfl) (by simp [h1'.length, h2'.length]) (fun H e => ⟨SqL.of (e _ _ h1), SqL.of (e _ _ h2)⟩) fun i H x H' hi _ y => fin xs ys i H x H' h1' h2' y)⟩⟩
    · cases rv with
      | cons h1 h2 =>
        cases h2 with
        | cons h2 h3 =>
          cases h3
          cases h1 with
          | @tup a0 xs _ h1 h1' =>
            cases h2 with
            | @tup b0 ys _ h2 h2' =>
              refine ⟨a0, b0, xs, ys, rfl, .inr ⟨sqT_same r1.fro.sub h1, sqT_same r1.fro.sub h2, wp_ok (oWp_some w2) S1 H1 _ g1 r1 ?_⟩⟩
              have ln : ((m.zip n).map fun p => D.tup [p.1, p.2]).length = min xs.length ys.length := by simp [h1'.length, h2'.length]
              refine ⟨fun i H hi e => ?_, fun H e => ⟨xs, ys, sqT_same e h1, sqT_same e h2, by rw [ln]; omega⟩, fun i H x H' hi e y => ?_⟩
              · rw [ln] at hi
                have i1 : i < xs.length := by omega
                have i2 : i < ys.length := by omega
                exact ⟨xs, ys, xs[i], ys[i], sqT_same e h1, sqT_same e h2, by simp [i1], by simp [i2]⟩
              · obtain ⟨T, x1, x2, e1, e2, e3, e4, e5⟩ := y
                exact fin xs ys i H x H' h1' h2' ⟨T, x1, x2, e1, e2, e3, e4 xs (sqT_same e h1), e5 ys (sqT_same e h2)⟩
end

/-! ## for -/
section
variable {X : Cx} {E : XK} {e a b c tg iter : Expr} {es rest : List Expr} {body : List Stmt} {pos : Pos} {fi : DS → R (List D × DS)} {fb : DS → R (Fl × DS)} {fg : TV → DS → Option DS} {vs : List Nat} {ft : DS → R (Bool × DS)}
def loopF (fg : TV → DS → Option DS) (fb : DS → R (Fl × DS)) : List D → DS → R (Fl × DS)
  | [], Δ => .ok (.nx, Δ)
  | d :: ds, Δ => R.of (fg (.sh d) Δ) >>= fun Δ1 => fb Δ1 >>= fun r => match r.1 with
    | .nx => loopF fg fb ds r.2
    | .ct => loopF fg fb ds r.2
    | .bk => .ok (.nx, r.2)
    | .rt d => .ok (.rt d, r.2)
@[simp, reducible] def fFor (fi : DS → R (List D × DS)) (fg : TV → DS → Option DS) (fb : DS → R (Fl × DS)) : DS → R (Fl × DS) := fun Δ => fi Δ >>= fun p => loopF fg fb p.1 p.2
/-- an item comes: the heap may have one tuple more -/
theorem item_in {K : PySem.W.Frag} {fr : Frm} {S S' H H' : Hp} {σ : L2.St} {Δ : DS} {x : V} {d : D} (r : Rel K fr S' σ H Δ) (g : Same S S') (y : (H' = H ∧ Rp K S x d) ∨ ∃ T xs es, x = .ref T ∧ H T = none ∧ H' = upd H T (.tup xs) ∧ d = .tup es ∧ RpL K S xs es) :
    ∃ S2, Grow fr S' S2 ∧ Rel K fr S2 σ H' Δ ∧ Rp K S2 x d := by
  rcases y with ⟨rfl, rp⟩ | ⟨T, xs, es, rfl, hn, rfl, rfl, rp⟩
  · exact ⟨S', Grow.refl fr S', r, Rp.mono g _ rp⟩
  · obtain ⟨r2, g2⟩ := r.laid (o := .tup xs) hn
    exact ⟨_, g2, r2, .tup (.inl (.inl upd_same)) (RpL.mono (g.trans g2.sub) _ rp)⟩
theorem ds_for (hp : PassesOwn (model X.prog X.w) X.A X.env X.xe) (hc : X.calm = true) (hi : Dit X E tg iter fi) (hg : Dtg X tg vs fg) (hb : Dss X E body fb) (hs : ∀ x, foldedSetIterable iter X.env x = pure x := by intro _; rfl) :
    Dst X E (.For tg iter body [] pos) (fFor fi fg fb) := by
  obtain ⟨wi, p, hi⟩ := hi
  obtain ⟨t, q, hg⟩ := hg
  obtain ⟨u, q2, hb⟩ := hb
  refine ⟨_, ps_for hp hc p q q2 hs, fun fr S H σ Δ N rl w => ?_⟩
  refine hi fr S H σ Δ _ rl (wp_mono (wp_bind w) (fun r w1 S1 H1 J g1 r1 it => ?_) fun _ _ z => z)
  obtain ⟨ds, Δ1⟩ := r
  refine ⟨fun i m σ' H' => m = ds.length - i ∧ i ≤ ds.length ∧ ∃ S2 Δ2, Grow fr S1 S2 ∧ Rel X.K fr S2 σ' H' Δ2 ∧ (loopF fg fb (ds.drop i) Δ2).wp (SPost X fr S2 N) (XP X.K X.mg fr S2 E), ⟨ds.length, by simp, Nat.zero_le _, S1, Δ1, Grow.refl fr S1, r1, ?_⟩, ?_⟩
  · rw [List.drop_zero]
    exact wp_mono w1 (fun r w2 S2 H2 σ2 g2 r2 => w2 S2 H2 σ2 (g1.trans g2) r2) fun _ _ z => z.grow g1
  · rintro i m σ2 H2 ⟨rfl, hle, S2, Δ2, g2, r2, w2⟩
    have sm : Same S1 H2 := g2.sub.trans r2.fro.sub
    by_cases hlt : i < ds.length
    · refine .inr ⟨it.goes i H2 hlt sm, fun σ' H' => ∃ S3 Δ3, Grow fr S1 S3 ∧ Rel X.K fr S3 σ' H' Δ3 ∧ (loopF fg fb (ds.drop (i + 1)) Δ3).wp (SPost X fr S3 N) (XP X.K X.mg fr S3 E), fun σ' H' n => ⟨ds.length - (i + 1), by omega, rfl, hlt, n⟩, fun x H' y => ?_⟩
      obtain ⟨d, hd, y⟩ := it.yields i H2 x H' hlt sm y
      obtain ⟨S3, g3, r3, rp⟩ := item_in r2 g2.sub y
      have ed : ds.drop i = d :: ds.drop (i + 1) := by
        rw [List.drop_eq_getElem_cons hlt]
        congr 1
        rw [List.getElem?_eq_getElem hlt] at hd
        exact Option.some.inj hd
      rw [ed] at w2
      refine hg fr S3 H' σ2 Δ2 x (.sh d) _ r3 (.sh rp) (oWp_mono (of_wp (wp_bind w2)) fun Δ4 w4 S4 H4 σ4 g4 r4 _ => ?_)
      refine hb fr S4 H4 σ4 Δ4 _ r4 (wp_mono (wp_bind w4) (fun r w5 S5 H5 σ5 g5 r5 => ?_) fun _ _ z => (z.grow (g3.trans g4)))
      obtain ⟨fl, Δ5⟩ := r
      have gg : Grow fr S2 S5 := g3.trans (g4.trans g5)
      have go : (loopF fg fb (ds.drop (i + 1)) Δ5).wp (SPost X fr S2 N) (XP X.K X.mg fr S2 E) → ∃ S3 Δ3, Grow fr S1 S3 ∧ Rel X.K fr S3 σ5 H5 Δ3 ∧ (loopF fg fb (ds.drop (i + 1)) Δ3).wp (SPost X fr S3 N) (XP X.K X.mg fr S3 E) := fun w6 =>
        ⟨S5, Δ5, g2.trans gg, r5, wp_mono w6 (fun r w7 S7 H7 σ7 g7 r7 => w7 S7 H7 σ7 (gg.trans g7) r7) fun _ _ z => z.grow gg⟩
      cases fl with
      | nx => exact go w5
      | ct => exact go w5
      | bk => exact wp_ok w5 S5 H5 σ5 gg r5
      | rt d => exact wp_ok w5 S5 H5 σ5 gg r5
    · have e : i = ds.length := by omega
      subst e
      rw [List.drop_length] at w2
      exact .inl ⟨it.stops H2 sm, wp_ok w2 S2 H2 σ2 (Grow.refl fr S2) r2⟩

/-! ## while -/
def whileF (ft : DS → R (Bool × DS)) (fb : DS → R (Fl × DS)) : Nat → DS → R (Fl × DS)
  | 0, _ => .bad
  | n + 1, Δ => ft Δ >>= fun p => match p.1 with
    | false => .ok (.nx, p.2)
    | true => fb p.2 >>= fun r => match r.1 with
      | .nx => whileF ft fb n r.2
      | .ct => whileF ft fb n r.2
      | .bk => .ok (.nx, r.2)
      | .rt d => .ok (.rt d, r.2)
theorem ds_while (n : Nat) (hp : PassesOwn (model X.prog X.w) X.A X.env X.xe) (hc : DT X E c ft) (hb : Dss X E body fb) : Dst X E (.While c body [] pos) (whileF ft fb n) := by
  obtain ⟨t, p, hc⟩ := hc
  obtain ⟨u, q2, hb⟩ := hb
  refine ⟨_, ps_while hp p q2, fun fr S H σ Δ N rl w => ?_⟩
  refine ⟨fun m σ' H' => ∃ S2 Δ2, Grow fr S S2 ∧ Rel X.K fr S2 σ' H' Δ2 ∧ (whileF ft fb m Δ2).wp (SPost X fr S2 N) (XP X.K X.mg fr S2 E), ⟨n, S, Δ, Grow.refl fr S, rl, w⟩, ?_⟩
  rintro m σ2 H2 ⟨S2, Δ2, g2, r2, w2⟩
  cases m with
  | zero => exact w2.elim
  | succ m =>
    refine hc fr S2 H2 σ2 Δ2 _ r2 (wp_mono (wp_bind w2) (fun p w3 S3 H3 g3 r3 => ?_) fun _ _ z => z)
    obtain ⟨k, Δ3⟩ := p
    cases k with
    | false => exact iteF (wp_ok w3 S3 H3 σ2 g3 r3)
    | true =>
      refine iteT ⟨fun σ' H' => ∃ S4 Δ4, Grow fr S S4 ∧ Rel X.K fr S4 σ' H' Δ4 ∧ (whileF ft fb m Δ4).wp (SPost X fr S4 N) (XP X.K X.mg fr S4 E), fun σ' H' n => ⟨m, Nat.lt_succ_self m, n⟩, ?_⟩
      refine hb fr S3 H3 σ2 Δ3 _ r3 (wp_mono (wp_bind w3) (fun r w5 S5 H5 σ5 g5 r5 => ?_) fun _ _ z => z.grow g3)
      obtain ⟨fl, Δ5⟩ := r
      have gg : Grow fr S2 S5 := g3.trans g5
      have go : (whileF ft fb m Δ5).wp (SPost X fr S2 N) (XP X.K X.mg fr S2 E) → ∃ S4 Δ4, Grow fr S S4 ∧ Rel X.K fr S4 σ5 H5 Δ4 ∧ (whileF ft fb m Δ4).wp (SPost X fr S4 N) (XP X.K X.mg fr S4 E) := fun w6 =>
        ⟨S5, Δ5, g2.trans gg, r5, wp_mono w6 (fun r w7 S7 H7 σ7 g7 r7 => w7 S7 H7 σ7 (gg.trans g7) r7) fun _ _ z => z.grow gg⟩
      cases fl with
      | nx => exact go w5
      | ct => exact go w5
      | bk => exact wp_ok w5 S5 H5 σ5 gg r5
      | rt d => exact wp_ok w5 S5 H5 σ5 gg r5
end
end DL
namespace DL
open PySem PySem.Spec PyProof.Rows L2

/-! ## comprehensions -/
@[simp, reducible] def wipeG (g : Sl) : List Nat → Sl
  | [] => g
  | v :: vs => (wipeG g vs).set v .un
/-- behind a comprehension its own names stand again for what was shared before -/
@[simp, reducible] def SV.keep : SV → SV
  | .ow _ => .un
  | s => s
@[simp, reducible] def backG (g0 : Sl) (g : Sl) : List Nat → Sl
  | [] => g
  | v :: vs => match g0[v]? with
    | some s => (backG g0 g vs).set v s.keep
    | none => backG g0 g vs
section
variable {K : PySem.W.Frag} {fr : Frm} {S S' H H' : Hp} {σ σ' : L2.St} {Δ : DS} {g0 : Sl}
theorem Rel.wipe (r : Rel K fr S σ H Δ) : ∀ vs : List Nat, Rel K fr S (wipe σ vs) H (wipeG Δ.1 vs, Δ.2)
  | [] => r
  | v :: vs => (Rel.wipe r vs).setSlot (s := .un) trivial fun d a z => by cases z
theorem wipe_off {σ : L2.St} {i : Nat} : ∀ {vs : List Nat}, i ∉ vs → (L2.wipe σ vs)[i]? = σ[i]? := fun h => wipe_out h
theorem wipeG_len (g : Sl) : ∀ vs : List Nat, (wipeG g vs).length = g.length
  | [] => rfl
  | v :: vs => by
    show ((wipeG g vs).set v SV.un).length = _
    rw [List.length_set, wipeG_len g vs]
/-- the own slots hold nothing known: any values may stand there -/
theorem Rel.reslot (r : Rel K fr S σ H Δ) (vs : List Nat) (hl : σ'.length = σ.length) (h : ∀ i, i ∉ vs → σ'[i]? = σ[i]?) (hu : ∀ i ∈ vs, ∀ s, Δ.1[i]? = some s → s = .un) : Rel K fr S σ' H Δ := by
  refine ⟨r.fro, by rw [hl]; exact r.len, fun i s e => ?_, fun i j a d e h1 h2 h3 h4 => ?_⟩
  · by_cases hi : i ∈ vs
    · have z := hu i hi s e
      subst z
      have hlt : i < σ'.length := by
        rw [hl, r.len]
        exact (List.getElem?_eq_some_iff.mp e).1
      exact ⟨σ'[i], List.getElem?_eq_getElem hlt, trivial⟩
    · rw [h i hi]
      exact r.slot i s e
  · have hi : i ∉ vs := fun z => by have := hu i z _ h1; cases this
    have hj : j ∉ vs := fun z => by have := hu j z _ h2; cases this
    rw [h i hi] at h3
    rw [h j hj] at h4
    exact r.dist i j a d e h1 h2 h3 h4
theorem wipeG_un {g : Sl} {i : Nat} {s : SV} : ∀ {vs : List Nat}, i ∈ vs → (wipeG g vs)[i]? = some s → s = .un
  | [], h, _ => by cases h
  | v :: vs, h, e => by
    have e : ((wipeG g vs).set v SV.un)[i]? = some s := e
    by_cases hv : v = i
    · subst hv
      by_cases hl : v < (wipeG g vs).length
      · rw [List.getElem?_set_self hl] at e
        exact (Option.some.inj e).symm
      · rw [List.getElem?_eq_none (by simpa using hl)] at e
        cases e
    · rw [List.getElem?_set_ne hv] at e
      rcases List.mem_cons.mp h with z | z
      · exact absurd z.symm hv
      · exact wipeG_un z e
/-- what was shared in the own slots is so again -/
theorem Rel.back {S0 : Hp} {Δ0 : DS} (r : Rel K fr S σ H Δ) (g : Same S0 S) {H0 : Hp} (r0 : Rel K fr S0 σ H0 Δ0) : ∀ vs : List Nat, Rel K fr S σ H (backG Δ0.1 Δ.1 vs, Δ.2)
  | [] => r
  | v :: vs => by
    have ih := Rel.back r g r0 vs
    show Rel K fr S σ H (backG Δ0.1 Δ.1 (v :: vs), Δ.2)
    unfold backG
    cases q : Δ0.1[v]? with
    | none => exact ih
    | some s =>
      obtain ⟨o, e1, h1⟩ := r0.slot v s q
      have es : σ.set v o = σ := by
        apply List.ext_getElem?
        intro j
        by_cases hj : v = j
        · subst hj
          rw [e1]
          exact List.getElem?_set_self (List.getElem?_eq_some_iff.mp e1).1
        · rw [List.getElem?_set_ne hj]
      have hs : SlotOk K fr S H o s.keep := by
        cases s with
        | un => exact trivial
        | ow d => exact trivial
        | sh d => obtain ⟨x, e, rp⟩ := h1; exact ⟨x, e, Rp.mono g _ rp⟩
        | stm => exact h1
      have r2 := ih.setSlot (i := v) hs fun d a z => by cases s <;> cases z
      rw [es] at r2
      exact r2
end
@[simp, reducible] def R.opt {α : Type} (r : R α) : Option α := match r with
  | .ok a => some a
  | _ => none
theorem opt_wp {α : Type} {r : R α} {P : α → Prop} {PX : Xn → Strm → Prop} (h : oWp r.opt P) : r.wp P PX := by
  cases r with
  | ok a => exact h
  | exc x s => exact h.elim
  | bad => exact h.elim
/-- the items that are made, from the left -/
def lcF (vs : List Nat) (fg : TV → DS → Option DS) (ft : DS → R (Bool × DS)) (fe : DS → R (D × DS)) : List D → DS → Option (List D × DS)
  | [], Δ => some ([], Δ)
  | d :: ds, Δ => (fg (.sh d) Δ).bind fun Δ1 => (ft Δ1).opt.bind fun p => match p.1 with
    | true => (fe p.2).opt.bind fun q => (lcF vs fg ft fe ds (wipeG q.2.1 vs, q.2.2)).bind fun r => some (q.1 :: r.1, r.2)
    | false => lcF vs fg ft fe ds (wipeG p.2.1 vs, p.2.2)
@[simp, reducible] def fLc (vs : List Nat) (fi : DS → R (List D × DS)) (fg : TV → DS → Option DS) (ft : DS → R (Bool × DS)) (fe : DS → R (D × DS)) : DS → R (TV × DS) := fun Δ => fi Δ >>= fun p =>
  if p.1.length ≤ sizeLine then R.of (lcF vs fg ft fe p.1 (wipeG p.2.1 vs, p.2.2)) >>= fun r => .ok (.ow (.lst r.1), (backG p.2.1 r.2.1 vs, r.2.2)) else .bad
/-- tests of a comprehension -/
def Dts (X : Cx) (E : XK) (ifs : List Expr) (f : DS → R (Bool × DS)) : Prop := ∃ t, PTs X ifs t ∧ ∀ fr S H σ Δ Q, Rel X.K fr S σ H Δ →
  (f Δ).wp (fun r => ∀ S' H', Grow fr S S' → Rel X.K fr S' σ H' r.2 → Q r.1 H') (XP X.K X.mg fr S E) → t σ H Q
@[simp, reducible] def fYes : DS → R (Bool × DS) := fun Δ => .ok (true, Δ)
/-- the readings that hang on the data function alone -/
def tS (K : PySem.W.Frag) (mg : Str → Option Value) (E : XK) (f : DS → R (D × DS)) : TE := fun σ H Q => ∃ fr S Δ, Rel K fr S σ H Δ ∧ (f Δ).wp (fun r => ∀ S' H' v, Grow fr S S' → Rel K fr S' σ H' r.2 → Rp K S' v r.1 → Q v H') (XP K mg fr S E)
def bS (K : PySem.W.Frag) (mg : Str → Option Value) (E : XK) (f : DS → R (Bool × DS)) : TT := fun σ H Q => ∃ fr S Δ, Rel K fr S σ H Δ ∧ (f Δ).wp (fun r => ∀ S' H', Grow fr S S' → Rel K fr S' σ H' r.2 → Q r.1 H') (XP K mg fr S E)
def gS (K : PySem.W.Frag) (vs : List Nat) (f : TV → DS → Option DS) : TG := fun v σ H Q => ∃ fr S Δ tv, Rel K fr S σ H Δ ∧ TvOk K fr S H σ Δ.1 v tv ∧ oWp (f tv Δ) (fun Δ' => ∀ S' H' σ', Grow fr S S' → Rel K fr S' σ' H' Δ' → (∀ us : List Nat, (∀ i ∈ vs, i ∈ us) → wipe σ' us = wipe σ us) → Q σ' H')
def iS (K : PySem.W.Frag) (mg : Str → Option Value) (E : XK) (f : DS → R (List D × DS)) : TI := fun σ H W => ∃ fr S Δ, Rel K fr S σ H Δ ∧ (f Δ).wp (fun r => ∀ S' H' J, Grow fr S S' → Rel K fr S' σ H' r.2 → ItOk K S' J r.1 → W J H') (XP K mg fr S E)
section
variable {X : Cx} {E : XK} {e a b c elt tg iter : Expr} {ifs : List Expr} {es rest : List Expr} {body : List Stmt} {pos spos : Pos} {fi : DS → R (List D × DS)} {fb : DS → R (Fl × DS)} {fg : TV → DS → Option DS} {us vs : List Nat} {ft : DS → R (Bool × DS)} {fe : DS → R (D × DS)} {scope : Scope} {own : List (Str × Nat)}
theorem DE.pe (h : DE X E e fe) : PE X e (tS X.K X.mg E fe) := by
  obtain ⟨t, p, h⟩ := h
  exact ⟨fun pins s σ H Q I ⟨fr, S, Δ, r, w⟩ => p.run pins s σ H Q I (h fr S H σ Δ Q r w)⟩
theorem Dts.pts (h : Dts X E ifs ft) : PTs X ifs (bS X.K X.mg E ft) := by
  obtain ⟨t, p, h⟩ := h
  exact ⟨fun pins s σ H Q I ⟨fr, S, Δ, r, w⟩ => p.run pins s σ H Q I (h fr S H σ Δ Q r w)⟩
theorem Dtg.pg (h : Dtg X tg vs fg) : PG X tg (gS X.K vs fg) := by
  obtain ⟨t, p, h⟩ := h
  exact ⟨fun pins s σ H v u Q I rv ⟨fr, S, Δ, tv, r, tk, w⟩ => p.run pins s σ H v u Q I rv (h fr S H σ Δ v tv Q r tk w)⟩
theorem Dit.pi (h : Dit X E tg iter fi) : PI X tg iter (iS X.K X.mg E fi) := by
  obtain ⟨t, p, h⟩ := h
  exact ⟨fun pins s σ H W I ⟨fr, S, Δ, r, w⟩ => p.run pins s σ H W I (h fr S H σ Δ W r w)⟩
theorem dts_nil : Dts X E [] fYes := ⟨_, pts_nil, fun fr S H σ Δ Q rl w => wp_ok w S H (Grow.refl fr S) rl⟩
theorem dts_one (h : DT X E c ft) : Dts X E [c] ft := by
  obtain ⟨t, p, h⟩ := h
  exact ⟨_, pts_one p, h⟩
abbrev Blk (X : Cx) (scope : Scope) (s : Shared) (H : Hp) (C : Addr) (cl : List (Str × Addr)) (fp : List Addr) : Cx := X.blk s H scope (compEnvC scope cl C X.env) fp
end
section
variable {K : PySem.W.Frag} {fr : Frm} {S S' H H' : Hp} {σ σ' : L2.St} {Δ : DS} {g0 : Sl}
theorem wipe_get (σ : L2.St) (i : Nat) : ∀ vs : List Nat, (L2.wipe σ vs)[i]? = if i ∈ vs ∧ i < σ.length then some none else σ[i]?
  | [] => by simp [L2.wipe]
  | v :: vs => by
    show ((L2.wipe σ vs).set v none)[i]? = _
    have hl : (L2.wipe σ vs).length = σ.length := wipe_length σ vs
    by_cases hv : v = i
    · subst hv
      by_cases hlt : v < σ.length
      · rw [List.getElem?_set_self (by rw [hl]; exact hlt), if_pos ⟨List.mem_cons_self, hlt⟩]
      · rw [List.getElem?_eq_none (by simp [hl]; omega), if_neg (fun z => hlt z.2), List.getElem?_eq_none (by omega)]
    · rw [List.getElem?_set_ne hv, wipe_get σ i vs]
      have : (i ∈ v :: vs ∧ i < σ.length) ↔ (i ∈ vs ∧ i < σ.length) := by
        simp only [List.mem_cons]
        constructor
        · rintro ⟨h | h, h2⟩
          · exact absurd h.symm hv
          · exact ⟨h, h2⟩
        · rintro ⟨h, h2⟩
          exact ⟨.inr h, h2⟩
      by_cases q : i ∈ vs ∧ i < σ.length
      · rw [if_pos q, if_pos (this.mpr q)]
      · rw [if_neg q, if_neg (fun z => q (this.mp z))]
theorem wipe_wipe (σ : L2.St) (vs : List Nat) : L2.wipe (L2.wipe σ vs) vs = L2.wipe σ vs := by
  apply List.ext_getElem?
  intro i
  rw [wipe_get (L2.wipe σ vs) i vs, wipe_length, wipe_get σ i vs]
  by_cases q : i ∈ vs ∧ i < σ.length
  · rw [if_pos q, if_pos q]
  · rw [if_neg q, if_neg q]
theorem wipeG_off {g : Sl} {i : Nat} : ∀ {vs : List Nat}, i ∉ vs → (wipeG g vs)[i]? = g[i]?
  | [], _ => rfl
  | v :: vs, h => by
    have h1 : v ≠ i := fun e => h (by rw [e]; exact List.mem_cons_self)
    show ((wipeG g vs).set v SV.un)[i]? = _
    rw [List.getElem?_set_ne h1]
    exact wipeG_off fun m => h (List.mem_cons_of_mem _ m)
theorem NoSlot.wipe {g : Sl} {a : Addr} {vs : List Nat} (h : NoSlot σ g a) : NoSlot (L2.wipe σ vs) (wipeG g vs) a := fun i d e => by
  have hi : i ∉ vs := fun z => by have := wipeG_un z e; cases this
  rw [wipeG_off hi] at e
  rw [wipe_out hi]
  exact h i d e
theorem backG_ow {g0 g : Sl} {i : Nat} {d : D} : ∀ {vs : List Nat}, (backG g0 g vs)[i]? = some (.ow d) → g[i]? = some (.ow d)
  | [], e => e
  | v :: vs, e => by
    unfold backG at e
    cases q : g0[v]? with
    | none =>
      rw [q] at e
      exact backG_ow e
    | some s =>
      rw [q] at e
      have e : ((backG g0 g vs).set v s.keep)[i]? = some (.ow d) := e
      by_cases hv : v = i
      · subst hv
        by_cases hl : v < (backG g0 g vs).length
        · rw [List.getElem?_set_self hl] at e
          cases s <;> cases e
        · rw [List.getElem?_eq_none (by simpa using hl)] at e
          cases e
      · rw [List.getElem?_set_ne hv] at e
        exact backG_ow e
/-- an unowned object that stands beside is written -/
theorem Rel.write (r : Rel K fr S σ H Δ) {A : Addr} {o : HO} (nS : S A = none) (nP : fr.prot A = none) (nq : ∀ p q, fr.pq = some (p, q) → A ≠ p ∧ A ≠ q) (ns : NoSlot σ Δ.1 A) : Rel K fr S σ (upd H A o) Δ := by
  refine ⟨⟨same_off r.fro.sub nS, same_off r.fro.prt nP, fun a q e => ?_⟩, r.len, fun i s e => ?_, r.dist⟩
  · obtain ⟨h1, h2, h3, h4, h5⟩ := r.fro.stm a q e
    obtain ⟨n1, n2⟩ := nq a q e
    exact ⟨h1.ne n1 n2, h2, h3, h4, h5⟩
  · obtain ⟨u, e1, h1⟩ := r.slot i s e
    refine ⟨u, e1, h1.keep (Same.refl S) fun a d hs ho => ?_⟩
    obtain ⟨b, e2, w⟩ := r.own (hs ▸ e)
    rw [e1, ho] at e2
    cases e2
    have na : a ≠ A := fun z => ns i d (hs ▸ e) (by rw [e1, ho, z])
    exact ⟨upd_ne na, w.offS⟩
end
section
variable {X : Cx} {E : XK} {e a b c elt tg iter : Expr} {ifs : List Expr} {es rest : List Expr} {body : List Stmt} {pos spos : Pos} {fi : DS → R (List D × DS)} {fb : DS → R (Fl × DS)} {fg : TV → DS → Option DS} {us vs : List Nat} {ft : DS → R (Bool × DS)} {fe : DS → R (D × DS)} {scope : Scope} {own : List (Str × Nat)}
/-- the state of a comprehension behind some turns -/
def LcAt (K : PySem.W.Frag) (fr : Frm) (S1 : Hp) (σ : L2.St) (vs : List Nat) (A : Addr) (Q : Hp → Hp → List D → DS → Prop) (F : List D → DS → Option (List D × DS)) (ds : List D) (room : Nat) (H : Hp) : Prop :=
  ∃ S2 Δ2 acc dac, Grow fr S1 S2 ∧ H A = some (.lst acc) ∧ RpL K S2 acc dac ∧ S2 A = none ∧ NoSlot (L2.wipe σ vs) Δ2.1 A ∧ Rel K fr S2 (L2.wipe σ vs) H Δ2 ∧ (∀ i ∈ vs, ∀ s, Δ2.1[i]? = some s → s = .un) ∧ acc.length + ds.length ≤ room ∧
    oWp (F ds Δ2) (fun r => ∀ S' H' acc', Grow fr S2 S' → H' A = some (.lst acc') → RpL K S' acc' (dac ++ r.1) → S' A = none → NoSlot (L2.wipe σ vs) r.2.1 A → Rel K fr S' (L2.wipe σ vs) H' r.2 → (∀ i ∈ vs, ∀ s, r.2.1[i]? = some s → s = .un) → Q S' H' (dac ++ r.1) r.2)
theorem wipeG_own (g : Sl) (vs : List Nat) : ∀ i ∈ vs, ∀ s, (wipeG g vs)[i]? = some s → s = .un := fun i hi s e => wipeG_un hi e
theorem lc_run {wi : TI} (hu : ∀ i ∈ us, i ∈ vs) (hi : ∀ fr S H σ Δ (W : It → Hp → Prop), Rel X.K fr S σ H Δ → (fi Δ).wp (fun r => ∀ S' H' J, Grow fr S S' → Rel X.K fr S' σ H' r.2 → ItOk X.K S' J r.1 → W J H') (XP X.K X.mg fr S E) → wi σ H W)
    {fr : Frm} {S H : Hp} {σ : L2.St} {Δ : DS} {Q : VK} (rl : Rel X.K fr S σ H Δ)
    (w : (fLc vs fi fg ft fe Δ).wp (fun r => ∀ S' H' v, Grow fr S S' → Rel X.K fr S' σ H' r.2 → TvOk X.K fr S' H' σ r.2.1 v r.1 → Q v H') (XP X.K X.mg fr S E)) :
    tLc wi (gS X.K us fg) (bS X.K X.mg E0 ft) (tS X.K X.mg E0 fe) vs σ H Q := by
  refine hi fr S H σ Δ _ rl (wp_mono (wp_bind w) (fun r w1 S1 H1 J g1 r1 it => ?_) fun _ _ z => z)
  obtain ⟨ds, Δ1⟩ := r
  intro A hA
  by_cases hz : ds.length ≤ sizeLine
  · rw [if_pos hz] at w1
    have w2 := of_wp (wp_bind w1)
    have nS1 : S1 A = none := Same.free r1.fro.sub hA
    have nP : fr.prot A = none := Same.free r1.fro.prt hA
    have nq : ∀ p q, fr.pq = some (p, q) → A ≠ p ∧ A ≠ q := (r1.newOwn (o := .lst []) (d := .lst []) hA (.lst .nil)).1.offQ
    have ns1 : NoSlot σ Δ1.1 A := (r1.newOwn (o := .lst []) (d := .lst []) hA (.lst .nil)).2
    refine ⟨fun i m H' => m = ds.length - i ∧ i ≤ ds.length ∧ LcAt X.K fr S1 σ vs A (fun _ H' _ _ => Q (.ref A) H') (lcF vs fg ft fe) (ds.drop i) ds.length H', ⟨ds.length, by simp, Nat.zero_le _, ?_⟩, ?_⟩
    · refine ⟨S1, (wipeG Δ1.1 vs, Δ1.2), [], [], Grow.refl fr S1, upd_same, .nil, nS1, ns1.wipe, (r1.beside hA).wipe vs, wipeG_own _ _, by simp, ?_⟩
      rw [List.drop_zero]
      refine oWp_mono w2 fun r w3 S' H' acc' g' hA' ra nA ns' r' ou => ?_
      have r2 : Rel X.K fr S' σ H' r.2 := r'.reslot (σ' := σ) vs (by rw [wipe_length]) (fun i hi => (wipe_out hi).symm) ou
      refine wp_ok w3 S' H' (.ref A) (g1.trans g') (r2.back g'.sub r1 vs) (.ow ⟨⟨_, hA', .lst ra⟩, nA, nP, nq⟩ fun i d e => ?_)
      have e2 := backG_ow e
      have hi : i ∉ vs := fun z => by have := ou i z _ e2; cases this
      have := ns' i d e2
      rw [wipe_out hi] at this
      exact this
    · rintro i m H2 ⟨rfl, hle, S2, Δ2, acc, dac, g2, hAc, ra, nA, ns2, r2, ou, rm, w4⟩
      have sm : Same S1 H2 := g2.sub.trans r2.fro.sub
      by_cases hlt : i < ds.length
      · refine .inr ⟨it.goes i H2 hlt sm, fun H' => LcAt X.K fr S1 σ vs A (fun _ H' _ _ => Q (.ref A) H') (lcF vs fg ft fe) (ds.drop (i + 1)) ds.length H', fun H' n => ⟨ds.length - (i + 1), by omega, rfl, hlt, n⟩, fun x H' y => ?_⟩
        obtain ⟨d, hd, y⟩ := it.yields i H2 x H' hlt sm y
        have rp2 := r2.protect hAc nA nq ns2
        obtain ⟨S3, g3, r3, rp⟩ := item_in rp2 g2.sub y
        have ed : ds.drop i = d :: ds.drop (i + 1) := by
          rw [List.drop_eq_getElem_cons hlt]
          congr 1
          rw [List.getElem?_eq_getElem hlt] at hd
          exact Option.some.inj hd
        rw [ed] at w4
        refine ⟨_, S3, Δ2, .sh d, r3, .sh rp, oWp_mono (oWp_bind w4) fun Δ4 w5 S4 H4 σ4 g4 r4 e4 => ?_⟩
        have ew : L2.wipe σ4 vs = L2.wipe σ vs := by rw [e4 vs hu, wipe_wipe]
        refine ⟨ew, _, S4, Δ4, r4, opt_wp (oWp_mono (oWp_bind w5) fun p w6 S5 H5 g5 r5 => ?_)⟩
        obtain ⟨k, Δ5⟩ := p
        have nP' := nP
        cases k with
        | false =>
          show (if false = true then _ else _)
          rw [if_neg Bool.false_ne_true]
          have gg := g3.trans (g4.trans g5)
          obtain ⟨gu, nA5⟩ := gg.unprotect nA
          obtain ⟨r6, hA6, ns6⟩ := r5.unprotect nP nq
          have r7 := r6.wipe vs
          rw [ew] at r7
          have ns7 := ns6.wipe (vs := vs)
          rw [ew] at ns7
          refine ⟨S5, (wipeG Δ5.1 vs, Δ5.2), acc, dac, g2.trans gu, hA6, RpL.mono gu.sub _ ra, nA5, ns7, r7, wipeG_own _ _, by rw [ed] at rm; simp at rm; simp; omega, ?_⟩
          exact oWp_mono w6 fun r w7 S' H' acc' g' => w7 S' H' acc' (gu.trans g')
        | true =>
          show (if true = true then _ else _)
          rw [if_pos rfl]
          refine ⟨_, S5, Δ5, r5, opt_wp (oWp_mono (oWp_bind w6) fun q w8 S6 H6 v g6 r6 rv => ?_)⟩
          have gg := g3.trans (g4.trans (g5.trans g6))
          obtain ⟨gu, nA6⟩ := gg.unprotect nA
          obtain ⟨r7, hA7, ns7⟩ := r6.unprotect nP nq
          have ns8 := ns7.wipe (vs := vs)
          rw [ew] at ns8
          have r8 := r7.wipe vs
          rw [ew] at r8
          have rm2 : acc.length + (ds.drop (i + 1)).length + 1 ≤ ds.length := by rw [ed] at rm; simp at rm; simp; omega
          refine ⟨acc, hA7, by omega, S6, (wipeG q.2.1 vs, q.2.2), acc ++ [v], dac ++ [q.1], g2.trans gu, upd_same, (RpL.mono gu.sub _ ra).snoc rv, nA6, ns8, r8.write nA6 nP nq ns8, wipeG_own _ _, by simp at rm2 ⊢; omega, ?_⟩
          refine oWp_mono (oWp_bind w8) fun r w9 S' H' acc' g' hA' ra' nA' ns' r' ou' => ?_
          have w10 := oWp_some w9
          rw [List.append_assoc] at ra' ⊢
          exact w10 S' H' acc' (gu.trans g') hA' ra' nA' ns' r' ou'
      · have e : i = ds.length := by omega
        subst e
        rw [List.drop_length] at w4
        refine .inl ⟨it.stops H2 sm, oWp_some w4 S2 H2 acc (Grow.refl fr S2) hAc ?_ nA ns2 r2 ou⟩
        rw [List.append_nil]
        exact ra
  · rw [if_neg hz] at w1
    exact w1.elim
theorem do_lc (hc : X.calm = true) (hN : X.N.Nodup) (hi : Dit X E tg iter fi) (ok : BlkOk X.N X.env.scope scope own) (hu : ∀ i ∈ us, i ∈ own.map (·.2))
    (hg : ∀ s H C cl fp, Dtg (Blk X scope s H C cl fp) tg us fg) (ht : ∀ s H C cl fp, Dts (Blk X scope s H C cl fp) E0 ifs ft) (he : ∀ s H C cl fp, DE (Blk X scope s H C cl fp) E0 elt fe) (hs : ∀ x, foldedSetIterable iter X.env x = pure x := by intro _; rfl) :
    DO X E (.ListComp elt [⟨tg, iter, ifs, 0⟩] scope pos) (fLc (own.map (·.2)) fi fg ft fe) := by
  obtain ⟨wi, p, hi⟩ := hi
  exact ⟨_, pe_lc (g := gS X.K us fg) (tt := bS X.K X.mg E0 ft) (te := tS X.K X.mg E0 fe) hc hN p ok (fun s H C cl fp => (hg s H C cl fp).pg) (fun s H C cl fp => (ht s H C cl fp).pts) (fun s H C cl fp => (he s H C cl fp).pe) hs, fun fr S H σ Δ Q rl w => lc_run hu hi rl w⟩
/-- name = [..] on one line -/
theorem ds_setLc {i : Nat} {y : Str} {py : Pos} (hc : X.calm = true) (hN : X.N.Nodup) (hy : X.N[i]? = some y) (hyl : X.env.scope.names.lookup y = some .local)
    (hsw : swapsWith (.ListComp elt [⟨tg, iter, ifs, 0⟩] scope pos) (some (.Name y py)) spos.line X.env = pure true) (hi : Dit X E tg iter fi) (ok : BlkOk X.N X.env.scope scope own) (hu : ∀ i ∈ us, i ∈ own.map (·.2))
    (hg : ∀ s H C cl fp, Dtg (Blk X scope s H C cl fp) tg us fg) (ht : ∀ s H C cl fp, Dts (Blk X scope s H C cl fp) E0 ifs ft) (he : ∀ s H C cl fp, DE (Blk X scope s H C cl fp) E0 elt fe) (hs : ∀ x, foldedSetIterable iter X.env x = pure x := by intro _; rfl) :
    Dst X E (.Assign [.Name y py] (.ListComp elt [⟨tg, iter, ifs, 0⟩] scope pos) spos) (fAsg (fLc (own.map (·.2)) fi fg ft fe) (gSet i)) := by
  obtain ⟨wi, p, hi⟩ := hi
  refine ⟨_, ps_setLc (g := gS X.K us fg) (tt := bS X.K X.mg E0 ft) (te := tS X.K X.mg E0 fe) hc hN hy hyl hsw p ok (fun s H C cl fp => (hg s H C cl fp).pg) (fun s H C cl fp => (ht s H C cl fp).pts) (fun s H C cl fp => (he s H C cl fp).pe) hs, fun fr S H σ Δ N rl w => ?_⟩
  refine lc_run hu hi rl (wp_mono (wp_bind w) (fun r w1 S1 H1 v g1 r1 tk => ?_) fun _ _ z => z)
  have w2 := oWp_some (of_wp (wp_bind w1))
  refine wp_ok w2 S1 H1 _ g1 ?_
  obtain ⟨tv, Δ1⟩ := r
  cases tk with
  | sh rp => exact r1.setSlot (s := .sh _) ⟨v, rfl, rp⟩ fun _ _ z => by cases z
  | @ow a0 d0 w0 ns =>
    refine r1.setSlot (s := .ow d0) ⟨a0, rfl, w0⟩ fun d a z y => ?_
    cases y
    exact ns
end
end DL
namespace DL
open PySem PySem.Spec PyProof.Rows L2

/-! ## defs -/
structure G where
  P : Program
  w : World
  K : PySem.W.Frag
  mg : Str → Option Value
  base : Heap
structure SameG (X : Cx) (g : G) : Prop where
  P : X.prog = g.P
  w : X.w = g.w
  K : X.K = g.K
  mg : X.mg = g.mg
  base : X.base = g.base
def spP (K : PySem.W.Frag) (mg : Str → Option Value) (n : Nat) (F : List D → R D) : Sp := fun vs H Q E => vs.length = n ∧ ∃ S prot ds, FrOk ⟨prot, none⟩ S H {} ∧ RpL K S vs ds ∧
  (F ds).wp (fun d => ∀ S' H' v, Grow ⟨prot, none⟩ S S' → FrOk ⟨prot, none⟩ S' H' {} → Rp K S' v d → Q v H') (fun x st => XP K mg ⟨prot, none⟩ S E x st)
def spS (K : PySem.W.Frag) (mg : Str → Option Value) (n : Nat) (F : List D → Strm → R (D × Strm)) : Sp := fun vs H Q E => vs.length = n + 1 ∧ ∃ p q vs' S prot ds st, vs = .ref p :: vs' ∧ FrOk ⟨prot, some (p, q)⟩ S H st ∧ RpL K S vs' ds ∧
  (F ds st).wp (fun r => ∀ S' H' v, Grow ⟨prot, some (p, q)⟩ S S' → FrOk ⟨prot, some (p, q)⟩ S' H' r.2 → Rp K S' v r.1 → Q v H') (fun x st => XP K mg ⟨prot, some (p, q)⟩ S E x st)
/-- the def x of n parameters computes F -/
def OkP (g : G) (k n : Nat) (x : Str) (F : List D → R D) : Prop := ∃ f fd ps, ps.length = n ∧ FnOk g.P g.w g.K g.mg g.base (L2.CX g.P g.w) k f fd ps (spP g.K g.mg n F) ∧ g.mg x = some (.ref f) ∧ PySem.W.keepIn g.K (.ref f) = true ∧ Binds g.K fd ps []
def OkS (g : G) (k n : Nat) (x : Str) (F : List D → Strm → R (D × Strm)) : Prop := ∃ f fd ps, ps.length = n + 1 ∧ FnOk g.P g.w g.K g.mg g.base (L2.CX g.P g.w) k f fd ps (spS g.K g.mg n F) ∧ g.mg x = some (.ref f) ∧ PySem.W.keepIn g.K (.ref f) = true ∧ Binds g.K fd ps []
@[simp, reducible] def startG (N : List Str) (ds : List D) : Sl := ds.map SV.sh ++ List.replicate (N.length - ds.length) .un
@[simp, reducible] def endP (r : Fl × DS) : R D := match r.1 with
  | .rt d => .ok d
  | .nx => .ok .non
  | _ => .bad
@[simp, reducible] def endS (r : Fl × DS) : R (D × Strm) := match r.1 with
  | .rt d => .ok (d, r.2.2)
  | .nx => .ok (.non, r.2.2)
  | _ => .bad
/-- a body from its arguments -/
@[simp, reducible] def runP (N : List Str) (fb : DS → R (Fl × DS)) : List D → R D := fun ds => fb (startG N ds, {}) >>= endP
@[simp, reducible] def runS (N : List Str) (fb : DS → R (Fl × DS)) : List D → Strm → R (D × Strm) := fun ds st => fb (.stm :: startG N.tail ds, st) >>= endS
section
variable {K : PySem.W.Frag} {fr : Frm} {S S' H H' : Hp} {σ : L2.St} {Δ : DS}
theorem start_rel {prot : Hp} {N : List Str} {vs : List V} {ds : List D} {st : Strm} (fo : FrOk ⟨prot, none⟩ S H st) (rv : RpL K S vs ds) (hl : vs.length ≤ N.length) : Rel K ⟨prot, none⟩ S (L2.start N vs) H (startG N ds, st) := by
  have len := rv.length
  refine ⟨fo, by simp [L2.start, startG, len], fun i s e => ?_, fun i j a d e h1 h2 h3 h4 => ?_⟩
  · have e : (ds.map SV.sh ++ List.replicate (N.length - ds.length) SV.un)[i]? = some s := e
    show ∃ o, (vs.map some ++ List.replicate (N.length - vs.length) none)[i]? = some o ∧ _
    by_cases hi : i < ds.length
    · rw [List.getElem?_append_left (by simpa using hi), List.getElem?_map] at e
      rw [List.getElem?_append_left (by simpa [len] using hi), List.getElem?_map]
      obtain ⟨v, h1, h2⟩ := rv.get (List.getElem?_eq_getElem hi)
      rw [List.getElem?_eq_getElem hi] at e
      cases e
      exact ⟨some v, by rw [h1]; rfl, v, rfl, h2⟩
    · rw [List.getElem?_append_right (by simpa using hi)] at e
      rw [List.getElem?_append_right (by simpa [len] using hi)]
      simp only [List.length_map] at e ⊢
      rw [len]
      rw [List.getElem?_replicate] at e ⊢
      split at e
      · cases e
        rename_i q
        rw [if_pos q]
        exact ⟨none, rfl, trivial⟩
      · cases e
  · have h1 : (ds.map SV.sh ++ List.replicate (N.length - ds.length) SV.un)[i]? = some (.ow d) := h1
    have hm := List.mem_of_getElem? h1
    rcases List.mem_append.mp hm with z | z
    · obtain ⟨_, _, q⟩ := List.mem_map.mp z
      cases q
    · have := List.eq_of_mem_replicate z
      cases this
theorem start_relS {prot : Hp} {p q : Addr} {n : Str} {N : List Str} {vs : List V} {ds : List D} {st : Strm} (fo : FrOk ⟨prot, some (p, q)⟩ S H st) (rv : RpL K S vs ds) (hl : vs.length ≤ N.length) : Rel K ⟨prot, some (p, q)⟩ S (L2.start (n :: N) (.ref p :: vs)) H (.stm :: startG N ds, st) := by
  have len := rv.length
  have es : L2.start (n :: N) (.ref p :: vs) = some (.ref p) :: L2.start N vs := by
    unfold L2.start
    simp
  rw [es]
  have un : ∀ {i : Nat} {d : D}, (startG N ds)[i]? = some (.ow d) → False := fun {i d} h1 => by
    have hm := List.mem_of_getElem? h1
    rcases List.mem_append.mp hm with z | z
    · obtain ⟨_, _, q⟩ := List.mem_map.mp z
      cases q
    · have := List.eq_of_mem_replicate z
      cases this
  refine ⟨fo, by simp [L2.start, startG, len], fun i s e => ?_, fun i j a d e h1 h2 h3 h4 => ?_⟩
  · cases i with
    | zero =>
      cases e
      exact ⟨_, rfl, p, q, rfl, rfl⟩
    | succ i =>
      have e : (ds.map SV.sh ++ List.replicate (N.length - ds.length) SV.un)[i]? = some s := e
      show ∃ o, (vs.map some ++ List.replicate (N.length - vs.length) none)[i]? = some o ∧ _
      by_cases hi : i < ds.length
      · rw [List.getElem?_append_left (by simpa using hi), List.getElem?_map] at e
        rw [List.getElem?_append_left (by simpa [len] using hi), List.getElem?_map]
        obtain ⟨v, h1, h2⟩ := rv.get (List.getElem?_eq_getElem hi)
        rw [List.getElem?_eq_getElem hi] at e
        cases e
        exact ⟨some v, by rw [h1]; rfl, v, rfl, h2⟩
      · rw [List.getElem?_append_right (by simpa using hi)] at e
        rw [List.getElem?_append_right (by simpa [len] using hi)]
        simp only [List.length_map] at e ⊢
        rw [len]
        rw [List.getElem?_replicate] at e ⊢
        split at e
        · cases e
          rename_i q
          rw [if_pos q]
          exact ⟨none, rfl, trivial⟩
        · cases e
  · cases i with
    | zero => cases h1
    | succ i => exact (un (i := i) h1).elim
/-- behind a call -/
theorem Rel.after (r : Rel K fr S σ H Δ) {st : Strm} (g : Same S S') (off : ∀ b o, H b = some o → (∀ p q, fr.pq = some (p, q) → b ≠ p ∧ b ≠ q) → S b = none → S' b = none) (sub : Same S' H') (kp : ∀ b o, H b = some o → (∀ p q, fr.pq = some (p, q) → b ≠ p ∧ b ≠ q) → H' b = some o)
    (stm : ∀ p q, fr.pq = some (p, q) → StAt H' p q st ∧ S' p = none ∧ S' q = none) : Rel K fr S' σ H' (Δ.1, st) ∧ Grow fr S S' := by
  have np : ∀ b o, fr.prot b = some o → ∀ p q, fr.pq = some (p, q) → b ≠ p ∧ b ≠ q := fun b o e p q z => by
    obtain ⟨_, _, _, h4, h5⟩ := r.fro.stm p q z
    exact ⟨ne_of_none e h4, ne_of_none e h5⟩
  refine ⟨⟨⟨sub, fun b o e => kp b o (r.fro.prt b o e) (np b o e), fun p q e => ?_⟩, r.len, fun i s e => ?_, r.dist⟩, g, fun b o e n => off b o (r.fro.prt b o e) (np b o e) n⟩
  · obtain ⟨_, _, _, h4, h5⟩ := r.fro.stm p q e
    obtain ⟨z1, z2, z3⟩ := stm p q e
    exact ⟨z1, z2, z3, h4, h5⟩
  · obtain ⟨u, e1, h1⟩ := r.slot i s e
    refine ⟨u, e1, h1.keep g fun a d hs ho => ?_⟩
    obtain ⟨b, e2, w⟩ := r.own (hs ▸ e)
    rw [e1, ho] at e2
    cases e2
    obtain ⟨ho', h2, _⟩ := w.at_
    exact ⟨(kp a _ h2 w.offQ).trans h2.symm, off a _ h2 w.offQ w.offS⟩
end
section
variable {g : G} {x qual : Str} {st : Stmt} {f : Addr} {fd : FuncData} {N ps : List Str} {k : Nat} {fb : DS → R (Fl × DS)}
theorem len_pre (S : FnScope N ps (defScope st)) : ps.length ≤ N.length := by
  have := congrArg List.length S.pre
  rw [List.length_take] at this
  omega
theorem fn_P (F : Fun g.K x qual st f fd) (S : FnScope N ps (defScope st))
    (hb : ∀ (cdv : Value) (A : Around) (outer : List Env) (s : Shared) (H : Hp) (E : XK), Room k (A.deeper (envOfC qual (defScope st) s.heap.objs.size f cdv)) → Dss (cxOf (L2.CX g.P g.w) g.P g.w g.K g.mg g.base N qual (defScope st) f cdv A outer s H E) E (defBody st) fb) :
    FnOk g.P g.w g.K g.mg g.base (L2.CX g.P g.w) (k + 1) f fd ps (spP g.K g.mg ps.length (runP N fb)) := by
  refine F.okX S (fun vs H Q E h => h.1) fun cdv A outer s H vs Q E hr h => ?_
  obtain ⟨hl, S0, prot, ds, fo, rv, w⟩ := h
  obtain ⟨t, p, hb⟩ := hb cdv A outer s H E hr
  refine ⟨t, p, hb ⟨prot, none⟩ S0 H (L2.start N vs) (startG N ds, {}) _ (start_rel fo rv (by rw [hl]; exact len_pre S)) (wp_mono (wp_bind w) (fun r w1 S' H' σ' g1 r1 => ?_) fun _ _ z => z)⟩
  obtain ⟨fl, Δ⟩ := r
  have fo' : FrOk ⟨prot, none⟩ S' H' {} := ⟨r1.fro.sub, r1.fro.prt, fun _ _ z => by cases z⟩
  cases fl with
  | nx => exact wp_ok w1 S' H' .non g1 fo' .non
  | rt d => exact fun v rv => wp_ok w1 S' H' v g1 fo' rv
  | bk => exact w1.elim
  | ct => exact w1.elim
theorem fn_S {n0 : Str} {N' ps' : List Str} (F : Fun g.K x qual st f fd) (S : FnScope (n0 :: N') (n0 :: ps') (defScope st))
    (hb : ∀ (cdv : Value) (A : Around) (outer : List Env) (s : Shared) (H : Hp) (E : XK), Room k (A.deeper (envOfC qual (defScope st) s.heap.objs.size f cdv)) → Dss (cxOf (L2.CX g.P g.w) g.P g.w g.K g.mg g.base (n0 :: N') qual (defScope st) f cdv A outer s H E) E (defBody st) fb) :
    FnOk g.P g.w g.K g.mg g.base (L2.CX g.P g.w) (k + 1) f fd (n0 :: ps') (spS g.K g.mg ps'.length (runS (n0 :: N') fb)) := by
  refine F.okX S (fun vs H Q E h => h.1) fun cdv A outer s H vs Q E hr h => ?_
  obtain ⟨hl, p0, q0, vs', S0, prot, ds, st0, rfl, fo, rv, w⟩ := h
  obtain ⟨t, p, hb⟩ := hb cdv A outer s H E hr
  have hpre := len_pre S
  simp only [List.length_cons] at hl hpre
  refine ⟨t, p, hb ⟨prot, some (p0, q0)⟩ S0 H _ (.stm :: startG N' ds, st0) _ (start_relS fo rv (by omega)) (wp_mono (wp_bind w) (fun r w1 S' H' σ' g1 r1 => ?_) fun _ _ z => z)⟩
  obtain ⟨fl, Δ⟩ := r
  cases fl with
  | nx => exact wp_ok w1 S' H' .non g1 r1.fro .non
  | rt d => exact fun v rv => wp_ok w1 S' H' v g1 r1.fro rv
  | bk => exact w1.elim
  | ct => exact w1.elim
theorem ok_P {F : List D → R D} {n : Nat} (h : FnOk g.P g.w g.K g.mg g.base (L2.CX g.P g.w) k f fd ps (spP g.K g.mg n F)) (hn : ps.length = n) (hm : g.mg x = some (.ref f)) (hk : PySem.W.keepIn g.K (.ref f) = true) (hb : Binds g.K fd ps []) : OkP g k n x F := ⟨f, fd, ps, hn, h, hm, hk, hb⟩
theorem ok_S {F : List D → Strm → R (D × Strm)} {n : Nat} (h : FnOk g.P g.w g.K g.mg g.base (L2.CX g.P g.w) k f fd ps (spS g.K g.mg n F)) (hn : ps.length = n + 1) (hm : g.mg x = some (.ref f)) (hk : PySem.W.keepIn g.K (.ref f) = true) (hb : Binds g.K fd ps []) : OkS g k n x F := ⟨f, fd, ps, hn, h, hm, hk, hb⟩
theorem fn_bad {n : Nat} {F : List D → R D} (hF : ∀ ds, F ds = .bad) (hn : ps.length = n) : FnOk g.P g.w g.K g.mg g.base (L2.CX g.P g.w) k f fd ps (spP g.K g.mg n F) :=
  ⟨fun vs H Q E h => by rw [hn]; exact h.1, fun A outer s H args us vs Q E _ _ _ _ h => by
    obtain ⟨_, _, _, ds, _, _, w⟩ := h
    rw [hF] at w
    exact w.elim⟩
theorem fn_badS {n : Nat} {F : List D → Strm → R (D × Strm)} (hF : ∀ ds st, F ds st = .bad) (hn : ps.length = n + 1) : FnOk g.P g.w g.K g.mg g.base (L2.CX g.P g.w) k f fd ps (spS g.K g.mg n F) :=
  ⟨fun vs H Q E h => by rw [hn]; exact h.1, fun A outer s H args us vs Q E _ _ _ _ h => by
    obtain ⟨_, _, _, _, _, _, ds, st, _, _, _, w⟩ := h
    rw [hF] at w
    exact w.elim⟩
/-- what a body may let out -/
theorem pass_cx {P : Program} {w : World} {K : PySem.W.Frag} {mg : Str → Option Value} {base : Heap} {sc : Scope} {cdv : Value} {A : Around} {outer : List Env} {s : Shared} {H : Hp} {E : XK} :
    Passes (L2.CX P w) (cxOf (L2.CX P w) P w K mg base N qual sc f cdv A outer s H E) E :=
  passes_call (X := cxOf (L2.CX P w) P w K mg base N qual sc f cdv A outer s H E) (takes_of rfl rfl rfl rfl) fun _ _ _ _ h => h
theorem own_cx {P : Program} {w : World} {K : PySem.W.Frag} {mg : Str → Option Value} {base : Heap} {sc : Scope} {cdv : Value} {A : Around} {outer : List Env} {s : Shared} {H : Hp} {E : XK} :
    PassesOwn (model P w) (cxOf (L2.CX P w) P w K mg base N qual sc f cdv A outer s H E).A (cxOf (L2.CX P w) P w K mg base N qual sc f cdv A outer s H E).env (cxOf (L2.CX P w) P w K mg base N qual sc f cdv A outer s H E).xe :=
  passes_of (X := cxOf (L2.CX P w) P w K mg base N qual sc f cdv A outer s H E) rfl
end
section
variable {X : Cx} {E : XK} {e : Expr} {es : List Expr} {pos p : Pos} {g : G} {x : Str} {k n : Nat} {fl : DS → R (List D × DS)}
@[simp, reducible] def R.withS {Δ : DS} (r : R D) : R (D × DS) := match r with
  | .ok d => .ok (d, Δ)
  | .exc x _ => .exc x Δ.2
  | .bad => .bad
@[simp, reducible] def fCallP (n : Nat) (F : List D → R D) (fl : DS → R (List D × DS)) : DS → R (D × DS) := fun Δ => fl Δ >>= fun p => if p.1.length = n then R.withS (Δ := p.2) (F p.1) else .bad
@[simp, reducible] def fCallS (i n : Nat) (F : List D → Strm → R (D × Strm)) (fl : DS → R (List D × DS)) : DS → R (D × DS) := fun Δ => match Δ.1[i]? with
  | some .stm => fl Δ >>= fun p => if p.1.length = n then F p.1 p.2.2 >>= fun r => .ok (r.1, (p.2.1, r.2)) else .bad
  | _ => .bad
theorem callP_wp {K : PySem.W.Frag} {mg : Str → Option Value} {fr : Frm} {S1 H1 : Hp} {σ : L2.St} {Δ : DS} {vs : List V} {ds : List D} {F : List D → R D} {Q : VK} {E : XK} (r1 : Rel K fr S1 σ H1 Δ) (rv : RpL K S1 vs ds)
    (w : (if ds.length = n then R.withS (Δ := Δ) (F ds) else .bad).wp (fun r => ∀ S' H' v, Grow fr S1 S' → Rel K fr S' σ H' r.2 → Rp K S' v r.1 → Q v H') (XP K mg fr S1 E)) : spP K mg n F vs H1 Q E := by
  by_cases hn : ds.length = n
  · rw [if_pos hn] at w
    refine ⟨by rw [rv.length]; exact hn, S1, H1, ds, ⟨r1.fro.sub, Same.refl H1, fun _ _ z => by cases z⟩, rv, ?_⟩
    have step : ∀ S' H' st, Grow ⟨H1, none⟩ S1 S' → FrOk ⟨H1, none⟩ S' H' st → Rel K fr S' σ H' (Δ.1, Δ.2) ∧ Grow fr S1 S' := fun S' H' st g f => by
      refine r1.after g.sub (fun b o e _ n => g.off b o e n) f.sub (fun b o e _ => f.prt b o e) fun p q z => ?_
      obtain ⟨h1, h2, h3, _, _⟩ := r1.fro.stm p q z
      exact ⟨⟨f.prt _ _ h1.1, f.prt _ _ h1.2.1, h1.2.2⟩, g.off _ _ h1.1 h2, g.off _ _ h1.2.1 h3⟩
    cases q : F ds with
    | ok d =>
      rw [q] at w
      exact fun S' H' v g f rp => by
        obtain ⟨r2, g2⟩ := step S' H' _ g f
        exact wp_ok w S' H' v g2 r2 rp
    | exc x st =>
      rw [q] at w
      exact fun S' H' cls xd g f rx => by
        obtain ⟨r2, g2⟩ := step S' H' _ g f
        exact w S' H' cls xd g2 r2.fro rx
    | bad => rw [q] at w; exact w.elim
  · rw [if_neg hn] at w
    exact w.elim
theorem de_callP {F : List D → R D} {j : Nat} (h : OkP g j n x F) (sg : SameG X g) (hr : Room k X.A) (hj : j ≤ k) (hg : Gl X x) (hx : Passes (L2.CX X.prog X.w) X E) (ha : DA X E (e :: es) fl) (hdb : (x == ("__debug__" : Str)) = false := by decide)
    (he : starEach (e :: es) X.env = (false, eval e X.env) :: starEach es X.env := by rfl) (hpl : (backTo pos (starEach es X.env)).any (·.1) = false := by rfl) : DE X E (.Call (.Name x p) (e :: es) [] pos) (fCallP n F fl) := by
  obtain ⟨P, w, K, mg, base⟩ := g
  obtain ⟨s1, s2, s3, s4, s5⟩ := sg
  cases s1
  cases s2
  cases s3
  cases s4
  cases s5
  obtain ⟨f, fd, ps, hn, Fo, hm, hk, hb⟩ := h
  obtain ⟨t, q, ha⟩ := ha
  refine ⟨_, pe_call Fo (hr.mono hj) hg hm hk hb .nil hx q hdb he hpl, fun fr S H σ Δ Q rl w => ?_⟩
  refine ha fr S H σ Δ _ rl (wp_mono (wp_bind w) (fun r w1 S1 H1 vs g1 r1 rv => ?_) fun _ _ z => z)
  show spP X.K X.mg n F (vs ++ []) H1 Q E
  rw [List.append_nil]
  exact callP_wp r1 rv (wp_mono w1 (fun r w2 S' H' v g2 r2 rp => w2 S' H' v (g1.trans g2) r2 rp) fun _ _ z => z.grow g1)
theorem de_callS {F : List D → Strm → R (D × Strm)} {i j : Nat} {x0 : Str} {p0 : Pos} (h : OkS g j n x F) (sg : SameG X g) (hr : Room k X.A) (hj : j ≤ k) (hg : Gl X x) (hx : Passes (L2.CX X.prog X.w) X E) (ha : DA X E es fl)
    (hN : X.N[i]? = some x0 := by rfl) (hv : Vis X.env.scope x0 := by first | exact Or.inl rfl | exact Or.inr (Or.inl rfl) | exact Or.inr (Or.inr rfl)) (hd0 : (x0 == ("__debug__" : Str)) = false := by decide) (hcd : (x0 == ("__classdict__" : Str)) = false := by decide) (hdb : (x == ("__debug__" : Str)) = false := by decide)
    (he : starEach (.Name x0 p0 :: es) X.env = (false, eval (.Name x0 p0) X.env) :: starEach es X.env := by rfl) (hpl : (backTo pos (starEach es X.env)).any (·.1) = false := by rfl) : DE X E (.Call (.Name x p) (.Name x0 p0 :: es) [] pos) (fCallS i n F fl) := by
  obtain ⟨P, w, K, mg, base⟩ := g
  obtain ⟨s1, s2, s3, s4, s5⟩ := sg
  cases s1
  cases s2
  cases s3
  cases s4
  cases s5
  obtain ⟨f, fd, ps, hn, Fo, hm, hk, hb⟩ := h
  obtain ⟨t, q, ha⟩ := ha
  refine ⟨_, pe_call Fo (hr.mono hj) hg hm hk hb .nil hx (pa_cons (pv i hN hv hd0 hcd) q he) hdb he hpl, fun fr S H σ Δ Q rl w => ?_⟩
  have w : (match Δ.1[i]? with
    | some .stm => fl Δ >>= fun p => if p.1.length = n then F p.1 p.2.2 >>= fun r => R.ok (r.1, (p.2.1, r.2)) else .bad
    | _ => R.bad).wp _ _ := w
  cases qs : Δ.1[i]? with
  | none => rw [qs] at w; exact w.elim
  | some s =>
    rw [qs] at w
    cases s with
    | un => exact w.elim
    | sh d => exact w.elim
    | ow d => exact w.elim
    | stm =>
      obtain ⟨o, e1, p1, q1, e2, e3⟩ := rl.slot i _ qs
      refine ⟨.ref p1, by rw [e1, e3], ha fr S H σ Δ _ rl (wp_mono (wp_bind w) (fun r w1 S1 H1 vs g1 r1 rv => ?_) fun _ _ z => z)⟩
      show spS X.K X.mg n F ((V.ref p1 :: vs) ++ []) H1 Q E
      rw [List.append_nil]
      obtain ⟨ds, Δ1⟩ := r
      have w1 : (if ds.length = n then F ds Δ1.2 >>= fun r => R.ok (r.1, (Δ1.1, r.2)) else .bad).wp _ _ := w1
      by_cases hn : ds.length = n
      · rw [if_pos hn] at w1
        obtain ⟨h1, h2, h3, h4, h5⟩ := r1.fro.stm p1 q1 e2
        have np : ∀ b, b ≠ p1 → b ≠ q1 → ∀ p q, fr.pq = some (p, q) → b ≠ p ∧ b ≠ q := fun b n1 n2 p q z => by
          rw [e2] at z
          cases z
          exact ⟨n1, n2⟩
        let H2 : Hp := fun b => if b = p1 ∨ b = q1 then none else H1 b
        have hH2 : ∀ b o, H2 b = some o → H1 b = some o := fun b o e => by
          by_cases hb : b = p1 ∨ b = q1
          · have e : (if b = p1 ∨ b = q1 then none else H1 b) = some o := e
            rw [if_pos hb] at e
            cases e
          · have e : (if b = p1 ∨ b = q1 then none else H1 b) = some o := e
            rw [if_neg hb] at e
            exact e
        have hH3 : ∀ b o, H1 b = some o → b ≠ p1 → b ≠ q1 → H2 b = some o := fun b o e n1 n2 => by
          show (if b = p1 ∨ b = q1 then none else H1 b) = some o
          rw [if_neg (fun z => z.elim n1 n2)]
          exact e
        refine ⟨by simp [rv.length, hn], p1, q1, vs, S1, H2, ds, Δ1.2, rfl, ⟨r1.fro.sub, hH2, fun p q z => ?_⟩, rv, ?_⟩
        · cases z
          exact ⟨h1, h2, h3, if_pos (.inl rfl), if_pos (.inr rfl)⟩
        · have step : ∀ S' H' st, Grow ⟨H2, some (p1, q1)⟩ S1 S' → FrOk ⟨H2, some (p1, q1)⟩ S' H' st → Rel X.K fr S' σ H' (Δ1.1, st) ∧ Grow fr S1 S' := fun S' H' st g f => by
            refine r1.after g.sub (fun b o e np' n => g.off b o (hH3 b o e (np' p1 q1 e2).1 (np' p1 q1 e2).2) n) f.sub (fun b o e np' => f.prt b o (hH3 b o e (np' p1 q1 e2).1 (np' p1 q1 e2).2)) fun p q z => ?_
            rw [e2] at z
            cases z
            obtain ⟨z1, z2, z3, _, _⟩ := f.stm p1 q1 rfl
            exact ⟨z1, z2, z3⟩
          refine wp_mono (wp_bind w1) (fun r w2 S' H' v g f rp => ?_) fun x st z S' H' cls xd g f rx => ?_
          · obtain ⟨r2, g2⟩ := step S' H' _ g f
            exact wp_ok w2 S' H' v (g1.trans g2) r2 rp
          · obtain ⟨r2, g2⟩ := step S' H' _ g f
            exact z S' H' cls xd (g1.trans g2) r2.fro rx
      · rw [if_neg hn] at w1
        exact w1.elim
end
end DL
namespace DL
open PySem PySem.Spec PyProof.Rows L2

/-! ## rules by values -/
section
variable {X : Cx}
@[simp, reducible] def gI (C : Int → Int → Bool) (h : Int → Int → Int) : D → D → Option TV
  | .int i, .int j => if C i j = true then some (.sh (.int (h i j))) else none
  | _, _ => none
@[simp, reducible] def gI0 (h : Int → Int → Int) : D → D → Option TV
  | .int i, .int j => some (.sh (.int (h i j)))
  | _, _ => none
@[simp, reducible] def gB0 (h : Int → Int → Bool) : D → D → Option TV
  | .int i, .int j => some (.sh (.bl (h i j)))
  | _, _ => none
theorem od_I {f : Value → Value → Sem Value} {C' : Int → Int → Prop} {C : Int → Int → Bool} {h : Int → Int → Int} (hC : ∀ i j, C i j = true → C' i j) (ho : OpR X f (rI C' fun i j => .int (h i j))) : OpD X f (gI C h) := by
  refine ⟨_, ho, fun fr S H σ Δ x y d e Q rl rx ry w => ?_⟩
  cases rx with
  | int i =>
    cases ry with
    | int j =>
      have w : oWp (if C i j = true then some (TV.sh (.int (h i j))) else none) _ := w
      by_cases hc : C i j = true
      · rw [if_pos hc] at w
        exact ⟨i, j, rfl, rfl, hC i j hc, oWp_some w S H _ (Grow.refl fr S) rl (.sh (.int _))⟩
      · rw [if_neg hc] at w
        exact w.elim
    | _ => exact w.elim
  | _ => exact w.elim
theorem od_I0 {f : Value → Value → Sem Value} {h : Int → Int → Int} (ho : OpR X f (rI0 fun i j => .int (h i j))) : OpD X f (gI0 h) := by
  refine ⟨_, ho, fun fr S H σ Δ x y d e Q rl rx ry w => ?_⟩
  cases rx with
  | int i =>
    cases ry with
    | int j => exact ⟨i, j, rfl, rfl, oWp_some w S H _ (Grow.refl fr S) rl (.sh (.int _))⟩
    | _ => exact w.elim
  | _ => exact w.elim
theorem od_B0 {f : Value → Value → Sem Value} {h : Int → Int → Bool} (ho : OpR X f (rI0 fun i j => .bl (h i j))) : OpD X f (gB0 h) := by
  refine ⟨_, ho, fun fr S H σ Δ x y d e Q rl rx ry w => ?_⟩
  cases rx with
  | int i =>
    cases ry with
    | int j => exact ⟨i, j, rfl, rfl, oWp_some w S H _ (Grow.refl fr S) rl (.sh (.bl _))⟩
    | _ => exact w.elim
  | _ => exact w.elim
/-! ### + -/
@[simp, reducible] def gAddS : D → D → Option TV
  | .str i, .str j => if i.length + j.length ≤ sizeLine then some (.sh (.str (i ++ j))) else none
  | _, _ => none
@[simp, reducible] def gCat : D → D → Option TV
  | .lst i, .lst j => if i.length + j.length ≤ sizeLine then some (.ow (.lst (i ++ j))) else none
  | _, _ => none
@[simp, reducible] def gCatT : D → D → Option TV
  | .tup i, .tup j => if i.length + j.length ≤ sizeLine then some (.sh (.tup (i ++ j))) else none
  | _, _ => none
theorem od_addS : OpD X (binaryOp .Add) gAddS := by
  refine ⟨_, op_add_str, fun fr S H σ Δ x y d e Q rl rx ry w => ?_⟩
  cases rx with
  | str i =>
    cases ry with
    | str j =>
      have w : oWp (if i.length + j.length ≤ sizeLine then some (TV.sh (.str (i ++ j))) else none) _ := w
      by_cases hc : i.length + j.length ≤ sizeLine
      · rw [if_pos hc] at w
        exact ⟨i, j, rfl, rfl, hc, oWp_some w S H _ (Grow.refl fr S) rl (.sh (.str _))⟩
      · rw [if_neg hc] at w
        exact w.elim
    | _ => exact w.elim
  | _ => exact w.elim
theorem od_cat : OpD X (binaryOp .Add) gCat := by
  refine ⟨_, op_cat, fun fr S H σ Δ x y d e Q rl rx ry w => ?_⟩
  cases rx with
  | @lst a xs ds h1 h2 =>
    cases ry with
    | @lst b ys es h3 h4 =>
      have w : oWp (if ds.length + es.length ≤ sizeLine then some (TV.ow (.lst (ds ++ es))) else none) _ := w
      by_cases hc : ds.length + es.length ≤ sizeLine
      · rw [if_pos hc] at w
        refine ⟨a, b, xs, ys, rfl, rfl, rl.fro.sub _ _ h1, rl.fro.sub _ _ h3, by rw [h2.length, h4.length]; exact hc, fun p hn => ?_⟩
        obtain ⟨o1, o2⟩ := rl.newOwn hn (.lst (h2.append h4))
        exact oWp_some w S _ _ (Grow.refl fr S) (rl.beside hn) (.ow o1 o2)
      · rw [if_neg hc] at w
        exact w.elim
    | _ => exact w.elim
  | _ => exact w.elim
theorem od_catT : OpD X (binaryOp .Add) gCatT := by
  refine ⟨_, op_catA, fun fr S H σ Δ x y d e Q rl rx ry w => ?_⟩
  cases rx with
  | @tup a xs ds h1 h2 =>
    cases ry with
    | @tup b ys es h3 h4 =>
      have w : oWp (if ds.length + es.length ≤ sizeLine then some (TV.sh (.tup (ds ++ es))) else none) _ := w
      by_cases hc : ds.length + es.length ≤ sizeLine
      · rw [if_pos hc] at w
        refine ⟨a, b, xs, ys, rfl, rfl, sqT_same rl.fro.sub h1, sqT_same rl.fro.sub h3, by rw [h2.length, h4.length]; exact hc, fun e => ?_, fun _ e => ?_, fun _ _ p hn => ?_⟩
        · subst e
          cases h2
          exact oWp_some w S H _ (Grow.refl fr S) rl (.sh (.tup h3 h4))
        · subst e
          cases h4
          rw [List.append_nil] at w
          exact oWp_some w S H _ (Grow.refl fr S) rl (.sh (.tup h1 h2))
        · obtain ⟨r2, g2⟩ := rl.laid (o := .tup (xs ++ ys)) hn
          exact oWp_some w _ _ _ g2 r2 (.sh (.tup (.inl (.inl upd_same)) (RpL.mono g2.sub _ (h2.append h4))))
      · rw [if_neg hc] at w
        exact w.elim
    | _ => exact w.elim
  | _ => exact w.elim
@[simp, reducible] def gAdd : D → D → Option TV := fun d e => oEls (gI0 (· + ·) d e) (oEls (gCat d e) (oEls (gAddS d e) (gCatT d e)))
theorem od_add : OpD X (binaryOp .Add) gAdd := (od_I0 op_add).or (od_cat.or (od_addS.or od_catT))
@[simp, reducible] def gSub : D → D → Option TV := gI0 (· - ·)
theorem od_sub : OpD X (binaryOp .Sub) gSub := od_I0 op_sub
/-! ### *: one factor below 2 ^ 64; a list, a text n times -/
@[simp, reducible] def cMul (i j : Int) : Bool := decide (i.natAbs < 2 ^ 64) || decide (j.natAbs < 2 ^ 64)
theorem cMul_of {i j : Int} (h : cMul i j = true) : CMul i j := by
  rcases Bool.or_eq_true_iff.mp h with h | h
  · have := of_decide_eq_true h
    exact .inl (by omega)
  · have := of_decide_eq_true h
    exact .inr (by omega)
@[simp, reducible] def gRep : D → D → Option TV
  | .lst l, .int k => if chk (k < 2 ^ 24 ∧ -(2 ^ 24) < k ∧ l.length * k.toNat ≤ sizeLine) = true then some (.ow (.lst (List.replicate k.toNat l).flatten)) else none
  | _, _ => none
theorem od_rep : OpD X (binaryOp .Mult) gRep := by
  refine ⟨_, op_rep, fun fr S H σ Δ x y d e Q rl rx ry w => ?_⟩
  cases rx with
  | @lst a xs ds h1 h2 =>
    cases ry with
    | int k =>
      have w : oWp (if chk (k < 2 ^ 24 ∧ -(2 ^ 24) < k ∧ ds.length * k.toNat ≤ sizeLine) = true then some (TV.ow (.lst (List.replicate k.toNat ds).flatten)) else none) _ := w
      by_cases hc : k < 2 ^ 24 ∧ -(2 ^ 24) < k ∧ ds.length * k.toNat ≤ sizeLine
      · rw [if_pos (chk_pos hc)] at w
        refine ⟨a, k, xs, rfl, rfl, rl.fro.sub _ _ h1, by omega, by omega, by rw [h2.length]; exact hc.2.2, fun p hn => ?_⟩
        obtain ⟨o1, o2⟩ := rl.newOwn hn (.lst (h2.rep k.toNat))
        exact oWp_some w S _ _ (Grow.refl fr S) (rl.beside hn) (.ow o1 o2)
      · rw [if_neg (fun z => hc (of_chk z))] at w
        exact w.elim
    | _ => exact w.elim
  | _ => exact w.elim
/-- a text n times over -/
def repS (x : Str) (n : Nat) : Str := ⟨(List.replicate n x.cps.toList).flatten.toArray⟩
theorem fold_app (l : List Nat) : ∀ (n : Nat) (acc : Array Nat), (List.replicate n l.toArray).foldl (· ++ ·) acc = acc ++ (List.replicate n l).flatten.toArray
  | 0, acc => by simp
  | n + 1, acc => by
    rw [List.replicate_succ, List.foldl_cons, fold_app l n, List.replicate_succ, List.flatten_cons]
    simp
theorem repS_length (x : Str) (n : Nat) : (repS x n).length = n * x.length := by
  show ((List.replicate n x.cps.toList).flatten.toArray).size = n * x.cps.size
  rw [List.size_toArray, List.length_flatten, List.map_replicate, List.sum_replicate_nat, Array.length_toList]
theorem op_repS : OpR X (binaryOp .Mult) (fun x y H Q => ∃ (z : Str) (n : Int), x = .str z ∧ y = .int n ∧ -(2 ^ 24) < n ∧ n < 2 ^ 24 ∧ z.length * n.toNat ≤ sizeLine ∧ Q (.str (repS z n.toNat)) H) := by
  intro pins s σ H x y v u Q I rx ry h
  obtain ⟨z, n, rfl, rfl, h1, h2, hz, q⟩ := h
  obtain ⟨t, rfl⟩ := rx
  obtain ⟨t', rfl⟩ := ry
  have hb1 : ¬ n < -(2 ^ 63 : Int) := by omega
  have hb2 : ¬ n ≥ 2 ^ 63 := by omega
  have hz' : z.length * n.toNat ≤ 16777216 := by rw [← sizeLine_eq]; exact hz
  refine PySem.P.mul_str (by rw [decide_eq_false hb1, decide_eq_false hb2]; rfl) (fun hn hq => ?_) (fun hn hq => ?_) ?_
  · have hl : (z.length : Int) * n ≤ 16777216 := by
      have e : n = (n.toNat : Int) := by omega
      have q1 : ((z.length * n.toNat : Nat) : Int) ≤ 16777216 := by omega
      rw [e]
      rw [Int.natCast_mul] at q1
      exact q1
    have hn1 : 1 ≤ n := by omega
    intro hgt
    have h3 : (2 ^ 63 - 1) / n * n + n > 2 ^ 63 - 1 := by
      have := Int.emod_lt_of_pos (2 ^ 63 - 1) (show 0 < n by omega)
      have e := Int.mul_ediv_add_emod (2 ^ 63 - 1) n
      rw [Int.mul_comm] at e
      omega
    have h4 : ((2 ^ 63 - 1) / n + 1) * n ≤ (z.length : Int) * n := Int.mul_le_mul_of_nonneg_right (by omega) (by omega)
    rw [Int.add_mul] at h4
    omega
  · unfold Builtin.Str.tooLong
    exact decide_eq_false (by rw [sizeLine_eq]; omega)
  · by_cases hn : n < 1
    · rw [if_pos hn]
      have e : n.toNat = 0 := by omega
      rw [e] at q
      exact ⟨by decide, .str _, H, I.tok _, ⟨_, rfl⟩, q⟩
    · rw [if_neg hn]
      by_cases hq : (n == 1 || z.length == 0) = true
      · rw [if_pos hq]
        have e : repS z n.toNat = z := by
          rcases Bool.or_eq_true_iff.mp hq with h | h
          · have := eq_of_beq h
            subst this
            unfold repS
            simp
          · have hl : z.length = 0 := eq_of_beq h
            have hc : z.cps.toList = [] := List.eq_nil_of_length_eq_zero (by rw [Array.length_toList]; exact hl)
            unfold repS
            rw [hc]
            have hf : (List.replicate n.toNat ([] : List Nat)).flatten = [] := by simp
            rw [hf]
            have : z.cps = #[] := by
              apply Array.ext'
              exact hc
            cases z
            rename_i cps
            have this : cps = #[] := this
            rw [this]
        rw [e] at q
        exact ⟨.str _, H, I, ⟨_, rfl⟩, q⟩
      · rw [if_neg hq]
        have e : (⟨(List.replicate n.toNat z.cps).foldl (· ++ ·) #[]⟩ : Str) = repS z n.toNat := by
          unfold repS
          congr 1
          have := fold_app z.cps.toList n.toNat #[]
          simpa using this
        rw [e]
        exact ⟨by rw [repS_length, Nat.mul_comm]; exact hz, .str _, H, I.tok _, ⟨_, rfl⟩, q⟩
@[simp, reducible] def gRepS : D → D → Option TV
  | .str z, .int k => if chk (k < 2 ^ 24 ∧ -(2 ^ 24) < k ∧ z.length * k.toNat ≤ sizeLine) = true then some (.sh (.str (repS z k.toNat))) else none
  | _, _ => none
theorem od_repS : OpD X (binaryOp .Mult) gRepS := by
  refine ⟨_, op_repS, fun fr S H σ Δ x y d e Q rl rx ry w => ?_⟩
  cases rx with
  | str z =>
    cases ry with
    | int k =>
      have w : oWp (if chk (k < 2 ^ 24 ∧ -(2 ^ 24) < k ∧ z.length * k.toNat ≤ sizeLine) = true then some (TV.sh (.str (repS z k.toNat))) else none) _ := w
      by_cases hc : k < 2 ^ 24 ∧ -(2 ^ 24) < k ∧ z.length * k.toNat ≤ sizeLine
      · rw [if_pos (chk_pos hc)] at w
        exact ⟨z, k, rfl, rfl, hc.2.1, hc.1, hc.2.2, oWp_some w S H _ (Grow.refl fr S) rl (.sh (.str _))⟩
      · rw [if_neg (fun z => hc (of_chk z))] at w
        exact w.elim
    | _ => exact w.elim
  | _ => exact w.elim
@[simp, reducible] def gMul : D → D → Option TV := fun d e => oEls (gI cMul (· * ·) d e) (oEls (gRep d e) (gRepS d e))
theorem od_mul : OpD X (binaryOp .Mult) gMul := (od_I (fun _ _ h => cMul_of h) op_mul).or (od_rep.or od_repS)
/-! ### the other operators on ints -/
@[simp, reducible] def gMod : D → D → Option TV := gI (fun _ j => chk (0 < j)) (· % ·)
theorem od_mod : OpD X (binaryOp .Mod) gMod := od_I (fun _ _ h => of_chk h) op_mod
@[simp, reducible] def gFdiv : D → D → Option TV := gI (fun _ j => chk (0 < j ∧ j < 1073741824)) (· / ·)
theorem od_fdiv : OpD X (binaryOp .FloorDiv) gFdiv := od_I (fun _ _ h => of_chk h) op_fdiv
@[simp, reducible] def cPow (i j : Int) : Bool := chk (0 ≤ j ∧ j ≤ 1000000 ∧ i.natAbs < 2 ^ 64)
theorem cPow_of {i j : Int} (h : cPow i j = true) : CPow i j := by
  exact of_chk h
@[simp, reducible] def gPow : D → D → Option TV := gI cPow fun i j => i ^ j.toNat
theorem od_pow : OpD X (binaryOp .Pow) gPow := od_I (fun _ _ h => cPow_of h) op_pow
@[simp, reducible] def gShl : D → D → Option TV := gI cPow fun i j => i * 2 ^ j.toNat
theorem od_shl : OpD X (binaryOp .LShift) gShl := od_I (fun _ _ h => cPow_of h) op_shl
@[simp, reducible] def gShr : D → D → Option TV := gI (fun _ j => chk (0 ≤ j)) fun i j => i / 2 ^ j.toNat
theorem od_shr : OpD X (binaryOp .RShift) gShr := od_I (fun _ _ h => of_chk h) op_shr
@[simp, reducible] def gBand : D → D → Option TV := gI0 Builtin.bitAnd
theorem od_band : OpD X (binaryOp .BitAnd) gBand := od_I0 op_and
@[simp, reducible] def gBor : D → D → Option TV := gI0 Builtin.bitOr
theorem od_bor : OpD X (binaryOp .BitOr) gBor := od_I0 op_or
@[simp, reducible] def gBxor : D → D → Option TV := gI0 Builtin.bitXor
theorem od_bxor : OpD X (binaryOp .BitXor) gBxor := od_I0 op_xor
@[simp, reducible] def gNeg : D → Option TV
  | .int i => some (.sh (.int (-i)))
  | _ => none
theorem ud_neg : UnD X (unaryOp .USub) gNeg := by
  refine ⟨_, un_neg, fun fr S H σ Δ x d Q rl rx w => ?_⟩
  cases rx with
  | int i => exact ⟨i, rfl, oWp_some w S H _ (Grow.refl fr S) rl (.sh (.int _))⟩
  | _ => exact w.elim
/-! ### comparisons -/
@[simp, reducible] def gLt : D → D → Option TV := gB0 fun i j => decide (i < j)
@[simp, reducible] def gLe : D → D → Option TV := gB0 fun i j => decide (i ≤ j)
@[simp, reducible] def gGt : D → D → Option TV := gB0 fun i j => decide (j < i)
@[simp, reducible] def gGe : D → D → Option TV := gB0 fun i j => decide (j ≤ i)
theorem od_lt : OpD X (compareOp .Lt) gLt := od_B0 op_lt
theorem od_le : OpD X (compareOp .LtE) gLe := od_B0 op_le
theorem od_gt : OpD X (compareOp .Gt) gGt := od_B0 op_gt
theorem od_ge : OpD X (compareOp .GtE) gGe := od_B0 op_ge
mutual
def D.py : D → PyData
  | .non => .none
  | .bl b => .bool b
  | .int i => .int i
  | .str x => .str x
  | .lst l => .list (D.pyL l)
  | .tup l => .tuple (D.pyL l)
  | .dct _ => .dict []
  | .ty _ => .dict []
def D.pyL : List D → List PyData
  | [] => []
  | d :: ds => D.py d :: D.pyL ds
end
mutual
theorem rp_dp {K : PySem.W.Frag} {S H : Hp} (e : Same S H) : ∀ (d : D) {v : V}, Rp K S v d → d.py.canLay0 = true → Dp K H v d.py
  | .non, _, h, _ => by cases h; rw [D.py]; exact .non
  | .bl _, _, h, _ => by cases h; rw [D.py]; exact .bl _
  | .int _, _, h, _ => by cases h; rw [D.py]; exact .int _
  | .str _, _, h, _ => by cases h; rw [D.py]; exact .str _
  | .lst ds, _, h, c => by
    cases h with
    | lst h1 h2 =>
      rw [D.py] at c ⊢
      exact .lst (SqL.of (e _ _ h1)) (rp_dpL e ds h2 (by simpa [PyData.canLay0] using c))
  | .tup ds, _, h, c => by
    cases h with
    | tup h1 h2 =>
      rw [D.py] at c ⊢
      exact .tup (sqT_same e h1) (rp_dpL e ds h2 (by simpa [PyData.canLay0] using c))
  | .dct _, _, _, c => by rw [D.py] at c; simp [PyData.canLay0] at c
  | .ty _, _, _, c => by rw [D.py] at c; simp [PyData.canLay0] at c
theorem rp_dpL {K : PySem.W.Frag} {S H : Hp} (e : Same S H) : ∀ (ds : List D) {vs : List V}, RpL K S vs ds → PyData.canLayAll0 (D.pyL ds) = true → DpAll K H vs (D.pyL ds)
  | [], _, h, _ => by cases h; rw [D.pyL]; exact .nil
  | d :: ds, _, h, c => by
    cases h with
    | cons h1 h2 =>
      rw [D.pyL] at c ⊢
      have c := Bool.and_eq_true_iff.mp (show (d.py.canLay0 && PyData.canLayAll0 (D.pyL ds)) = true by simpa [PyData.canLayAll0] using c)
      exact .cons (rp_dp e d h1 c.1) (rp_dpL e ds h2 c.2)
end
@[simp, reducible] def gEqD (n : Bool) : D → D → Option TV := fun d e => if (SeqAt.shaped d.py && SeqAt.shaped e.py) = true then some (.sh (.bl (n ^^ PyData.eqv d.py e.py))) else none
/-- flat things as values -/
@[simp, reducible] def D.flat : D → Bool
  | .non => true
  | .bl _ => true
  | .int _ => true
  | .str _ => true
  | _ => false
@[simp, reducible] def D.v : D → V
  | .bl b => .bl b
  | .int i => .int i
  | .str x => .str x
  | _ => .non
theorem flat_v {K : PySem.W.Frag} {S : Hp} {v : V} {d : D} (h : Rp K S v d) (f : d.flat = true) : v = d.v ∧ flatV d.v = true := by
  cases h <;> first | exact ⟨rfl, rfl⟩ | cases f
@[simp, reducible] def gEqS (n : Bool) : D → D → Option TV := fun d e => if (d.flat && (e.flat && scal d.v e.v)) = true then some (.sh (.bl (n ^^ decide (d.v = e.v)))) else none
theorem od_eqS : OpD X (compareOp .Eq) (gEqS false) := by
  refine ⟨_, op_eq, fun fr S H σ Δ x y d e Q rl rx ry w => ?_⟩
  unfold gEqS at w
  split at w
  · rename_i hc
    obtain ⟨h1, h2⟩ := Bool.and_eq_true_iff.mp hc
    obtain ⟨h2, h3⟩ := Bool.and_eq_true_iff.mp h2
    obtain ⟨e1, _⟩ := flat_v rx h1
    obtain ⟨e2, _⟩ := flat_v ry h2
    refine ⟨by rw [e1, e2]; exact h3, ?_⟩
    have := oWp_some w S H _ (Grow.refl fr S) rl (.sh (.bl _))
    rw [Bool.false_xor] at this
    rw [e1, e2]
    exact this
  · exact w.elim
theorem od_neS : OpD X (compareOp .NotEq) (gEqS true) := by
  refine ⟨_, op_ne, fun fr S H σ Δ x y d e Q rl rx ry w => ?_⟩
  unfold gEqS at w
  split at w
  · rename_i hc
    obtain ⟨h1, h2⟩ := Bool.and_eq_true_iff.mp hc
    obtain ⟨h2, h3⟩ := Bool.and_eq_true_iff.mp h2
    obtain ⟨e1, _⟩ := flat_v rx h1
    obtain ⟨e2, _⟩ := flat_v ry h2
    refine ⟨by rw [e1, e2]; exact h3, ?_⟩
    have := oWp_some w S H _ (Grow.refl fr S) rl (.sh (.bl _))
    rw [Bool.true_xor] at this
    rw [e1, e2]
    exact this
  · exact w.elim
theorem od_eqD (hu : X.A.units + 64 < cLine) : OpD X (compareOp .Eq) (gEqD false) := by
  refine ⟨_, op_eqD hu, fun fr S H σ Δ x y d e Q rl rx ry w => ?_⟩
  unfold gEqD at w
  split at w
  · rename_i hc
    obtain ⟨h1, h2⟩ := Bool.and_eq_true_iff.mp hc
    refine ⟨d.py, e.py, rp_dp rl.fro.sub d rx (SeqAt.canLay_of_shaped h1), rp_dp rl.fro.sub e ry (SeqAt.canLay_of_shaped h2), h1, h2, ?_⟩
    have := oWp_some w S H _ (Grow.refl fr S) rl (.sh (.bl _))
    rw [Bool.false_xor] at this
    exact this
  · exact w.elim
theorem od_neD (hu : X.A.units + 64 < cLine) : OpD X (compareOp .NotEq) (gEqD true) := by
  refine ⟨_, op_neD hu, fun fr S H σ Δ x y d e Q rl rx ry w => ?_⟩
  unfold gEqD at w
  split at w
  · rename_i hc
    obtain ⟨h1, h2⟩ := Bool.and_eq_true_iff.mp hc
    refine ⟨d.py, e.py, rp_dp rl.fro.sub d rx (SeqAt.canLay_of_shaped h1), rp_dp rl.fro.sub e ry (SeqAt.canLay_of_shaped h2), h1, h2, ?_⟩
    have := oWp_some w S H _ (Grow.refl fr S) rl (.sh (.bl _))
    rw [Bool.true_xor] at this
    exact this
  · exact w.elim
@[simp, reducible] def gEq : D → D → Option TV := fun d e => oEls (gEqS false d e) (gEqD false d e)
@[simp, reducible] def gNe : D → D → Option TV := fun d e => oEls (gEqS true d e) (gEqD true d e)
theorem od_eq (hu : X.A.units + 64 < cLine) : OpD X (compareOp .Eq) gEq := od_eqS.or (od_eqD hu)
theorem od_ne (hu : X.A.units + 64 < cLine) : OpD X (compareOp .NotEq) gNe := od_neS.or (od_neD hu)
@[simp, reducible] def gIs (n : Bool) : D → D → Option TV := fun d e => match e with
  | .non => match d with
    | .non => some (.sh (.bl (n ^^ true)))
    | _ => some (.sh (.bl (n ^^ false)))
  | _ => none
theorem gIs_non {n : Bool} {K : PySem.W.Frag} {S : Hp} {d : D} {v : V} (h : Rp K S v d) : gIs n d .non = some (.sh (.bl (n ^^ decide (v = .non)))) := by
  cases h <;> rfl
theorem od_is : OpD X (compareOp .Is) (gIs false) := by
  refine ⟨_, op_isN, fun fr S H σ Δ x y d e Q rl rx ry w => ?_⟩
  cases ry with
  | non =>
    rw [gIs_non rx] at w
    have := oWp_some w S H _ (Grow.refl fr S) rl (.sh (.bl _))
    rw [Bool.false_xor] at this
    exact ⟨rfl, this⟩
  | _ => exact w.elim
theorem od_isnt : OpD X (compareOp .IsNot) (gIs true) := by
  refine ⟨_, op_notN, fun fr S H σ Δ x y d e Q rl rx ry w => ?_⟩
  cases ry with
  | non =>
    rw [gIs_non rx] at w
    have := oWp_some w S H _ (Grow.refl fr S) rl (.sh (.bl _))
    rw [Bool.true_xor] at this
    exact ⟨rfl, this⟩
  | _ => exact w.elim
/-! ### in -/
theorem flats_v {K : PySem.W.Frag} {S : Hp} : ∀ {vs : List V} {ds : List D}, RpL K S vs ds → ds.all D.flat = true → vs = ds.map D.v ∧ vs.all flatV = true
  | _, _, .nil, _ => ⟨rfl, rfl⟩
  | _, _, .cons r t, h => by
    rw [List.all_cons] at h
    obtain ⟨h1, h2⟩ := Bool.and_eq_true_iff.mp h
    obtain ⟨e1, f1⟩ := flat_v r h1
    obtain ⟨e2, f2⟩ := flats_v t h2
    subst e1 e2
    exact ⟨rfl, by rw [List.all_cons, f1, f2]; rfl⟩
@[simp, reducible] def gInF (n : Bool) : D → D → Option TV := fun d e => match e.its with
  | some l => if (d.flat && l.all D.flat) = true then some (.sh (.bl (n ^^ inV d.v (l.map D.v)))) else none
  | none => none
theorem inF_run {n : Bool} {fr : Frm} {S H : Hp} {σ : L2.St} {Δ : DS} {x y : V} {d e : D} {Q : VK} (rl : Rel X.K fr S σ H Δ) (rx : Rp X.K S x d) (ry : Rp X.K S y e) (w : oWp (gInF n d e) (Reach X.K fr S σ Δ Q)) : rIn X.K n x y H Q := by
  have key : ∀ (a : Addr) (xs : List V) (l : List D), y = .ref a → (SqL X.K H a xs ∨ SqT X.K H a xs) → RpL X.K S xs l → oWp (if (d.flat && l.all D.flat) = true then some (TV.sh (.bl (n ^^ inV d.v (l.map D.v)))) else none) (Reach X.K fr S σ Δ Q) → rIn X.K n x y H Q := fun a xs l ey hq hl w => by
    split at w
    · rename_i hc
      obtain ⟨h1, h2⟩ := Bool.and_eq_true_iff.mp hc
      obtain ⟨e1, f1⟩ := flat_v rx h1
      obtain ⟨e2, f2⟩ := flats_v hl h2
      refine ⟨a, xs, ey, hq, by rw [e1]; exact f1, f2, ?_⟩
      have := oWp_some w S H _ (Grow.refl fr S) rl (.sh (.bl _))
      rw [e1, e2]
      cases n with
      | false => rw [Bool.false_xor] at this; exact this
      | true => rw [Bool.true_xor] at this; exact this
    · exact w.elim
  cases ry with
  | lst h1 h2 => exact key _ _ _ rfl (.inl (SqL.of (rl.fro.sub _ _ h1))) h2 w
  | tup h1 h2 => exact key _ _ _ rfl (.inr (sqT_same rl.fro.sub h1)) h2 w
  | _ => exact w.elim
theorem od_inF : OpD X (compareOp .In) (gInF false) := ⟨_, op_in_seq, fun fr S H σ Δ x y d e Q rl rx ry w => inF_run rl rx ry w⟩
theorem od_ninF : OpD X (compareOp .NotIn) (gInF true) := ⟨_, op_notIn_seq, fun fr S H σ Δ x y d e Q rl rx ry w => inF_run rl rx ry w⟩
/-- one sign in a text -/
@[simp, reducible] def gInS (n : Bool) : D → D → Option TV
  | .str c, .str z => if c.cps.size = 1 then some (.sh (.bl (n ^^ decide (c.cps.getD 0 0 ∈ z.cps.toList)))) else none
  | _, _ => none
theorem sign_eq {c : Str} (h : c.cps.size = 1) : c = ⟨#[c.cps.getD 0 0]⟩ := by
  cases c with
  | mk a =>
    have h : a.size = 1 := h
    congr 1
    apply Array.ext
    · simp [h]
    · intro i h1 h2
      have : i = 0 := by omega
      subst this
      simp [Array.getD, h]
theorem od_inS : OpD X (compareOp .In) (gInS false) := by
  refine ⟨_, op_in_sign, fun fr S H σ Δ x y d e Q rl rx ry w => ?_⟩
  cases rx with
  | str c =>
    cases ry with
    | str z =>
      have w : oWp (if c.cps.size = 1 then some (TV.sh (.bl (false ^^ decide (c.cps.getD 0 0 ∈ z.cps.toList)))) else none) (Reach X.K fr S σ Δ Q) := w
      split at w
      · rename_i hc
        have := oWp_some w S H _ (Grow.refl fr S) rl (.sh (.bl _))
        rw [Bool.false_xor] at this
        exact ⟨c.cps.getD 0 0, z, by rw [← sign_eq hc], rfl, this⟩
      · exact w.elim
    | _ => exact w.elim
  | _ => exact w.elim
theorem od_ninS : OpD X (compareOp .NotIn) (gInS true) := by
  refine ⟨_, op_notIn_sign, fun fr S H σ Δ x y d e Q rl rx ry w => ?_⟩
  cases rx with
  | str c =>
    cases ry with
    | str z =>
      have w : oWp (if c.cps.size = 1 then some (TV.sh (.bl (true ^^ decide (c.cps.getD 0 0 ∈ z.cps.toList)))) else none) (Reach X.K fr S σ Δ Q) := w
      split at w
      · rename_i hc
        have := oWp_some w S H _ (Grow.refl fr S) rl (.sh (.bl _))
        rw [Bool.true_xor] at this
        exact ⟨c.cps.getD 0 0, z, by rw [← sign_eq hc], rfl, this⟩
      · exact w.elim
    | _ => exact w.elim
  | _ => exact w.elim
/-- deep: a thing in a list of data -/
@[simp, reducible] def gInD (n : Bool) : D → D → Option TV := fun d e => match e with
  | .lst l => if (SeqAt.shaped d.py && SeqAt.shaped (.list (D.pyL l))) = true then some (.sh (.bl (n ^^ (D.pyL l).any fun z => PyData.eqv z d.py))) else none
  | _ => none
theorem od_inD (hu : X.A.units + 65 < cLine) : OpD X (compareOp .In) (gInD false) := by
  refine ⟨_, L2.op_inD hu, fun fr S H σ Δ x y d e Q rl rx ry w => ?_⟩
  cases ry with
  | @lst a xs l h1 h2 =>
    have w : oWp (if (SeqAt.shaped d.py && SeqAt.shaped (.list (D.pyL l))) = true then some (TV.sh (.bl (false ^^ (D.pyL l).any fun z => PyData.eqv z d.py))) else none) (Reach X.K fr S σ Δ Q) := w
    split at w
    · rename_i hc
      obtain ⟨c1, c2⟩ := Bool.and_eq_true_iff.mp hc
      have := oWp_some w S H _ (Grow.refl fr S) rl (.sh (.bl _))
      rw [Bool.false_xor] at this
      have z := rp_dp rl.fro.sub (.lst l) (.lst h1 h2) (by rw [D.py]; exact SeqAt.canLay_of_shaped c2)
      rw [D.py] at z
      exact ⟨d.py, D.pyL l, rp_dp rl.fro.sub d rx (SeqAt.canLay_of_shaped c1), z, c1, c2, this⟩
    · exact w.elim
  | _ => exact w.elim
theorem od_ninD (hu : X.A.units + 65 < cLine) : OpD X (compareOp .NotIn) (gInD true) := by
  refine ⟨_, L2.op_notInD hu, fun fr S H σ Δ x y d e Q rl rx ry w => ?_⟩
  cases ry with
  | @lst a xs l h1 h2 =>
    have w : oWp (if (SeqAt.shaped d.py && SeqAt.shaped (.list (D.pyL l))) = true then some (TV.sh (.bl (true ^^ (D.pyL l).any fun z => PyData.eqv z d.py))) else none) (Reach X.K fr S σ Δ Q) := w
    split at w
    · rename_i hc
      obtain ⟨c1, c2⟩ := Bool.and_eq_true_iff.mp hc
      have := oWp_some w S H _ (Grow.refl fr S) rl (.sh (.bl _))
      rw [Bool.true_xor] at this
      have z := rp_dp rl.fro.sub (.lst l) (.lst h1 h2) (by rw [D.py]; exact SeqAt.canLay_of_shaped c2)
      rw [D.py] at z
      exact ⟨d.py, D.pyL l, rp_dp rl.fro.sub d rx (SeqAt.canLay_of_shaped c1), z, c1, c2, this⟩
    · exact w.elim
  | _ => exact w.elim
@[simp, reducible] def gIn : D → D → Option TV := fun d e => oEls (gInF false d e) (oEls (gInS false d e) (gInD false d e))
@[simp, reducible] def gNin : D → D → Option TV := fun d e => oEls (gInF true d e) (oEls (gInS true d e) (gInD true d e))
theorem od_in (hu : X.A.units + 65 < cLine) : OpD X (compareOp .In) gIn := od_inF.or (od_inS.or (od_inD hu))
theorem od_nin (hu : X.A.units + 65 < cLine) : OpD X (compareOp .NotIn) gNin := od_ninF.or (od_ninS.or (od_ninD hu))
end
end DL
namespace DL
open PySem PySem.Spec PyProof.Rows L2

section
variable {X : Cx}
/-! ### subscripts, slices -/
@[simp, reducible] def gIx : D → D → Option TV := fun d e => match e with
  | .int i => match d with
    | .lst l => (atI l i).map TV.sh
    | .tup l => (atI l i).map TV.sh
    | .str z => if z.length ≤ sizeLine then (atI z.cps.toList i).map fun c => .sh (.str ⟨#[c]⟩) else none
    | _ => none
  | _ => none
theorem atI_rp {K : PySem.W.Frag} {S : Hp} {xs : List V} {l : List D} {i : Int} {d : D} (r : RpL K S xs l) (h : atI l i = some d) : ∃ v, atI xs i = some v ∧ Rp K S v d := by
  unfold atI at h ⊢
  rw [r.length]
  cases q : ixN l.length i with
  | none => rw [q] at h; cases h
  | some j =>
    rw [q] at h
    exact r.get (i := j) h
theorem xd_ix : IxD X gIx := by
  refine ⟨_, ix_seq, fun fr S H σ Δ x y d e Q rl rx ry w => ?_⟩
  cases ry with
  | int i =>
    cases rx with
    | @lst a xs l h1 h2 =>
      have w : oWp ((atI l i).map TV.sh) (Reach X.K fr S σ Δ Q) := w
      cases q : atI l i with
      | none => rw [q] at w; exact w.elim
      | some d =>
        rw [q] at w
        obtain ⟨v, e1, e2⟩ := atI_rp h2 q
        exact .inl ⟨a, xs, i, v, rfl, rfl, SqL.of (rl.fro.sub _ _ h1), e1, oWp_some w S H _ (Grow.refl fr S) rl (.sh e2)⟩
    | @tup a xs l h1 h2 =>
      have w : oWp ((atI l i).map TV.sh) (Reach X.K fr S σ Δ Q) := w
      cases q : atI l i with
      | none => rw [q] at w; exact w.elim
      | some d =>
        rw [q] at w
        obtain ⟨v, e1, e2⟩ := atI_rp h2 q
        exact .inr (.inl ⟨a, xs, i, v, rfl, rfl, sqT_same rl.fro.sub h1, e1, oWp_some w S H _ (Grow.refl fr S) rl (.sh e2)⟩)
    | str z =>
      have w : oWp (if z.length ≤ sizeLine then (atI z.cps.toList i).map fun c => TV.sh (.str ⟨#[c]⟩) else none) (Reach X.K fr S σ Δ Q) := w
      split at w
      · rename_i hz
        cases q : atI z.cps.toList i with
        | none => rw [q] at w; exact w.elim
        | some c =>
          rw [q] at w
          exact .inr (.inr ⟨z, i, c, rfl, rfl, hz, q, oWp_some w S H _ (Grow.refl fr S) rl (.sh (.str _))⟩)
      · exact w.elim
    | _ => exact w.elim
  | _ => exact w.elim
def cutD {α : Type} (xs : List α) (lo hi : Option Int) : List α := (xs.drop (HT.sIx xs.length 0 lo)).take (HT.sIx xs.length xs.length hi - HT.sIx xs.length 0 lo)
@[simp, reducible] def gSl : D → Option Int → Option Int → Option TV := fun d lo hi => match d with
  | .lst l => some (.ow (.lst (cutD l lo hi)))
  | .tup l => some (.sh (.tup (cutD l lo hi)))
  | .str z => if z.length ≤ sizeLine then some (.sh (.str (cutS z lo hi))) else none
  | _ => none
theorem cut_all {α : Type} {l : List α} {lo hi : Option Int} (h : HT.sIx l.length 0 lo = 0 ∧ HT.sIx l.length l.length hi = l.length) : cutD l lo hi = l := by
  unfold cutD
  rw [h.1, h.2]
  simp
theorem cut_rp {K : PySem.W.Frag} {S : Hp} {xs : List V} {l : List D} (r : RpL K S xs l) (lo hi : Option Int) : RpL K S (cutV xs lo hi) (cutD l lo hi) := by
  unfold cutV cutD
  rw [r.length]
  exact (r.drop _).take _
theorem sd_sl : SlD X gSl := by
  refine ⟨_, sl_list.or (sl_tupA.or sl_str), fun fr S H σ Δ x d lo hi Q rl rx w => ?_⟩
  cases rx with
  | @lst a xs l h1 h2 =>
    refine .inl ⟨a, xs, rfl, SqL.of (rl.fro.sub _ _ h1), fun p hn => ?_⟩
    obtain ⟨o1, o2⟩ := rl.newOwn hn (.lst (cut_rp h2 lo hi))
    exact oWp_some w S _ _ (Grow.refl fr S) (rl.beside hn) (.ow o1 o2)
  | @tup a xs l h1 h2 =>
    have w : oWp (some (TV.sh (.tup (cutD l lo hi)))) (Reach X.K fr S σ Δ Q) := w
    refine .inr (.inl ⟨a, xs, rfl, sqT_same rl.fro.sub h1, fun hc => ?_, fun hc p hn => ?_⟩)
    · rw [h2.length] at hc
      rw [cut_all hc] at w
      exact oWp_some w S H _ (Grow.refl fr S) rl (.sh (.tup h1 h2))
    · rw [h2.length] at hc
      obtain ⟨r2, g2⟩ := rl.laid (o := .tup (cutV xs lo hi)) hn
      exact oWp_some w _ _ _ g2 r2 (.sh (.tup (.inl (.inl upd_same)) (RpL.mono g2.sub _ (cut_rp h2 lo hi))))
  | str z =>
    have w : oWp (if z.length ≤ sizeLine then some (TV.sh (.str (cutS z lo hi))) else none) (Reach X.K fr S σ Δ Q) := w
    split at w
    · rename_i hz
      exact .inr (.inr ⟨z, rfl, hz, oWp_some w S H _ (Grow.refl fr S) rl (.sh (.str _))⟩)
    · exact w.elim
  | _ => exact w.elim

/-! ### calls -/
@[simp, reducible] def D.size? : D → Option Nat
  | .str y => if y.length ≤ sizeLine then some y.length else none
  | .lst l => some l.length
  | .tup l => some l.length
  | _ => none
@[simp, reducible] def gLen : List D → Option TV
  | [d] => (D.size? d).map fun n => .sh (.int (n : Nat))
  | _ => none
theorem gLen_some {ds : List D} {tv : TV} (h : gLen ds = some tv) : ∃ d n, ds = [d] ∧ D.size? d = some n ∧ tv = .sh (.int (n : Nat)) := by
  unfold gLen at h
  split at h
  · rename_i d
    cases q : D.size? d with
    | none => rw [q] at h; cases h
    | some n => rw [q] at h; cases h; exact ⟨d, n, rfl, q, rfl⟩
  · cases h
theorem lenV_of {K : PySem.W.Frag} {S H : Hp} {v : V} {d : D} {n : Nat} (e : Same S H) (r : Rp K S v d) (h : D.size? d = some n) : LenV K v H n := by
  cases r with
  | str y =>
    have h : (if y.length ≤ sizeLine then some y.length else none) = some n := h
    split at h
    · rename_i hz
      cases h
      exact ⟨hz, rfl⟩
    · cases h
  | lst h1 h2 => cases h; exact .inl ⟨_, SqL.of (e _ _ h1), h2.length.symm⟩
  | tup h1 h2 => cases h; exact .inr ⟨_, sqT_same e h1, h2.length.symm⟩
  | _ => cases h
theorem cd_len : CallD X (.builtin "len") gLen := by
  refine ⟨_, call_len, fun fr S H σ Δ vs ds Q rl rv w => ?_⟩
  cases q : gLen ds with
  | none => rw [q] at w; exact w.elim
  | some tv =>
    rw [q] at w
    obtain ⟨d, n, rfl, hn, rfl⟩ := gLen_some q
    cases rv with
    | cons h1 h2 =>
      cases h2
      exact ⟨_, n, rfl, lenV_of rl.fro.sub h1 hn, oWp_some w S H _ (Grow.refl fr S) rl (.sh (.int _))⟩
@[simp, reducible] def gList : List D → Option TV
  | [.lst l] => some (.ow (.lst l))
  | [.tup l] => some (.ow (.lst l))
  | _ => none
@[simp, reducible] def gTuple : List D → Option TV
  | [.lst l] => some (.sh (.tup l))
  | [.tup l] => some (.sh (.tup l))
  | _ => none
theorem gList_some {ds : List D} {tv : TV} (h : gList ds = some tv) : ∃ l, (ds = [.lst l] ∨ ds = [.tup l]) ∧ tv = .ow (.lst l) := by
  unfold gList at h
  split at h
  · cases h; exact ⟨_, .inl rfl, rfl⟩
  · cases h; exact ⟨_, .inr rfl, rfl⟩
  · cases h
theorem gTuple_some {ds : List D} {tv : TV} (h : gTuple ds = some tv) : ∃ l, (ds = [.lst l] ∨ ds = [.tup l]) ∧ tv = .sh (.tup l) := by
  unfold gTuple at h
  split at h
  · cases h; exact ⟨_, .inl rfl, rfl⟩
  · cases h; exact ⟨_, .inr rfl, rfl⟩
  · cases h
theorem cd_list : CallD X (.type "list") gList := by
  refine ⟨_, call_list_of, fun fr S H σ Δ vs ds Q rl rv w => ?_⟩
  cases q : gList ds with
  | none => rw [q] at w; exact w.elim
  | some tv =>
    rw [q] at w
    obtain ⟨l, e, rfl⟩ := gList_some q
    rcases e with rfl | rfl
    · cases rv with
      | cons h1 h2 =>
        cases h2
        cases h1 with
        | lst h1 h2 =>
          refine ⟨_, _, rfl, .inl (SqL.of (rl.fro.sub _ _ h1)), fun p hn => ?_⟩
          obtain ⟨o1, o2⟩ := rl.newOwn hn (.lst h2)
          exact oWp_some w S _ _ (Grow.refl fr S) (rl.beside hn) (.ow o1 o2)
    · cases rv with
      | cons h1 h2 =>
        cases h2
        cases h1 with
        | tup h1 h2 =>
          refine ⟨_, _, rfl, .inr (sqT_same rl.fro.sub h1), fun p hn => ?_⟩
          obtain ⟨o1, o2⟩ := rl.newOwn hn (.lst h2)
          exact oWp_some w S _ _ (Grow.refl fr S) (rl.beside hn) (.ow o1 o2)
theorem cd_tuple : CallD X (.type "tuple") gTuple := by
  refine ⟨_, call_tuple_of, fun fr S H σ Δ vs ds Q rl rv w => ?_⟩
  cases q : gTuple ds with
  | none => rw [q] at w; exact w.elim
  | some tv =>
    rw [q] at w
    obtain ⟨l, e, rfl⟩ := gTuple_some q
    rcases e with rfl | rfl
    · cases rv with
      | cons h1 h2 =>
        cases h2
        cases h1 with
        | lst h1 h2 =>
          refine ⟨_, _, rfl, .inl ⟨SqL.of (rl.fro.sub _ _ h1), fun p hn => ?_⟩⟩
          obtain ⟨r2, g2⟩ := rl.laid (o := .tup _) hn
          exact oWp_some w _ _ _ g2 r2 (.sh (.tup (.inl (.inl upd_same)) (RpL.mono g2.sub _ h2)))
    · cases rv with
      | cons h1 h2 =>
        cases h2
        cases h1 with
        | tup h1 h2 => exact ⟨_, _, rfl, .inr ⟨sqT_same rl.fro.sub h1, oWp_some w S H _ (Grow.refl fr S) rl (.sh (.tup h1 h2))⟩⟩
@[simp, reducible] def gInt : List D → Option TV
  | [.int i] => some (.sh (.int i))
  | [.bl k] => some (.sh (.int (if k then 1 else 0)))
  | _ => none
theorem gInt_some {ds : List D} {tv : TV} (h : gInt ds = some tv) : (∃ i, ds = [.int i] ∧ tv = .sh (.int i)) ∨ ∃ k, ds = [.bl k] ∧ tv = .sh (.int (if k then 1 else 0)) := by
  unfold gInt at h
  split at h
  · cases h; exact .inl ⟨_, rfl, rfl⟩
  · cases h; exact .inr ⟨_, rfl, rfl⟩
  · cases h
theorem cd_int : CallD X (.type "int") gInt := by
  refine ⟨_, call_int1, fun fr S H σ Δ vs ds Q rl rv w => ?_⟩
  cases q : gInt ds with
  | none => rw [q] at w; exact w.elim
  | some tv =>
    rw [q] at w
    rcases gInt_some q with ⟨i, rfl, rfl⟩ | ⟨k, rfl, rfl⟩
    · cases rv with
      | cons h1 h2 => cases h2; cases h1; exact .inl ⟨i, rfl, oWp_some w S H _ (Grow.refl fr S) rl (.sh (.int _))⟩
    · cases rv with
      | cons h1 h2 => cases h2; cases h1; exact .inr ⟨k, rfl, oWp_some w S H _ (Grow.refl fr S) rl (.sh (.int _))⟩
/-- lists of ints, bools, texts -/
@[simp, reducible] def D.ints : List D → Option (List Int)
  | [] => some []
  | .int i :: l => (D.ints l).map (i :: ·)
  | _ => none
@[simp, reducible] def D.bls : List D → Option (List Bool)
  | [] => some []
  | .bl i :: l => (D.bls l).map (i :: ·)
  | _ => none
@[simp, reducible] def D.strs : List D → Option (List Str)
  | [] => some []
  | .str i :: l => (D.strs l).map (i :: ·)
  | _ => none
theorem ints_eq : ∀ {l : List D} {ns : List Int}, D.ints l = some ns → l = ns.map D.int
  | [], ns, h => by cases h; rfl
  | .int i :: l, ns, h => by
    have h : (D.ints l).map (i :: ·) = some ns := h
    cases q : D.ints l with
    | none => rw [q] at h; cases h
    | some ms => rw [q] at h; cases h; rw [ints_eq q]; rfl
  | .non :: _, _, h => by cases h
  | .bl _ :: _, _, h => by cases h
  | .str _ :: _, _, h => by cases h
  | .lst _ :: _, _, h => by cases h
  | .tup _ :: _, _, h => by cases h
  | .dct _ :: _, _, h => by cases h
  | .ty _ :: _, _, h => by cases h
theorem bls_eq : ∀ {l : List D} {ns : List Bool}, D.bls l = some ns → l = ns.map D.bl
  | [], ns, h => by cases h; rfl
  | .bl i :: l, ns, h => by
    have h : (D.bls l).map (i :: ·) = some ns := h
    cases q : D.bls l with
    | none => rw [q] at h; cases h
    | some ms => rw [q] at h; cases h; rw [bls_eq q]; rfl
  | .non :: _, _, h => by cases h
  | .int _ :: _, _, h => by cases h
  | .str _ :: _, _, h => by cases h
  | .lst _ :: _, _, h => by cases h
  | .tup _ :: _, _, h => by cases h
  | .dct _ :: _, _, h => by cases h
  | .ty _ :: _, _, h => by cases h
theorem strs_eq : ∀ {l : List D} {ns : List Str}, D.strs l = some ns → l = ns.map D.str
  | [], ns, h => by cases h; rfl
  | .str i :: l, ns, h => by
    have h : (D.strs l).map (i :: ·) = some ns := h
    cases q : D.strs l with
    | none => rw [q] at h; cases h
    | some ms => rw [q] at h; cases h; rw [strs_eq q]; rfl
  | .non :: _, _, h => by cases h
  | .int _ :: _, _, h => by cases h
  | .bl _ :: _, _, h => by cases h
  | .lst _ :: _, _, h => by cases h
  | .tup _ :: _, _, h => by cases h
  | .dct _ :: _, _, h => by cases h
  | .ty _ :: _, _, h => by cases h
@[simp] theorem ints_map : ∀ ns : List Int, D.ints (ns.map D.int) = some ns
  | [] => rfl
  | n :: ns => by rw [List.map_cons]; show (D.ints (ns.map D.int)).map (n :: ·) = _; rw [ints_map ns]; rfl
@[simp] theorem bls_map : ∀ ns : List Bool, D.bls (ns.map D.bl) = some ns
  | [] => rfl
  | n :: ns => by rw [List.map_cons]; show (D.bls (ns.map D.bl)).map (n :: ·) = _; rw [bls_map ns]; rfl
@[simp] theorem strs_map : ∀ ns : List Str, D.strs (ns.map D.str) = some ns
  | [] => rfl
  | n :: ns => by rw [List.map_cons]; show (D.strs (ns.map D.str)).map (n :: ·) = _; rw [strs_map ns]; rfl
theorem RpL.bls {K : PySem.W.Frag} {S : Hp} : ∀ {vs : List V} {ns : List Bool}, RpL K S vs (ns.map D.bl) → vs = ns.map V.bl
  | _, [], h => by cases h; rfl
  | _, n :: ns, h => by
    cases h with
    | cons h1 h2 => cases h1; rw [RpL.bls h2]; rfl
theorem RpL.strs {K : PySem.W.Frag} {S : Hp} : ∀ {vs : List V} {ns : List Str}, RpL K S vs (ns.map D.str) → vs = ns.map V.str
  | _, [], h => by cases h; rfl
  | _, n :: ns, h => by
    cases h with
    | cons h1 h2 => cases h1; rw [RpL.strs h2]; rfl
/-- a built-in of one list of ints (of bools) -/
@[simp, reducible] def gOfInts (h : List Int → Option TV) : List D → Option TV
  | [.lst l] => (D.ints l).bind h
  | _ => none
@[simp, reducible] def gOfBls (h : List Bool → Option TV) : List D → Option TV
  | [.lst l] => (D.bls l).bind h
  | _ => none
theorem ofInts_some {h : List Int → Option TV} {ds : List D} {tv : TV} (e : gOfInts h ds = some tv) : ∃ ns, ds = [.lst (ns.map D.int)] ∧ h ns = some tv := by
  unfold gOfInts at e
  split at e
  · rename_i l
    cases q : D.ints l with
    | none => rw [q] at e; cases e
    | some ns => rw [q] at e; exact ⟨ns, by rw [ints_eq q], e⟩
  · cases e
theorem ofBls_some {h : List Bool → Option TV} {ds : List D} {tv : TV} (e : gOfBls h ds = some tv) : ∃ ns, ds = [.lst (ns.map D.bl)] ∧ h ns = some tv := by
  unfold gOfBls at e
  split at e
  · rename_i l
    cases q : D.bls l with
    | none => rw [q] at e; cases e
    | some ns => rw [q] at e; exact ⟨ns, by rw [bls_eq q], e⟩
  · cases e
@[simp, reducible] def gSum : List D → Option TV := gOfInts fun ns => some (.sh (.int ns.sum))
@[simp, reducible] def gAll : List D → Option TV := gOfBls fun ns => some (.sh (.bl (ns.all id)))
@[simp, reducible] def gAny : List D → Option TV := gOfBls fun ns => some (.sh (.bl (ns.any id)))
theorem cd_sum (hc : X.calm = true) : CallD X (.builtin "sum") gSum := by
  refine ⟨_, cr_sum hc, fun fr S H σ Δ vs ds Q rl rv w => ?_⟩
  cases q : gSum ds with
  | none => rw [q] at w; exact w.elim
  | some tv =>
    rw [q] at w
    obtain ⟨ns, rfl, e⟩ := ofInts_some q
    cases e
    cases rv with
    | cons h1 h2 =>
      cases h2
      cases h1 with
      | lst h1 h2 =>
        have e2 := h2.ints
        subst e2
        exact ⟨_, ns, rfl, SqL.of (rl.fro.sub _ _ h1), oWp_some w S H _ (Grow.refl fr S) rl (.sh (.int _))⟩
theorem cd_all (hc : X.calm = true) : CallD X (.builtin "all") gAll := by
  refine ⟨_, cr_all hc, fun fr S H σ Δ vs ds Q rl rv w => ?_⟩
  cases q : gAll ds with
  | none => rw [q] at w; exact w.elim
  | some tv =>
    rw [q] at w
    obtain ⟨ns, rfl, e⟩ := ofBls_some q
    cases e
    cases rv with
    | cons h1 h2 =>
      cases h2
      cases h1 with
      | lst h1 h2 =>
        have e2 := h2.bls
        subst e2
        exact ⟨_, ns, rfl, SqL.of (rl.fro.sub _ _ h1), oWp_some w S H _ (Grow.refl fr S) rl (.sh (.bl _))⟩
theorem cd_any (hc : X.calm = true) : CallD X (.builtin "any") gAny := by
  refine ⟨_, cr_any hc, fun fr S H σ Δ vs ds Q rl rv w => ?_⟩
  cases q : gAny ds with
  | none => rw [q] at w; exact w.elim
  | some tv =>
    rw [q] at w
    obtain ⟨ns, rfl, e⟩ := ofBls_some q
    cases e
    cases rv with
    | cons h1 h2 =>
      cases h2
      cases h1 with
      | lst h1 h2 =>
        have e2 := h2.bls
        subst e2
        exact ⟨_, ns, rfl, SqL.of (rl.fro.sub _ _ h1), oWp_some w S H _ (Grow.refl fr S) rl (.sh (.bl _))⟩
@[simp, reducible] def gMax2 : List D → Option TV
  | [.int i, .int j] => some (.sh (.int (max i j)))
  | _ => none
@[simp, reducible] def gMin2 : List D → Option TV
  | [.int i, .int j] => some (.sh (.int (min i j)))
  | _ => none
theorem gMax2_some {ds : List D} {tv : TV} (h : gMax2 ds = some tv) : ∃ i j, ds = [.int i, .int j] ∧ tv = .sh (.int (max i j)) := by
  unfold gMax2 at h
  split at h
  · cases h; exact ⟨_, _, rfl, rfl⟩
  · cases h
theorem gMin2_some {ds : List D} {tv : TV} (h : gMin2 ds = some tv) : ∃ i j, ds = [.int i, .int j] ∧ tv = .sh (.int (min i j)) := by
  unfold gMin2 at h
  split at h
  · cases h; exact ⟨_, _, rfl, rfl⟩
  · cases h
theorem cd_max2 (hc : X.calm = true) : CallD X (.builtin "max") gMax2 := by
  refine ⟨_, call_max2 hc, fun fr S H σ Δ vs ds Q rl rv w => ?_⟩
  cases q : gMax2 ds with
  | none => rw [q] at w; exact w.elim
  | some tv =>
    rw [q] at w
    obtain ⟨i, j, rfl, rfl⟩ := gMax2_some q
    cases rv with
    | cons h1 h2 =>
      cases h2 with
      | cons h2 h3 =>
        cases h3
        cases h1
        cases h2
        refine ⟨i, j, rfl, ?_⟩
        have := oWp_some w S H _ (Grow.refl fr S) rl (.sh (.int _))
        rw [show (if j > i then j else i) = max i j by split <;> omega]
        exact this
theorem cd_min2 (hc : X.calm = true) : CallD X (.builtin "min") gMin2 := by
  refine ⟨_, call_min2 hc, fun fr S H σ Δ vs ds Q rl rv w => ?_⟩
  cases q : gMin2 ds with
  | none => rw [q] at w; exact w.elim
  | some tv =>
    rw [q] at w
    obtain ⟨i, j, rfl, rfl⟩ := gMin2_some q
    cases rv with
    | cons h1 h2 =>
      cases h2 with
      | cons h2 h3 =>
        cases h3
        cases h1
        cases h2
        refine ⟨i, j, rfl, ?_⟩
        have := oWp_some w S H _ (Grow.refl fr S) rl (.sh (.int _))
        rw [show (if j < i then j else i) = min i j by split <;> omega]
        exact this
/-- the greatest, the least of a list -/
@[simp, reducible] def topI : List Int → Option Int
  | [] => none
  | x :: xs => some (xs.foldl max x)
@[simp, reducible] def botI : List Int → Option Int
  | [] => none
  | x :: xs => some (xs.foldl min x)
theorem foldl_max : ∀ (xs : List Int) (x : Int), (xs.foldl max x ∈ x :: xs) ∧ ∀ y ∈ x :: xs, y ≤ xs.foldl max x
  | [], x => ⟨List.mem_cons_self, fun y h => by rcases List.mem_cons.mp h with e | e; exact Int.le_of_eq e; cases e⟩
  | z :: xs, x => by
    obtain ⟨h1, h2⟩ := foldl_max xs (max x z)
    rw [List.foldl_cons]
    refine ⟨?_, fun y hy => ?_⟩
    · rcases List.mem_cons.mp h1 with e | e
      · rw [e]
        rcases Int.le_total x z with q | q
        · rw [Int.max_eq_right q]; simp
        · rw [Int.max_eq_left q]; simp
      · exact List.mem_cons_of_mem _ (List.mem_cons_of_mem _ e)
    · have hm := h2 (max x z) List.mem_cons_self
      rcases List.mem_cons.mp hy with e | e
      · rw [e]; omega
      · rcases List.mem_cons.mp e with e | e
        · rw [e]; omega
        · exact h2 y (List.mem_cons_of_mem _ e)
theorem foldl_min : ∀ (xs : List Int) (x : Int), (xs.foldl min x ∈ x :: xs) ∧ ∀ y ∈ x :: xs, xs.foldl min x ≤ y
  | [], x => ⟨List.mem_cons_self, fun y h => by rcases List.mem_cons.mp h with e | e; exact Int.le_of_eq e.symm; cases e⟩
  | z :: xs, x => by
    obtain ⟨h1, h2⟩ := foldl_min xs (min x z)
    rw [List.foldl_cons]
    refine ⟨?_, fun y hy => ?_⟩
    · rcases List.mem_cons.mp h1 with e | e
      · rw [e]
        rcases Int.le_total x z with q | q
        · rw [Int.min_eq_left q]; simp
        · rw [Int.min_eq_right q]; simp
      · exact List.mem_cons_of_mem _ (List.mem_cons_of_mem _ e)
    · have hm := h2 (min x z) List.mem_cons_self
      rcases List.mem_cons.mp hy with e | e
      · rw [e]; omega
      · rcases List.mem_cons.mp e with e | e
        · rw [e]; omega
        · exact h2 y (List.mem_cons_of_mem _ e)
@[simp, reducible] def gMaxL : List D → Option TV := gOfInts fun ns => (topI ns).map fun m => .sh (.int m)
@[simp, reducible] def gMinL : List D → Option TV := gOfInts fun ns => (botI ns).map fun m => .sh (.int m)
theorem cd_maxL (hc : X.calm = true) : CallD X (.builtin "max") gMaxL := by
  refine ⟨_, cr_max hc, fun fr S H σ Δ vs ds Q rl rv w => ?_⟩
  cases q : gMaxL ds with
  | none => rw [q] at w; exact w.elim
  | some tv =>
    rw [q] at w
    obtain ⟨ns, rfl, e⟩ := ofInts_some q
    cases ns with
    | nil => cases e
    | cons n ns =>
      cases e
      cases rv with
      | cons h1 h2 =>
        cases h2
        cases h1 with
        | lst h1 h2 =>
          have e2 := h2.ints
          subst e2
          refine ⟨_, n :: ns, rfl, SqL.of (rl.fro.sub _ _ h1), Nat.succ_pos _, fun m hm hy => ?_⟩
          obtain ⟨f1, f2⟩ := foldl_max ns n
          have e : m = ns.foldl max n := Int.le_antisymm (f2 m hm) (hy _ f1)
          rw [e]
          exact oWp_some w S H _ (Grow.refl fr S) rl (.sh (.int _))
theorem cd_minL (hc : X.calm = true) : CallD X (.builtin "min") gMinL := by
  refine ⟨_, cr_min hc, fun fr S H σ Δ vs ds Q rl rv w => ?_⟩
  cases q : gMinL ds with
  | none => rw [q] at w; exact w.elim
  | some tv =>
    rw [q] at w
    obtain ⟨ns, rfl, e⟩ := ofInts_some q
    cases ns with
    | nil => cases e
    | cons n ns =>
      cases e
      cases rv with
      | cons h1 h2 =>
        cases h2
        cases h1 with
        | lst h1 h2 =>
          have e2 := h2.ints
          subst e2
          refine ⟨_, n :: ns, rfl, SqL.of (rl.fro.sub _ _ h1), Nat.succ_pos _, fun m hm hy => ?_⟩
          obtain ⟨f1, f2⟩ := foldl_min ns n
          have e : m = ns.foldl min n := Int.le_antisymm (hy _ f1) (f2 m hm)
          rw [e]
          exact oWp_some w S H _ (Grow.refl fr S) rl (.sh (.int _))
@[simp, reducible] def gMax : List D → Option TV := fun ds => oEls (gMax2 ds) (gMaxL ds)
@[simp, reducible] def gMin : List D → Option TV := fun ds => oEls (gMin2 ds) (gMinL ds)
theorem cd_max (hc : X.calm = true) : CallD X (.builtin "max") gMax := (cd_max2 hc).or (cd_maxL hc)
theorem cd_min (hc : X.calm = true) : CallD X (.builtin "min") gMin := (cd_min2 hc).or (cd_minL hc)
/-! ### ''.join(list of texts) -/
def gJoin : D → List D → Option TV
  | .str a, [.lst l] => (D.strs l).bind fun ys => if (ys.map (·.length)).sum + ys.length * a.length ≤ 16777216 then some (.sh (.str (Txt.join a ys))) else none
  | _, _ => none
theorem md_join : MtD X "str" "str.join" gJoin := by
  refine ⟨_, mt_join, fun fr S H σ Δ x d vs ds Q rl rx rv w => ?_⟩
  cases rx with
  | str a =>
    match ds, vs, rv, w with
    | [.lst l], [_], .cons (.lst h1 h2) .nil, w =>
      have w : oWp ((D.strs l).bind fun ys => if (ys.map (·.length)).sum + ys.length * a.length ≤ 16777216 then some (TV.sh (.str (Txt.join a ys))) else none) (Reach X.K fr S σ Δ Q) := w
      cases q : D.strs l with
      | none => rw [q] at w; exact w.elim
      | some ys =>
        rw [q] at w
        have w : oWp (if (ys.map (·.length)).sum + ys.length * a.length ≤ 16777216 then some (TV.sh (.str (Txt.join a ys))) else none) (Reach X.K fr S σ Δ Q) := w
        rw [strs_eq q] at h2
        have e2 := h2.strs
        subst e2
        split at w
        · rename_i hz
          exact ⟨a, _, ys, rfl, rfl, .inl (SqL.of (rl.fro.sub _ _ h1)), hz, oWp_some w S H _ (Grow.refl fr S) rl (.sh (.str _))⟩
        · exact w.elim
    | [], _, _, w => exact w.elim
    | [.non], _, _, w => exact w.elim
    | [.bl _], _, _, w => exact w.elim
    | [.int _], _, _, w => exact w.elim
    | [.str _], _, _, w => exact w.elim
    | [.tup _], _, _, w => exact w.elim
    | [.dct _], _, _, w => exact w.elim
    | [.ty _], _, _, w => exact w.elim
    | .lst _ :: _ :: _, _, _, w => exact w.elim
    | .non :: _ :: _, _, _, w => exact w.elim
    | .bl _ :: _ :: _, _, _, w => exact w.elim
    | .int _ :: _ :: _, _, _, w => exact w.elim
    | .str _ :: _ :: _, _, _, w => exact w.elim
    | .tup _ :: _ :: _, _, _, w => exact w.elim
    | .dct _ :: _ :: _, _, _, w => exact w.elim
    | .ty _ :: _ :: _, _, _, w => exact w.elim
  | _ => exact w.elim
end
end DL
namespace DL
open PySem PySem.Spec PyProof.Rows L2

/-! ## what a slot owns is changed -/
section
variable {K : PySem.W.Frag} {fr : Frm} {S S' H H' : Hp} {σ : L2.St} {Δ : DS}
theorem set_self {σ : L2.St} {i : Nat} {o : Option V} (e : σ[i]? = some o) : σ.set i o = σ := by
  apply List.ext_getElem?
  intro j
  by_cases hj : i = j
  · subst hj
    rw [e]
    exact List.getElem?_set_self (List.getElem?_eq_some_iff.mp e).1
  · rw [List.getElem?_set_ne hj]
theorem Rel.put (r : Rel K fr S σ H Δ) {i : Nat} {d d' : D} {a : Addr} {o : HO} (h : Δ.1[i]? = some (.ow d)) (e : σ[i]? = some (some (.ref a))) (ok : OwnO K S o d') : Rel K fr S σ (upd H a o) (Δ.1.set i (.ow d'), Δ.2) := by
  obtain ⟨b, e2, w⟩ := r.own h
  rw [e] at e2
  cases e2
  have hl : i < Δ.1.length := (List.getElem?_eq_some_iff.mp h).1
  have r1 : Rel K fr S (σ.set i (some (.ref a))) H (Δ.1.set i .un, Δ.2) := r.setSlot (s := .un) trivial (fun d a z => by cases z)
  rw [set_self e] at r1
  have ns : NoSlot σ (Δ.1.set i .un) a := fun j d' q z => by
    by_cases hj : i = j
    · subst hj
      rw [List.getElem?_set_self hl] at q
      cases q
    · rw [List.getElem?_set_ne hj] at q
      exact hj (r.dist i j a d d' h q e z)
  have r2 := r1.write (o := o) w.offS w.offP w.offQ ns
  have r3 := r2.setSlot (i := i) (s := .ow d') (o := some (.ref a)) ⟨a, rfl, ⟨o, upd_same, ok⟩, w.offS, w.offP, w.offQ⟩ fun d1 a1 z y => by
    cases y
    exact ns
  rw [set_self e] at r3
  simp only [List.set_set] at r3
  exact r3
end
section
variable {X : Cx} {E : XK} {e a b c : Expr} {es : List Expr} {pos : Pos} {fa fb : DS → R (D × DS)}
/-- the list that slot i owns -/
@[simp, reducible] def ownL (i : Nat) (Δ : DS) : Option (List D) := match Δ.1[i]? with
  | some (.ow (.lst l)) => some l
  | _ => none
theorem ownL_some {i : Nat} {Δ : DS} {l : List D} (h : ownL i Δ = some l) : Δ.1[i]? = some (.ow (.lst l)) := by
  unfold ownL at h
  split at h
  · rename_i q; cases h; exact q
  · cases h
theorem Rel.ownL {K : PySem.W.Frag} {fr : Frm} {S H : Hp} {σ : L2.St} {Δ : DS} (r : Rel K fr S σ H Δ) {i : Nat} {l : List D} (h : ownL i Δ = some l) : ∃ p xs, σ[i]? = some (some (.ref p)) ∧ H p = some (.lst xs) ∧ RpL K S xs l := by
  obtain ⟨p, e, w⟩ := r.own (ownL_some h)
  obtain ⟨ho, h1, h2⟩ := w.at_
  cases h2 with
  | lst h2 => exact ⟨p, _, e, h1, h2⟩
@[simp, reducible] def setL (i : Nat) (l : List D) (Δ : DS) : DS := (Δ.1.set i (.ow (.lst l)), Δ.2)
/-- x.append(e), x.extend(e), x.pop(), x.pop(k), x[k] = e; x the name in slot i -/
@[simp, reducible] def fApp (i : Nat) (fa : DS → R (D × DS)) : DS → R (TV × DS) := fun Δ => R.of (ownL i Δ) >>= fun _ => fa Δ >>= fun p => R.of (ownL i p.2) >>= fun l => if l.length < sizeLine then .ok (.sh .non, setL i (l ++ [p.1]) p.2) else .bad
@[simp, reducible] def fExt (i : Nat) (fa : DS → R (D × DS)) : DS → R (TV × DS) := fun Δ => R.of (ownL i Δ) >>= fun _ => fa Δ >>= fun p => R.of (ownL i p.2) >>= fun l => match p.1 with
  | .lst m => if l.length + m.length ≤ sizeLine then .ok (.sh .non, setL i (l ++ m) p.2) else .bad
  | _ => .bad
@[simp, reducible] def fPop (i : Nat) : DS → R (TV × DS) := fun Δ => R.of (ownL i Δ) >>= fun l => R.of l[l.length - 1]? >>= fun d => .ok (.sh d, setL i l.dropLast Δ)
@[simp, reducible] def fPopAt (i : Nat) (fa : DS → R (D × DS)) : DS → R (TV × DS) := fun Δ => R.of (ownL i Δ) >>= fun _ => fa Δ >>= fun p => R.of (ownL i p.2) >>= fun l => match p.1 with
  | .int k => R.of (if -(2 ^ 63) ≤ k ∧ k < 2 ^ 63 then ixN l.length k else none) >>= fun j => R.of l[j]? >>= fun d => .ok (.sh d, setL i (l.eraseIdx j) p.2)
  | _ => .bad
theorem of_run {α : Type} {o : Option α} {β : Type} {k : α → R β} {P : β → Prop} {PX : Xn → Strm → Prop} (h : (R.of o >>= k).wp P PX) : ∃ a, o = some a ∧ (k a).wp P PX := by
  cases o with
  | some a => exact ⟨a, rfl, h⟩
  | none => exact h.elim
theorem do_app (i : Nat) {x : Str} {p apos : Pos} (ha : DE X E e fa) (hN : X.N[i]? = some x := by rfl) (hv : Vis X.env.scope x := by first | exact Or.inl rfl | exact Or.inr (Or.inl rfl) | exact Or.inr (Or.inr rfl)) (hd : (x == ("__debug__" : Str)) = false := by decide)
    (hcd : (x == ("__classdict__" : Str)) = false := by decide) (hbase : attributeBase (.Name x p) "append" X.env (eval (.Name x p) X.env) = eval (.Name x p) X.env := by rfl)
    (hfew : ((backTo pos (starEach [e] X.env)).all (fun x => !x.1) && (backToKw pos (keywordEach [] X.env)).all (fun x => x.1.isSome)
      && decide ([e].length + ([] : List Keyword).length + (if ([] : List Keyword).isEmpty then 0 else 1) < 30)) = true := by rfl)
    (hline : (apos.endLine == pos.line) = true := by rfl) (hs : starEach [e] X.env = (false, eval e X.env) :: starEach [] X.env := by rfl) (hplain : (backTo pos (starEach [] X.env)).any (·.1) = false := by rfl) :
    DO X E (.Call (.Attribute (.Name x p) "append" apos) [e] [] pos) (fApp i fa) := by
  obtain ⟨t, q, ha⟩ := ha
  refine ⟨_, pe_bm PySem.F.plainAttrs_list PySem.F.slot_list_append PySem.F.type_list_append mt_append (pv i hN hv hd hcd) (pa_cons q pa_nil hs) hbase hfew hline hs hplain, fun fr S H σ Δ Q rl w => ?_⟩
  obtain ⟨l0, h0, w⟩ := of_run w
  obtain ⟨p0, xs0, e0, a0, _⟩ := rl.ownL h0
  refine ⟨_, e0, .inl ⟨rfl, xs0, SqL.of a0⟩, ha fr S H σ Δ _ rl (wp_mono (wp_bind w) (fun r w1 S1 H1 v g1 r1 rv => ?_) fun _ _ z => z)⟩
  obtain ⟨l, h1, w1⟩ := of_run w1
  obtain ⟨p1, xs, e1, a1, rx⟩ := r1.ownL h1
  rw [e0] at e1
  cases e1
  split at w1
  · rename_i hz
    refine ⟨p0, xs, v, rfl, rfl, a1, by rw [rx.length]; exact hz, wp_ok w1 S1 _ _ g1 (r1.put (ownL_some h1) e0 (.lst (rx.snoc rv))) (.sh .non)⟩
  · exact w1.elim
theorem do_ext (i : Nat) {x : Str} {p apos : Pos} (ha : DE X E e fa) (hN : X.N[i]? = some x := by rfl) (hv : Vis X.env.scope x := by first | exact Or.inl rfl | exact Or.inr (Or.inl rfl) | exact Or.inr (Or.inr rfl)) (hd : (x == ("__debug__" : Str)) = false := by decide)
    (hcd : (x == ("__classdict__" : Str)) = false := by decide) (hbase : attributeBase (.Name x p) "extend" X.env (eval (.Name x p) X.env) = eval (.Name x p) X.env := by rfl)
    (hfew : ((backTo pos (starEach [e] X.env)).all (fun x => !x.1) && (backToKw pos (keywordEach [] X.env)).all (fun x => x.1.isSome)
      && decide ([e].length + ([] : List Keyword).length + (if ([] : List Keyword).isEmpty then 0 else 1) < 30)) = true := by rfl)
    (hline : (apos.endLine == pos.line) = true := by rfl) (hs : starEach [e] X.env = (false, eval e X.env) :: starEach [] X.env := by rfl) (hplain : (backTo pos (starEach [] X.env)).any (·.1) = false := by rfl) :
    DO X E (.Call (.Attribute (.Name x p) "extend" apos) [e] [] pos) (fExt i fa) := by
  obtain ⟨t, q, ha⟩ := ha
  refine ⟨_, pe_bm PySem.F.plainAttrs_list PySem.F.slot_list_extend PySem.F.type_list_extend mt_extend (pv i hN hv hd hcd) (pa_cons q pa_nil hs) hbase hfew hline hs hplain, fun fr S H σ Δ Q rl w => ?_⟩
  obtain ⟨l0, h0, w⟩ := of_run w
  obtain ⟨p0, xs0, e0, a0, _⟩ := rl.ownL h0
  refine ⟨_, e0, .inl ⟨rfl, xs0, SqL.of a0⟩, ha fr S H σ Δ _ rl (wp_mono (wp_bind w) (fun r w1 S1 H1 v g1 r1 rv => ?_) fun _ _ z => z)⟩
  obtain ⟨l, h1, w1⟩ := of_run w1
  obtain ⟨p1, xs, e1, a1, rx⟩ := r1.ownL h1
  rw [e0] at e1
  cases e1
  obtain ⟨d, Δ1⟩ := r
  cases rv with
  | @lst b zs m h2 h3 =>
    have w1 : (if l.length + m.length ≤ sizeLine then R.ok (TV.sh D.non, setL i (l ++ m) Δ1) else R.bad).wp _ _ := w1
    split at w1
    · rename_i hz
      exact ⟨p0, b, xs, zs, rfl, rfl, a1, r1.fro.sub _ _ h2, by rw [rx.length, h3.length]; exact hz, wp_ok w1 S1 _ _ g1 (r1.put (ownL_some h1) e0 (.lst (rx.append h3))) (.sh .non)⟩
    · exact w1.elim
  | _ => exact w1.elim
theorem getV_of {K : PySem.W.Frag} {S : Hp} {xs : List V} {l : List D} {j : Nat} {d : D} (r : RpL K S xs l) (h : l[j]? = some d) : ∃ v, xs[j]? = some v ∧ Rp K S v d := r.get h
theorem RpL.dropLast {K : PySem.W.Frag} {S : Hp} {xs : List V} {l : List D} (r : RpL K S xs l) : RpL K S xs.dropLast l.dropLast := by
  rw [List.dropLast_eq_take, List.dropLast_eq_take, r.length]
  exact r.take _
theorem do_pop (i : Nat) {x : Str} {p apos : Pos} (hN : X.N[i]? = some x := by rfl) (hv : Vis X.env.scope x := by first | exact Or.inl rfl | exact Or.inr (Or.inl rfl) | exact Or.inr (Or.inr rfl)) (hd : (x == ("__debug__" : Str)) = false := by decide)
    (hcd : (x == ("__classdict__" : Str)) = false := by decide) (hbase : attributeBase (.Name x p) "pop" X.env (eval (.Name x p) X.env) = eval (.Name x p) X.env := by rfl) (hline : (apos.endLine == pos.line) = true := by rfl) :
    DO X E (.Call (.Attribute (.Name x p) "pop" apos) [] [] pos) (fPop i) := by
  refine ⟨_, pe_bm0 PySem.F.plainAttrs_list PySem.F.slot_list_pop PySem.F.type_list_pop mt_pop (pv i hN hv hd hcd) hbase hline, fun fr S H σ Δ Q rl w => ?_⟩
  obtain ⟨l, h1, w⟩ := of_run w
  obtain ⟨d, h2, w⟩ := of_run w
  obtain ⟨p0, xs, e0, a0, rx⟩ := rl.ownL h1
  rw [← rx.length] at h2
  obtain ⟨v, h3, h4⟩ := rx.get h2
  exact ⟨_, e0, .inl ⟨rfl, xs, SqL.of a0⟩, p0, xs, v, rfl, rfl, a0, h3, wp_ok w S _ _ (Grow.refl fr S) (rl.put (ownL_some h1) e0 (.lst rx.dropLast)) (.sh h4)⟩
theorem do_popAt (i : Nat) {x : Str} {p apos : Pos} (ha : DE X E e fa) (hN : X.N[i]? = some x := by rfl) (hv : Vis X.env.scope x := by first | exact Or.inl rfl | exact Or.inr (Or.inl rfl) | exact Or.inr (Or.inr rfl)) (hd : (x == ("__debug__" : Str)) = false := by decide)
    (hcd : (x == ("__classdict__" : Str)) = false := by decide) (hbase : attributeBase (.Name x p) "pop" X.env (eval (.Name x p) X.env) = eval (.Name x p) X.env := by rfl)
    (hfew : ((backTo pos (starEach [e] X.env)).all (fun x => !x.1) && (backToKw pos (keywordEach [] X.env)).all (fun x => x.1.isSome)
      && decide ([e].length + ([] : List Keyword).length + (if ([] : List Keyword).isEmpty then 0 else 1) < 30)) = true := by rfl)
    (hline : (apos.endLine == pos.line) = true := by rfl) (hs : starEach [e] X.env = (false, eval e X.env) :: starEach [] X.env := by rfl) (hplain : (backTo pos (starEach [] X.env)).any (·.1) = false := by rfl) :
    DO X E (.Call (.Attribute (.Name x p) "pop" apos) [e] [] pos) (fPopAt i fa) := by
  obtain ⟨t, q, ha⟩ := ha
  refine ⟨_, pe_bm PySem.F.plainAttrs_list PySem.F.slot_list_pop PySem.F.type_list_pop mt_popAt (pv i hN hv hd hcd) (pa_cons q pa_nil hs) hbase hfew hline hs hplain, fun fr S H σ Δ Q rl w => ?_⟩
  obtain ⟨l0, h0, w⟩ := of_run w
  obtain ⟨p0, xs0, e0, a0, _⟩ := rl.ownL h0
  refine ⟨_, e0, .inl ⟨rfl, xs0, SqL.of a0⟩, ha fr S H σ Δ _ rl (wp_mono (wp_bind w) (fun r w1 S1 H1 v g1 r1 rv => ?_) fun _ _ z => z)⟩
  obtain ⟨l, h1, w1⟩ := of_run w1
  obtain ⟨p1, xs, e1, a1, rx⟩ := r1.ownL h1
  rw [e0] at e1
  cases e1
  obtain ⟨d, Δ1⟩ := r
  cases rv with
  | int k =>
    obtain ⟨j, h2, w1⟩ := of_run w1
    obtain ⟨d, h3, w1⟩ := of_run w1
    split at h2
    · rename_i hk
      obtain ⟨v, h4, h5⟩ := rx.get h3
      obtain ⟨h6, _⟩ := ixN_seq h2
      exact ⟨p0, xs, k, j, v, rfl, rfl, a1, hk.1, hk.2, by rw [rx.length]; exact h6, h4, wp_ok w1 S1 _ _ g1 (r1.put (ownL_some h1) e0 (.lst (rx.eraseIdx j))) (.sh h5)⟩
    · cases h2
  | _ => exact w1.elim
@[simp, reducible] def fSetIx (i : Nat) (fv fk : DS → R (D × DS)) : DS → R (Fl × DS) := fun Δ => fv Δ >>= fun p => R.of (ownL i p.2) >>= fun _ => fk p.2 >>= fun q => R.of (ownL i q.2) >>= fun l => match q.1 with
  | .int k => R.of (ixN l.length k) >>= fun j => .ok (.nx, setL i (l.set j p.1) q.2)
  | _ => .bad
theorem ds_setIx (i : Nat) {x : Str} {p spos : Pos} {k v : Expr} {fv fk : DS → R (D × DS)} (he : DE X E v fv) (hk : DE X E k fk) (hN : X.N[i]? = some x := by rfl) (hv : Vis X.env.scope x := by first | exact Or.inl rfl | exact Or.inr (Or.inl rfl) | exact Or.inr (Or.inr rfl)) (hd : (x == ("__debug__" : Str)) = false := by decide)
    (hcd : (x == ("__classdict__" : Str)) = false := by decide)
    (hsub : ∀ u, assign (.Subscript (.Name x p) k spos) X.env u = (do
      let ov ← holding [u] (eval (.Name x p) X.env)
      let iv ← holding [u, ov] (eval k X.env)
      standAt spos
      holding [u, ov, iv] (setItem ov iv u)
      release [u, ov, iv] []) := by intro _; rfl)
    (hs : swapsWithSole [.Subscript (.Name x p) k spos] v pos.line X.env = pure false := by rfl) (hw : swappedStores [.Subscript (.Name x p) k spos] v X.env = pure none := by rfl)
    (h1 : (assignEach [.Subscript (.Name x p) k spos] X.env).map (·.2) = [assign (.Subscript (.Name x p) k spos) X.env] := by rfl) :
    Dst X E (.Assign [.Subscript (.Name x p) k spos] v pos) (fSetIx i fv fk) := by
  obtain ⟨t, q, he⟩ := he
  obtain ⟨tk, qk, hk⟩ := hk
  refine ⟨_, ps_asg q (pg_sub (pv i hN hv hd hcd) qk set_list hsub) hs hw h1, fun fr S H σ Δ N rl w => ?_⟩
  refine he fr S H σ Δ _ rl (wp_mono (wp_bind w) (fun r w1 S1 H1 v g1 r1 rv => ?_) fun _ _ z => z)
  obtain ⟨l0, h0, w1⟩ := of_run w1
  obtain ⟨p0, xs0, e0, a0, _⟩ := r1.ownL h0
  refine ⟨_, e0, hk fr S1 H1 σ r.2 _ r1 (wp_mono (wp_bind w1) (fun r2 w2 S2 H2 u g2 r2' ru => ?_) fun _ _ z => z.grow g1)⟩
  obtain ⟨l, h2, w2⟩ := of_run w2
  obtain ⟨p1, xs, e1, a1, rx⟩ := r2'.ownL h2
  rw [e0] at e1
  cases e1
  obtain ⟨d, Δ2⟩ := r2
  cases ru with
  | int k =>
    obtain ⟨j, h3, w2⟩ := of_run w2
    exact ⟨p0, xs, k, j, rfl, rfl, a1, by rw [rx.length]; exact h3, wp_ok w2 S2 _ σ (g1.trans g2) (r2'.put (ownL_some h2) e0 (.lst (rx.set (Rp.mono g2.sub _ rv) j)))⟩
  | _ => exact w2.elim
end

/-! ## isinstance -/
@[simp, reducible] def D.kind : D → String
  | .non => "NoneType"
  | .bl _ => "bool"
  | .int _ => "int"
  | .str _ => "str"
  | .lst _ => "list"
  | .tup _ => "tuple"
  | .dct _ => "dict"
  | .ty _ => "type"
/-- is a kind one of a built-in class -/
@[simp, reducible] def isK (d : D) (n : String) : Bool := match d with
  | .non => n == "NoneType"
  | .bl _ => n == "bool" || n == "int"
  | .int _ => n == "int"
  | .str _ => n == "str"
  | .lst _ => n == "list"
  | .tup _ => n == "tuple"
  | .dct _ => n == "dict"
  | .ty _ => n == "type"
@[simp, reducible] def okK (n : String) : Bool := n == "int" || n == "bool" || n == "str" || n == "list" || n == "tuple" || n == "dict"
theorem okK_cases {n : String} (h : okK n = true) : n = "int" ∨ n = "bool" ∨ n = "str" ∨ n = "list" ∨ n = "tuple" ∨ n = "dict" := by
  simp only [okK, Bool.or_eq_true, beq_iff_eq] at h
  rcases h with ((((h | h) | h) | h) | h) | h <;> simp [h]
theorem kit_isK {d : D} {n : String} (h : okK n = true) (hd : ∀ m, d ≠ .ty m) : kitB d.kind n = some (isK d n) := by
  rcases okK_cases h with rfl | rfl | rfl | rfl | rfl | rfl <;> cases d <;> first | (rename_i m; exact absurd rfl (hd m)) | (show kitB _ _ = some _; dsimp only [D.kind, isK]; decide +kernel)
theorem tyX_of {K : PySem.W.Frag} {S H : Hp} {v : V} {d : D} (e : Same S H) (r : Rp K S v d) (hd : ∀ m, d ≠ .ty m) : TyX K H v (.type d.kind) := by
  cases r with
  | non => exact .base .non
  | bl b => exact .base (.bl b)
  | int i => exact .base (.int i)
  | str x => exact .base (.str x)
  | ty n => exact absurd rfl (hd n)
  | lst h1 h2 => exact .base (.lst (e _ _ h1))
  | dct h1 h2 => exact .base (.dK (e _ _ h1))
  | tup h1 h2 =>
    rcases h1 with (h1 | ⟨o, h1⟩) | ⟨o, its, n, h1, h3, _⟩
    · exact .base (.tup (e _ _ h1))
    · exact .fTuple (e _ _ h1)
    · exact .kTuple h1 h3
section
variable {X : Cx} {E : XK} {e a b c : Expr} {es : List Expr} {pos p : Pos} {fa fb : DS → R (D × DS)}
@[simp, reducible] def D.isTy : D → Bool
  | .ty _ => true
  | _ => false
@[simp, reducible] def fIsi (ns : List String) (fa : DS → R (D × DS)) : DS → R (D × DS) := fun Δ => fa Δ >>= fun p => if p.1.isTy = true then .bad else .ok (.bl (ns.any (isK p.1)), p.2)
theorem isTy_no {d : D} (h : ¬ d.isTy = true) : ∀ m, d ≠ .ty m := fun m e => h (by rw [e])
/-- a name of a built-in class -/
structure TyN (X : Cx) (e : Expr) (n : String) : Prop where
  pe : PE X e (tC (.ty n))
  ok : okK n = true
theorem ty_n {x : Str} {n : String} (hg : Gl X x) (hm : X.mg x = none) (hv : bootBuiltins x = some (.type n)) (ok : okK n = true := by decide) (hn : x ≠ "__name__" := by decide) (hd : (x == ("__debug__" : Str)) = false := by decide) : TyN X (.Name x pos) n :=
  ⟨pe_bltn (v := .ty n) hg hm hv rfl hn hd, ok⟩
inductive TyNs (X : Cx) : List Expr → List String → TA → Prop
  | nil : TyNs X [] [] tNil
  | cons {e : Expr} {es : List Expr} {n : String} {ns : List String} {t : TA} (h : TyN X e n) (hr : TyNs X es ns t) (hs : starEach (e :: es) X.env = (false, eval e X.env) :: starEach es X.env := by rfl) : TyNs X (e :: es) (n :: ns) (tCons (tC (.ty n)) t)
theorem TyNs.run {es : List Expr} {ns : List String} {t : TA} (h : TyNs X es ns t) : PA X es t ∧ (∀ (σ : L2.St) (H : Hp) (Q : List V → Hp → Prop), Q (ns.map V.ty) H → t σ H Q) ∧ ∀ n ∈ ns, okK n = true := by
  induction h with
  | nil => exact ⟨pa_nil, fun σ H Q q => q, fun n z => by cases z⟩
  | cons h hr hs ih =>
    obtain ⟨i1, i2, i3⟩ := ih
    exact ⟨pa_cons h.pe i1 hs, fun σ H Q q => i2 σ H _ q, fun n z => by
      rcases List.mem_cons.mp z with z | z
      · rw [z]; exact h.ok
      · exact i3 n z⟩
theorem de_isi {n : String} (hg : Gl X "isinstance") (hm : X.mg "isinstance" = none) (ha : DE X E a fa) (hT : TyN X b n)
    (he : starEach [a, b] X.env = (false, eval a X.env) :: starEach [b] X.env := by rfl) (he2 : starEach [b] X.env = (false, eval b X.env) :: starEach [] X.env := by rfl) (hpl : (backTo pos (starEach [b] X.env)).any (·.1) = false := by rfl) : DE X E (.Call (.Name "isinstance" p) [a, b] [] pos) (fIsi [n] fa) := by
  obtain ⟨t, q, ha⟩ := ha
  refine ⟨_, pe_callB call_isi hg hm (by decide +kernel) (pa_cons q (pa_cons hT.pe pa_nil he2) he) (by decide) (by decide) he hpl, fun fr S H σ Δ Q rl w => ?_⟩
  refine ha fr S H σ Δ _ rl (wp_mono (wp_bind w) (fun r w1 S1 H1 v g1 r1 rv => ?_) fun _ _ z => z)
  split at w1
  · exact w1.elim
  · rename_i hd
    refine ⟨v, .ty n, _, .type n, isK r.1 n, rfl, .ty n, tyX_of r1.fro.sub rv (isTy_no hd), kit_ty (kit_isK hT.ok (isTy_no hd)), ?_⟩
    have := wp_ok w1 S1 H1 _ g1 r1 (.bl _)
    simpa using this
theorem kitAny_of {K : PySem.W.Frag} {d : D} (hd : ∀ m, d ≠ .ty m) : ∀ {ns : List String}, (∀ n ∈ ns, okK n = true) → PySem.W.kitAny K (.type d.kind) (ns.map Value.type) = some (ns.any (isK d))
  | [], _ => kitAny_nil
  | n :: ns, h => by
    rw [List.map_cons, List.any_cons]
    have h1 := kit_ty (K := K) (kit_isK (h n List.mem_cons_self) hd)
    have h2 := kitAny_of (K := K) hd (ns := ns) fun m z => h m (List.mem_cons_of_mem _ z)
    exact kitAny_cons h1 (fun e => by rw [e, Bool.false_or]; exact h2) fun e => by rw [e]; rfl
theorem paired_ty : ∀ ns : List String, Paired ClsV (ns.map V.ty) (ns.map Value.type)
  | [] => .nil
  | n :: ns => .cons (.ty n) (paired_ty ns)
theorem de_isiT {ns : List String} {ts : List Expr} {tt : TA} {k : Nat} {tpos : Pos} (hg : Gl X "isinstance") (hm : X.mg "isinstance" = none) (ha : DE X E a fa) (hT : TyNs X ts ns tt) (hl : ns.length ≤ 100 := by decide)
    (he : starEach [a, .Tuple ts k tpos] X.env = (false, eval a X.env) :: starEach [.Tuple ts k tpos] X.env := by rfl) (he2 : starEach [.Tuple ts k tpos] X.env = (false, eval (.Tuple ts k tpos) X.env) :: starEach [] X.env := by rfl) (hpl : (backTo pos (starEach [.Tuple ts k tpos] X.env)).any (·.1) = false := by rfl) :
    DE X E (.Call (.Name "isinstance" p) [a, .Tuple ts k tpos] [] pos) (fIsi ns fa) := by
  obtain ⟨t, q, ha⟩ := ha
  obtain ⟨t1, t2, t3⟩ := hT.run
  refine ⟨_, pe_callB call_isiT hg hm (by decide +kernel) (pa_cons q (pa_cons (pe_tup t1) pa_nil he2) he) (by decide) (by decide) he hpl, fun fr S H σ Δ Q rl w => ?_⟩
  refine ha fr S H σ Δ _ rl (wp_mono (wp_bind w) (fun r w1 S1 H1 v g1 r1 rv => ?_) fun _ _ z => z)
  split at w1
  · exact w1.elim
  · rename_i hd
    refine t2 σ H1 _ ⟨by rw [List.length_map]; exact Nat.le_trans hl (by decide), fun T hn => ?_⟩
    refine ⟨v, T, ns.map V.ty, _, ns.map Value.type, ns.any (isK r.1), rfl, upd_same, paired_ty ns, ?_, kitAny_of (isTy_no hd) t3, ?_⟩
    · exact tyX_of (r1.fro.sub.trans (same_new hn)) rv (isTy_no hd)
    · exact wp_ok w1 S1 _ _ g1 (r1.beside hn) (.bl _)
end
end DL
namespace DL
open PySem PySem.Spec PyProof.Rows L2
/-! ## int(text, 2) -/
namespace Bin
open PySem.NumText PySem.Calls
def IsB (c : Nat) : Prop := c = 48 ∨ c = 49
theorem IsB.hex {c : Nat} (h : IsB c) : Hx.IsHex c := .inl (by unfold IsB at h; omega)
def num (l : List Nat) : Nat := l.foldl (fun a c => a * 2 + (c - 48)) 0
theorem one_step {ds : Array Nat} {b : Bool} {c : Nat} (h : IsB c) : PySem.NumText.step 2 (ds, b) c = some (ds.push (c - 48), true) := by
  have hd : digit? c = some (c - 48) := by
    rw [Hx.digit_hex h.hex]
    unfold Hx.hv
    rw [if_pos (by unfold IsB at h; omega)]
  unfold PySem.NumText.step
  rw [if_neg (by rw [beq_iff_eq]; unfold IsB at h; omega), hd]
  exact if_pos (by unfold IsB at h; omega)
theorem all_steps : ∀ (cs : List Nat) (ds : Array Nat), (∀ c ∈ cs, IsB c) → cs.foldlM (PySem.NumText.step 2) (ds, true) = some (cs.foldl (fun acc c => acc.push (c - 48)) ds, true)
  | [], _, _ => rfl
  | c :: cs, ds, h => by
    rw [List.foldlM_cons, one_step (h c List.mem_cons_self)]
    exact all_steps cs (ds.push (c - 48)) fun d hd => h d (List.mem_cons_of_mem _ hd)
theorem digits_b : ∀ {cs : List Nat}, (∀ c ∈ cs, IsB c) → cs ≠ [] → digits? 2 cs = some (cs.foldl (fun acc c => acc.push (c - 48)) #[])
  | [], _, n => absurd rfl n
  | c :: cs, h, _ => by
    unfold digits?
    rw [List.foldlM_cons, one_step (h c List.mem_cons_self)]
    show (cs.foldlM (PySem.NumText.step 2) ((#[] : Array Nat).push (c - 48), true)).bind _ = _
    rw [all_steps cs _ fun d hd => h d (List.mem_cons_of_mem _ hd)]
    rfl
theorem pushed : ∀ (cs : List Nat) (ds : Array Nat), (cs.foldl (fun acc c => acc.push (c - 48)) ds).foldl (fun acc d => acc * 2 + d) 0 = cs.foldl (fun a c => a * 2 + (c - 48)) (ds.foldl (fun acc d => acc * 2 + d) 0)
  | [], _ => rfl
  | c :: cs, ds => by
    rw [List.foldl_cons, pushed cs (ds.push (c - 48)), List.foldl_cons]
    congr 1
    simp
theorem based_b {cs : List Nat} (h : ∀ c ∈ cs, IsB c) : based 2 cs = (2, false, cs) := by
  match cs, h with
  | [], _ => rfl
  | [a], h =>
    have := h a List.mem_cons_self
    unfold IsB at this
    rcases this with rfl | rfl <;> rfl
  | a :: c :: r, h =>
    have ha := h a List.mem_cons_self
    have hc := h c (List.mem_cons_of_mem _ List.mem_cons_self)
    unfold IsB at ha hc
    rcases ha with rfl | rfl <;> rcases hc with rfl | rfl <;> rfl
theorem read_b {cs : List Nat} (h : ∀ c ∈ cs, IsB c) (hne : cs ≠ []) : (int_private% "readNumeral") 0 2 cs = (int_private% "Numeral.value") ((num cs : Nat) : Int) := by
  have hx : ∀ c ∈ cs, Hx.IsHex c := fun c hc => (h c hc).hex
  have hr : ∀ c ∈ cs.reverse, Hx.IsHex c := fun c hc => hx c (List.mem_reverse.mp hc)
  have hb : based 2 cs = (2, false, cs) := based_b h
  refine (readNumeral_eq 0 2 cs).trans ?_
  rw [Hx.dropB hx, Hx.signH hx]
  show judge 0 false (based 2 cs).1 (based 2 cs).2.1 (digits? (based 2 cs).1 (((based 2 cs).2.2.reverse.dropWhile blank).reverse)) = _
  rw [hb]
  show judge 0 false 2 false (digits? 2 ((cs.reverse.dropWhile blank).reverse)) = _
  rw [Hx.dropB hr, List.reverse_reverse, digits_b h hne]
  show (int_private% "Numeral.value") (((cs.foldl (fun acc c => acc.push (c - 48)) (#[] : Array Nat)).foldl (fun acc d => acc * 2 + d) 0 : Nat) : Int) = _
  rw [pushed]
  rfl
theorem gives_b {z : PySem.Str} {t1 t2 : Tok} (hl : z.length ≤ 640) (h : ∀ c ∈ z.cps.toList, IsB c) (hne : z.cps.toList ≠ []) :
    Gives (Builtin.«int.__new__» ⟨[.type "int", .str z t1, .int 2 t2], []⟩) (.int ((num z.cps.toList : Nat) : Int)) :=
  .of_wp fun M A E s Q hQ => by
    obtain ⟨h0, g0, d0, k0, o0⟩ := s
    have z1 := F.conv_sub_int
    have z2 := F.madeHere_int
    have z6 : typeOf (.str z t1) = pure (.type "str") := rfl
    obtain ⟨e1, e2⟩ := Hx.seen_hex (x := z) fun c hc => (h c hc).hex
    have hs : (numSeenOf z).length ≤ 640 := by rw [e2, Array.length_toList]; exact hl
    have hr : (int_private% "readNumeral") 0 2 (numSeenOf z) = (int_private% "Numeral.value") ((num z.cps.toList : Nat) : Int) := by rw [e2]; exact read_b h hne
    have ha : ((numSeenOf z).length == (numTextOf z).length) = true := by rw [e1, e2]; exact beq_self_eq_true _
    have kk := Hx.Hid.mk (And.intro hs (And.intro hr ha))
    clear hs hr ha e1 e2 hl hne h
    repeat (any_goals (first
      | assumption
      | ((with_reducible show wpAny _ _ ((int_private% "intFromText") _ _ _) _ _ _); refine Hx.wp_textB kk.out.1 kk.out.2.1 kk.out.2.2 ?_)
      | wp_step))
    all_goals first | exact ⟨_, rfl, hQ⟩ | skip
theorem call_b {prog : Program} {w : World} {A : Around} {E : Value → Shared → Prop} {s : Shared} {Q : Value → Shared → Prop} {z : PySem.Str} {t1 t2 : Tok} (hl : z.length ≤ 640) (h : ∀ c ∈ z.cps.toList, IsB c) (hne : z.cps.toList ≠ [])
    (hQ : Q (.int ((num z.cps.toList : Nat) : Int) s.toks) { s with toks := s.toks + 1 }) : wpAny (model prog w) A (call (.type "int") [.str z t1, .int 2 t2]) Q E s :=
  callType_new F.called_int F.newNe_int (Hx.typeCall_int_2 _ _) (Hx.newCall_int_2 _ _) (fun obj => F.initArgs_range_2 obj _ _) F.entry_int_new (gives_b hl h hne).meets (show (Made.int ((num z.cps.toList : Nat) : Int)).post _ s from ⟨rfl, hQ⟩)
end Bin
theorem call_int_b {X : Cx} : CallR X (.type "int") (fun xs H Q => ∃ z : Str, xs = [.str z, .int 2] ∧ z.cps.toList ≠ [] ∧ z.length ≤ 640 ∧ (∀ c ∈ z.cps.toList, Bin.IsB c) ∧ Q (.int ((Bin.num z.cps.toList : Nat) : Int)) H) := by
  intro pins s σ H xs us Q I r h
  obtain ⟨z, rfl, hne, hl, hx, q⟩ := h
  obtain ⟨u, w', rfl, r1, r2⟩ := vals2 r
  obtain ⟨t1, rfl⟩ := r1
  obtain ⟨t2, rfl⟩ := r2
  exact Bin.call_b hl hx hne ⟨.int _, H, I.tok _, ⟨_, rfl⟩, q⟩
def gIntB : List D → Option TV
  | [.str z, .int 2] => if z.cps.toList ≠ [] ∧ z.length ≤ 640 ∧ (z.cps.toList.all fun c => c == 48 || c == 49) = true then some (.sh (.int (Bin.num z.cps.toList : Nat))) else none
  | _ => none
theorem gIntB_some {ds : List D} {tv : TV} (h : gIntB ds = some tv) : ∃ z : Str, ds = [.str z, .int 2] ∧ z.cps.toList ≠ [] ∧ z.length ≤ 640 ∧ (∀ c ∈ z.cps.toList, Bin.IsB c) ∧ tv = .sh (.int (Bin.num z.cps.toList : Nat)) := by
  unfold gIntB at h
  split at h
  · split at h
    · rename_i hc
      cases h
      refine ⟨_, rfl, hc.1, hc.2.1, fun c m => ?_, rfl⟩
      have := List.all_eq_true.mp hc.2.2 c m
      simpa [Bin.IsB] using this
    · cases h
  · cases h
theorem cd_intB {X : Cx} : CallD X (.type "int") gIntB := by
  refine ⟨_, call_int_b, fun fr S H σ Δ vs ds Q rl rv w => ?_⟩
  cases q : gIntB ds with
  | none => rw [q] at w; exact w.elim
  | some tv =>
    rw [q] at w
    obtain ⟨z, rfl, h1, h2, h3, rfl⟩ := gIntB_some q
    cases rv with
    | cons a1 a2 =>
      cases a2 with
      | cons a2 a3 =>
        cases a3
        cases a1
        cases a2
        exact ⟨z, rfl, h1, h2, h3, oWp_some w S H _ (Grow.refl fr S) rl (.sh (.int _))⟩
/-! ## a < b < c -/
section
variable {X : Cx} {E : XK} {a b c : Expr} {pos : Pos} {fa fb fc : DS → R (D × DS)}
theorem dt_chain {op op' : CmpOp} {g g' : D → D → Option TV} (h : OpD X (compareOp op) g) (h' : OpD X (compareOp op') g') (ha : DE X E a fa) (hb : DE X E b fb) (hc : DE X E c fc) (hm : lastMarks [op, op'] [b, c] = false := by with_unfolding_all rfl) :
    DT X E (.Compare a [op, op'] [b, c] pos) (fChain g g' fa fb fc) := by
  obtain ⟨r, h1, h2⟩ := h
  obtain ⟨r', h3, h4⟩ := h'
  obtain ⟨ta, pa, ha⟩ := ha
  obtain ⟨tb, pb, hb⟩ := hb
  obtain ⟨tc, pc, hc⟩ := hc
  refine ⟨_, pt_chain h1 h3 pa pb pc hm, fun fr S H σ Δ Q rl w => ?_⟩
  refine ha fr S H σ Δ _ rl (wp_mono (wp_bind w) (fun p w1 S1 H1 v g1 r1 rv => ?_) fun _ _ z => z)
  refine hb fr S1 H1 σ p.2 _ r1 (wp_mono (wp_bind w1) (fun q w2 S2 H2 u g2 r2 ru => ?_) fun _ _ z => z.grow g1)
  obtain ⟨k, ek, w3⟩ := of_run w2
  have rv2 := Rp.mono g2.sub _ rv
  refine h2 fr S2 H2 σ q.2 v u p.1 q.1 _ r2 rv2 ru ?_
  cases e1 : g p.1 q.1 with
  | none => rw [e1] at ek; cases ek
  | some tv =>
    rw [e1] at ek
    have ek : tv.bool? = some k := ek
    cases tv with
    | ow d => cases ek
    | sh d =>
      cases d with
      | bl k0 =>
        have ek2 : k0 = k := Option.some.inj ek
        subst ek2
        intro S3 H3 z g3 r3 tz
        cases tz with
        | sh rz =>
          cases rz
          refine ⟨k0, rfl, ?_⟩
          cases k0 with
          | false =>
            refine iteF ⟨false, rfl, wp_ok w3 S3 H3 (g1.trans (g2.trans g3)) r3⟩
          | true =>
            refine iteT (hc fr S3 H3 σ q.2 _ r3 (wp_mono (wp_bind w3) (fun y w4 S4 H4 o g4 r4 ro => ?_) fun _ _ z => z.grow (g1.trans (g2.trans g3))))
            obtain ⟨k', ek', w5⟩ := of_run w4
            refine h4 fr S4 H4 σ y.2 u o q.1 y.1 _ r4 (Rp.mono (g3.sub.trans g4.sub) _ ru) ro ?_
            cases e2 : g' q.1 y.1 with
            | none => rw [e2] at ek'; cases ek'
            | some tv =>
              rw [e2] at ek'
              have ek' : tv.bool? = some k' := ek'
              cases tv with
              | ow d => cases ek'
              | sh d =>
                cases d with
                | bl k1 =>
                  have ek3 : k1 = k' := Option.some.inj ek'
                  subst ek3
                  intro S5 H5 z5 g5 r5 tz5
                  cases tz5 with
                  | sh rz5 =>
                    cases rz5
                    exact ⟨k1, rfl, wp_ok w5 S5 H5 (g1.trans (g2.trans (g3.trans (g4.trans g5)))) r5⟩
                | _ => cases ek'
      | _ => cases ek
end
end DL
namespace DL
open PySem PySem.Spec PyProof.Rows L2
/-! ## comprehensions of two clauses -/
def lc2F (vs vs1 : List Nat) (fg : TV → DS → Option DS) (ft : DS → R (Bool × DS)) (fi1 : DS → R (List D × DS)) (fg1 : TV → DS → Option DS) (ft1 : DS → R (Bool × DS)) (fe : DS → R (D × DS)) : List D → DS → Option (List D × DS)
  | [], Δ => some ([], Δ)
  | d :: ds, Δ => (fg (.sh d) Δ).bind fun Δ1 => (ft Δ1).opt.bind fun p => match p.1 with
    | true => (fi1 p.2).opt.bind fun q => (lcF vs1 fg1 ft1 fe q.1 (wipeG q.2.1 vs1, q.2.2)).bind fun r => (lc2F vs vs1 fg ft fi1 fg1 ft1 fe ds (wipeG r.2.1 vs, r.2.2)).bind fun z => some (r.1 ++ z.1, z.2)
    | false => lc2F vs vs1 fg ft fi1 fg1 ft1 fe ds (wipeG p.2.1 vs, p.2.2)
@[simp, reducible] def fLc2 (vs vs1 : List Nat) (fi : DS → R (List D × DS)) (fg : TV → DS → Option DS) (ft : DS → R (Bool × DS)) (fi1 : DS → R (List D × DS)) (fg1 : TV → DS → Option DS) (ft1 : DS → R (Bool × DS)) (fe : DS → R (D × DS)) : DS → R (TV × DS) := fun Δ => fi Δ >>= fun p =>
  R.of (lc2F vs vs1 fg ft fi1 fg1 ft1 fe p.1 (wipeG p.2.1 vs, p.2.2)) >>= fun r => if r.1.length ≤ sizeLine then .ok (.ow (.lst r.1), (backG p.2.1 r.2.1 vs, r.2.2)) else .bad
theorem oWp_of {α : Type} {o : Option α} {P : α → Prop} (h : ∀ a, o = some a → P a) (n : o ≠ none) : oWp o P := by
  cases o with
  | some a => exact h a rfl
  | none => exact absurd rfl n
theorem bind_some {α β : Type} {o : Option α} {k : α → Option β} {b : β} (h : o.bind k = some b) : ∃ a, o = some a ∧ k a = some b := by
  cases o with
  | some a => exact ⟨a, rfl, h⟩
  | none => cases h
theorem wp_of_opt {α : Type} {r : R α} {a : α} {P : α → Prop} {PX : Xn → Strm → Prop} (h : r.opt = some a) (p : P a) : r.wp P PX := by
  cases r with
  | ok b => cases h; exact p
  | exc x s => cases h
  | bad => cases h
theorem wipe_sub (σ : L2.St) {us vs : List Nat} (h : ∀ i ∈ us, i ∈ vs) : L2.wipe (L2.wipe σ us) vs = L2.wipe σ vs := by
  apply List.ext_getElem?
  intro i
  rw [wipe_get (L2.wipe σ us) i vs, wipe_length, wipe_get σ i vs, wipe_get σ i us]
  by_cases q : i ∈ vs ∧ i < σ.length
  · rw [if_pos q, if_pos q]
  · rw [if_neg q, if_neg q]
    by_cases q2 : i ∈ us ∧ i < σ.length
    · exact absurd ⟨h i q2.1, q2.2⟩ q
    · rw [if_neg q2]
/-- behind some turns: F tells what is still made -/
def LcR (K : PySem.W.Frag) (fr : Frm) (S1 : Hp) (τ : L2.St) (vs : List Nat) (A : Addr) (F : DS → Option (List D × DS)) (Post : Hp → Hp → List V → List D → DS → Prop) (more : Nat) (H : Hp) : Prop :=
  ∃ S2 Δ2 acc dac r, Grow fr S1 S2 ∧ H A = some (.lst acc) ∧ RpL K S2 acc dac ∧ S2 A = none ∧ NoSlot τ Δ2.1 A ∧ Rel K fr S2 τ H Δ2 ∧ (∀ i ∈ vs, ∀ s, Δ2.1[i]? = some s → s = .un) ∧ F Δ2 = some r ∧ dac.length + r.1.length + more ≤ sizeLine ∧
    ∀ S' H' acc', Grow fr S2 S' → H' A = some (.lst acc') → RpL K S' acc' (dac ++ r.1) → S' A = none → NoSlot τ r.2.1 A → Rel K fr S' τ H' r.2 → (∀ i ∈ vs, ∀ s, r.2.1[i]? = some s → s = .un) → Post S' H' acc' (dac ++ r.1) r.2
section
variable {X : Cx} {E : XK} {elt tg iter tg1 iter1 : Expr} {ifs ifs1 : List Expr} {pos spos : Pos} {fi fi1 : DS → R (List D × DS)} {fg fg1 : TV → DS → Option DS} {us us1 vs vs1 : List Nat} {ft ft1 : DS → R (Bool × DS)} {fe : DS → R (D × DS)} {scope : Scope} {own : List (Str × Nat)}
/-- one turn of the inner clause -/
theorem inner_turn {fr : Frm} {S1 : Hp} {τ : L2.St} {A : Addr} {Post : Hp → Hp → List V → List D → DS → Prop} {more : Nat} {d : D} {ds : List D} {x : V} {H H' : Hp} (hu : ∀ i ∈ us1, i ∈ vs1) (ht : L2.wipe τ vs1 = τ) (nP : fr.prot A = none) (nq : ∀ p q, fr.pq = some (p, q) → A ≠ p ∧ A ≠ q)
    (h : LcR X.K fr S1 τ vs1 A (lcF vs1 fg1 ft1 fe (d :: ds)) Post more H) (y : (H' = H ∧ Rp X.K S1 x d) ∨ ∃ T xs es, x = .ref T ∧ H T = none ∧ H' = upd H T (.tup xs) ∧ d = .tup es ∧ RpL X.K S1 xs es) :
    gS X.K us1 fg1 x τ H' fun σ3 H5 => L2.wipe σ3 vs1 = τ ∧ bS X.K X.mg E0 ft1 σ3 H5 fun b H6 =>
      if b = true then tS X.K X.mg E0 fe σ3 H6 fun y H7 => ∃ acc, H7 A = some (.lst acc) ∧ acc.length < sizeLine ∧ LcR X.K fr S1 τ vs1 A (lcF vs1 fg1 ft1 fe ds) Post more (upd H7 A (.lst (acc ++ [y]))) else LcR X.K fr S1 τ vs1 A (lcF vs1 fg1 ft1 fe ds) Post more H6 := by
  obtain ⟨S2, Δ2, acc, dac, r, g2, hAc, ra, nA, ns2, r2, ou, eF, rm, post⟩ := h
  have eF : ((fg1 (.sh d) Δ2).bind fun Δ1 => (ft1 Δ1).opt.bind fun p => match p.1 with
    | true => (fe p.2).opt.bind fun q => (lcF vs1 fg1 ft1 fe ds (wipeG q.2.1 vs1, q.2.2)).bind fun r => some (q.1 :: r.1, r.2)
    | false => lcF vs1 fg1 ft1 fe ds (wipeG p.2.1 vs1, p.2.2)) = some r := eF
  obtain ⟨Δ4, e4, eF⟩ := bind_some eF
  obtain ⟨p, e5, eF⟩ := bind_some eF
  have rp2 := r2.protect hAc nA nq ns2
  obtain ⟨S3, g3, r3, rp⟩ := item_in rp2 g2.sub y
  refine ⟨_, S3, Δ2, .sh d, r3, .sh rp, ?_⟩
  rw [e4]
  intro S4 H4 σ4 g4 r4 w4
  have ew : L2.wipe σ4 vs1 = τ := by rw [w4 vs1 hu, ht]
  refine ⟨ew, _, S4, Δ4, r4, wp_of_opt e5 fun S5 H5 g5 r5 => ?_⟩
  obtain ⟨k, Δ5⟩ := p
  cases k with
  | false =>
    refine iteF ?_
    have gg := g3.trans (g4.trans g5)
    obtain ⟨gu, nA5⟩ := gg.unprotect nA
    obtain ⟨r6, hA6, ns6⟩ := r5.unprotect nP nq
    have r7 := r6.wipe vs1
    rw [ew] at r7
    have ns7 := ns6.wipe (vs := vs1)
    rw [ew] at ns7
    exact ⟨S5, (wipeG Δ5.1 vs1, Δ5.2), acc, dac, r, g2.trans gu, hA6, RpL.mono gu.sub _ ra, nA5, ns7, r7, wipeG_own _ _, eF, rm, fun S' H' acc' g' => post S' H' acc' (gu.trans g')⟩
  | true =>
    obtain ⟨q, e6, eF⟩ := bind_some (show ((fe Δ5).opt.bind fun q => (lcF vs1 fg1 ft1 fe ds (wipeG q.2.1 vs1, q.2.2)).bind fun r => some (q.1 :: r.1, r.2)) = some r from eF)
    obtain ⟨z, e7, eF⟩ := bind_some eF
    cases eF
    refine iteT ⟨_, S5, Δ5, r5, wp_of_opt e6 fun S6 H6 v g6 r6 rv => ?_⟩
    have gg := g3.trans (g4.trans (g5.trans g6))
    obtain ⟨gu, nA6⟩ := gg.unprotect nA
    obtain ⟨r7, hA7, ns7⟩ := r6.unprotect nP nq
    have ns8 := ns7.wipe (vs := vs1)
    rw [ew] at ns8
    have r8 := r7.wipe vs1
    rw [ew] at r8
    have rm2 : dac.length + (z.1.length + 1) + more ≤ sizeLine := rm
    refine ⟨acc, hA7, by rw [ra.length]; omega, S6, (wipeG q.2.1 vs1, q.2.2), acc ++ [v], dac ++ [q.1], z, g2.trans gu, upd_same, (RpL.mono gu.sub _ ra).snoc rv, nA6, ns8, r8.write nA6 nP nq ns8, wipeG_own _ _, e7, by rw [List.length_append, List.length_singleton]; omega, fun S' H' acc' g' hA' ra' nA' ns' r' ou' => ?_⟩
    rw [List.append_assoc] at ra' ⊢
    exact post S' H' acc' (gu.trans g') hA' ra' nA' ns' r' ou'
theorem lc2_run {wi : TI} (hu : ∀ i ∈ us, i ∈ vs) (hu1 : ∀ i ∈ us1, i ∈ vs1) (hv : ∀ i ∈ vs1, i ∈ vs) (hi : ∀ fr S H σ Δ (W : It → Hp → Prop), Rel X.K fr S σ H Δ → (fi Δ).wp (fun r => ∀ S' H' J, Grow fr S S' → Rel X.K fr S' σ H' r.2 → ItOk X.K S' J r.1 → W J H') (XP X.K X.mg fr S E) → wi σ H W)
    {fr : Frm} {S H : Hp} {σ : L2.St} {Δ : DS} {Q : VK} (rl : Rel X.K fr S σ H Δ)
    (w : (fLc2 vs vs1 fi fg ft fi1 fg1 ft1 fe Δ).wp (fun r => ∀ S' H' v, Grow fr S S' → Rel X.K fr S' σ H' r.2 → TvOk X.K fr S' H' σ r.2.1 v r.1 → Q v H') (XP X.K X.mg fr S E)) :
    tLc2 wi (gS X.K us fg) (bS X.K X.mg E0 ft) (iS X.K X.mg E0 fi1) (gS X.K us1 fg1) (bS X.K X.mg E0 ft1) (tS X.K X.mg E0 fe) vs vs1 σ H Q := by
  refine hi fr S H σ Δ _ rl (wp_mono (wp_bind w) (fun r w1 S1 H1 J g1 r1 it => ?_) fun _ _ z => z)
  obtain ⟨ds, Δ1⟩ := r
  intro A hA
  obtain ⟨r0, eF0, w1⟩ := of_run w1
  split at w1
  · rename_i hz
    have nS1 : S1 A = none := Same.free r1.fro.sub hA
    have nP : fr.prot A = none := Same.free r1.fro.prt hA
    have nq : ∀ p q, fr.pq = some (p, q) → A ≠ p ∧ A ≠ q := (r1.newOwn (o := .lst []) (d := .lst []) hA (.lst .nil)).1.offQ
    have ns1 : NoSlot σ Δ1.1 A := (r1.newOwn (o := .lst []) (d := .lst []) hA (.lst .nil)).2
    let Post : Hp → Hp → List V → List D → DS → Prop := fun _ H' _ _ _ => Q (.ref A) H'
    refine ⟨fun i m H' => m = ds.length - i ∧ i ≤ ds.length ∧ LcR X.K fr S1 (L2.wipe σ vs) vs A (lc2F vs vs1 fg ft fi1 fg1 ft1 fe (ds.drop i)) Post 0 H', ⟨ds.length, by simp, Nat.zero_le _, ?_⟩, ?_⟩
    · refine ⟨S1, (wipeG Δ1.1 vs, Δ1.2), [], [], r0, Grow.refl fr S1, upd_same, .nil, nS1, ns1.wipe, (r1.beside hA).wipe vs, wipeG_own _ _, by rw [List.drop_zero]; exact eF0, by simpa using hz, fun S' H' acc' g' hA' ra nA ns' r' ou => ?_⟩
      have r2 : Rel X.K fr S' σ H' r0.2 := r'.reslot (σ' := σ) vs (by rw [wipe_length]) (fun i hi => (wipe_out hi).symm) ou
      refine wp_ok w1 S' H' (.ref A) (g1.trans g') (r2.back g'.sub r1 vs) (.ow ⟨⟨_, hA', .lst ra⟩, nA, nP, nq⟩ fun i d e => ?_)
      have e2 := backG_ow e
      have hi : i ∉ vs := fun z => by have := ou i z _ e2; cases this
      have := ns' i d e2
      rw [wipe_out hi] at this
      exact this
    · rintro i m H2 ⟨rfl, hle, S2, Δ2, acc, dac, r, g2, hAc, ra, nA, ns2, r2, ou, eF, rm, post⟩
      have sm : Same S1 H2 := g2.sub.trans r2.fro.sub
      by_cases hlt : i < ds.length
      · refine .inr ⟨it.goes i H2 hlt sm, fun H' => LcR X.K fr S1 (L2.wipe σ vs) vs A (lc2F vs vs1 fg ft fi1 fg1 ft1 fe (ds.drop (i + 1))) Post 0 H', fun H' n => ⟨ds.length - (i + 1), by omega, rfl, hlt, n⟩, fun x H' y => ?_⟩
        obtain ⟨d, hd, y⟩ := it.yields i H2 x H' hlt sm y
        have rp2 := r2.protect hAc nA nq ns2
        obtain ⟨S3, g3, r3, rp⟩ := item_in rp2 g2.sub y
        have ed : ds.drop i = d :: ds.drop (i + 1) := by
          rw [List.drop_eq_getElem_cons hlt]
          congr 1
          rw [List.getElem?_eq_getElem hlt] at hd
          exact Option.some.inj hd
        rw [ed] at eF
        have eF : ((fg (.sh d) Δ2).bind fun Δ1 => (ft Δ1).opt.bind fun p => match p.1 with
          | true => (fi1 p.2).opt.bind fun q => (lcF vs1 fg1 ft1 fe q.1 (wipeG q.2.1 vs1, q.2.2)).bind fun r => (lc2F vs vs1 fg ft fi1 fg1 ft1 fe (ds.drop (i + 1)) (wipeG r.2.1 vs, r.2.2)).bind fun z => some (r.1 ++ z.1, z.2)
          | false => lc2F vs vs1 fg ft fi1 fg1 ft1 fe (ds.drop (i + 1)) (wipeG p.2.1 vs, p.2.2)) = some r := eF
        obtain ⟨Δ4, e4, eF⟩ := bind_some eF
        obtain ⟨p, e5, eF⟩ := bind_some eF
        refine ⟨_, S3, Δ2, .sh d, r3, .sh rp, ?_⟩
        rw [e4]
        intro S4 H4 σ4 g4 r4 w4
        have ew : L2.wipe σ4 vs = L2.wipe σ vs := by rw [w4 vs hu, wipe_wipe]
        refine ⟨ew, _, S4, Δ4, r4, wp_of_opt e5 fun S5 H5 g5 r5 => ?_⟩
        obtain ⟨k, Δ5⟩ := p
        cases k with
        | false =>
          refine iteF ?_
          have gg := g3.trans (g4.trans g5)
          obtain ⟨gu, nA5⟩ := gg.unprotect nA
          obtain ⟨r6, hA6, ns6⟩ := r5.unprotect nP nq
          have r7 := r6.wipe vs
          rw [ew] at r7
          have ns7 := ns6.wipe (vs := vs)
          rw [ew] at ns7
          exact ⟨S5, (wipeG Δ5.1 vs, Δ5.2), acc, dac, r, g2.trans gu, hA6, RpL.mono gu.sub _ ra, nA5, ns7, r7, wipeG_own _ _, eF, rm, fun S' H' acc' g' => post S' H' acc' (gu.trans g')⟩
        | true =>
          obtain ⟨q, e6, eF⟩ := bind_some (show ((fi1 Δ5).opt.bind fun q => (lcF vs1 fg1 ft1 fe q.1 (wipeG q.2.1 vs1, q.2.2)).bind fun r => (lc2F vs vs1 fg ft fi1 fg1 ft1 fe (ds.drop (i + 1)) (wipeG r.2.1 vs, r.2.2)).bind fun z => some (r.1 ++ z.1, z.2)) = some r from eF)
          obtain ⟨ri, e7, eF⟩ := bind_some eF
          obtain ⟨z, e8, eF⟩ := bind_some eF
          cases eF
          refine iteT ⟨_, S5, Δ5, r5, wp_of_opt e6 fun S6 H6 J1 g6 r6 it1 => ?_⟩
          obtain ⟨js, Δ6⟩ := q
          have gg := g3.trans (g4.trans (g5.trans g6))
          obtain ⟨gu, nA6⟩ := gg.unprotect nA
          obtain ⟨r7, hA7, ns7⟩ := r6.unprotect nP nq
          have rm2 : dac.length + (ri.1 ++ z.1).length + 0 ≤ sizeLine := rm
          rw [List.length_append] at rm2
          let τ := L2.wipe σ4 vs1
          have hτ : L2.wipe τ vs = L2.wipe σ vs := by rw [wipe_sub σ4 hv, ew]
          -- what follows the inner clause
          let Post1 : Hp → Hp → List V → List D → DS → Prop := fun S' H' acc' dac' Δ' => LcR X.K fr S1 (L2.wipe σ vs) vs A (lc2F vs vs1 fg ft fi1 fg1 ft1 fe (ds.drop (i + 1))) Post 0 H'
          refine ⟨fun j k H' => k = js.length - j ∧ j ≤ js.length ∧ LcR X.K fr S6 τ vs1 A (lcF vs1 fg1 ft1 fe (js.drop j)) Post1 z.1.length H', ⟨js.length, by simp, Nat.zero_le _, ?_⟩, ?_⟩
          · refine ⟨S6, (wipeG Δ6.1 vs1, Δ6.2), acc, dac, ri, Grow.refl fr S6, hA7, RpL.mono gu.sub _ ra, nA6, ns7.wipe, r7.wipe vs1, wipeG_own _ _, by rw [List.drop_zero]; exact e7, by omega, fun S' H' acc' g' hA' ra' nA' ns' r' ou' => ?_⟩
            have r8 := r'.wipe vs
            rw [hτ] at r8
            have ns8 := ns'.wipe (vs := vs)
            rw [hτ] at ns8
            refine ⟨S', (wipeG ri.2.1 vs, ri.2.2), acc', dac ++ ri.1, z, g2.trans (gu.trans g'), hA', ra', nA', ns8, r8, wipeG_own _ _, e8, by rw [List.length_append]; omega, fun S'' H'' acc'' g'' hA'' ra'' nA'' ns'' r'' ou'' => ?_⟩
            rw [List.append_assoc] at ra''
            have := post S'' H'' acc'' (gu.trans (g'.trans g'')) hA'' ra'' nA'' ns'' r'' ou''
            exact this
          · rintro j k H8 ⟨rfl, hjle, hL⟩
            have hL' := hL
            obtain ⟨S8, Δ8, acc8, dac8, r8, g8, hA8, ra8, nA8, ns8, rl8, ou8, eF8, rm8, post8⟩ := hL'
            have sm8 : Same S6 H8 := g8.sub.trans rl8.fro.sub
            by_cases hjlt : j < js.length
            · refine .inr ⟨it1.goes j H8 hjlt sm8, fun H' => LcR X.K fr S6 τ vs1 A (lcF vs1 fg1 ft1 fe (js.drop (j + 1))) Post1 z.1.length H', fun H' n => ⟨js.length - (j + 1), by omega, rfl, hjlt, n⟩, fun x8 H8' y8 => ?_⟩
              obtain ⟨d8, hd8, y8⟩ := it1.yields j H8 x8 H8' hjlt sm8 y8
              have ed8 : js.drop j = d8 :: js.drop (j + 1) := by
                rw [List.drop_eq_getElem_cons hjlt]
                congr 1
                rw [List.getElem?_eq_getElem hjlt] at hd8
                exact Option.some.inj hd8
              rw [ed8] at hL
              exact inner_turn hu1 (wipe_wipe σ4 vs1) nP nq hL y8
            · have e : j = js.length := by omega
              subst e
              rw [List.drop_length] at eF8
              cases eF8
              exact .inl ⟨it1.stops H8 sm8, post8 S8 H8 acc8 (Grow.refl fr S8) hA8 (by rw [List.append_nil]; exact ra8) nA8 ns8 rl8 ou8⟩
      · have e : i = ds.length := by omega
        subst e
        rw [List.drop_length] at eF
        cases eF
        exact .inl ⟨it.stops H2 sm, post S2 H2 acc (Grow.refl fr S2) hAc (by rw [List.append_nil]; exact ra) nA ns2 r2 ou⟩
  · exact w1.elim
theorem do_lc2 (hc : X.calm = true) (hN : X.N.Nodup) (hi : Dit X E tg iter fi) (ok : BlkOk X.N X.env.scope scope own) (hu : ∀ i ∈ us, i ∈ own.map (·.2)) (hu1 : ∀ i ∈ us1, i ∈ vs1) (hv : ∀ i ∈ vs1, i ∈ own.map (·.2))
    (hg : ∀ s H C cl fp, Dtg (Blk X scope s H C cl fp) tg us fg) (ht : ∀ s H C cl fp, Dts (Blk X scope s H C cl fp) E0 ifs ft) (hi1 : ∀ s H C cl fp, Dit (Blk X scope s H C cl fp) E0 tg1 iter1 fi1)
    (hg1 : ∀ s H C cl fp, Dtg (Blk X scope s H C cl fp) tg1 us1 fg1) (ht1 : ∀ s H C cl fp, Dts (Blk X scope s H C cl fp) E0 ifs1 ft1) (he : ∀ s H C cl fp, DE (Blk X scope s H C cl fp) E0 elt fe)
    (hs : ∀ x, foldedSetIterable iter X.env x = pure x := by intro _; rfl) (hs1 : ∀ env x, foldedSetIterable iter1 env x = pure x := by intro _ _; rfl) :
    DO X E (.ListComp elt [⟨tg, iter, ifs, 0⟩, ⟨tg1, iter1, ifs1, 0⟩] scope pos) (fLc2 (own.map (·.2)) vs1 fi fg ft fi1 fg1 ft1 fe) := by
  obtain ⟨wi, p, hi⟩ := hi
  exact ⟨_, pe_lc2 (g := gS X.K us fg) (tt := bS X.K X.mg E0 ft) (wi1 := iS X.K X.mg E0 fi1) (g1 := gS X.K us1 fg1) (tt1 := bS X.K X.mg E0 ft1) (te := tS X.K X.mg E0 fe) hc hN p ok hv (fun s H C cl fp => (hg s H C cl fp).pg) (fun s H C cl fp => (ht s H C cl fp).pts)
    (fun s H C cl fp => (hi1 s H C cl fp).pi) (fun s H C cl fp => (hg1 s H C cl fp).pg) (fun s H C cl fp => (ht1 s H C cl fp).pts) (fun s H C cl fp => (he s H C cl fp).pe) hs hs1, fun fr S H σ Δ Q rl w => lc2_run hu hu1 hv hi rl w⟩
theorem ds_setLc2 {i : Nat} {y : Str} {py : Pos} (hc : X.calm = true) (hN : X.N.Nodup) (hy : X.N[i]? = some y) (hyl : X.env.scope.names.lookup y = some .local)
    (hsw : swapsWith (.ListComp elt [⟨tg, iter, ifs, 0⟩, ⟨tg1, iter1, ifs1, 0⟩] scope pos) (some (.Name y py)) spos.line X.env = pure true) (hi : Dit X E tg iter fi) (ok : BlkOk X.N X.env.scope scope own) (hu : ∀ i ∈ us, i ∈ own.map (·.2)) (hu1 : ∀ i ∈ us1, i ∈ vs1) (hv : ∀ i ∈ vs1, i ∈ own.map (·.2))
    (hg : ∀ s H C cl fp, Dtg (Blk X scope s H C cl fp) tg us fg) (ht : ∀ s H C cl fp, Dts (Blk X scope s H C cl fp) E0 ifs ft) (hi1 : ∀ s H C cl fp, Dit (Blk X scope s H C cl fp) E0 tg1 iter1 fi1)
    (hg1 : ∀ s H C cl fp, Dtg (Blk X scope s H C cl fp) tg1 us1 fg1) (ht1 : ∀ s H C cl fp, Dts (Blk X scope s H C cl fp) E0 ifs1 ft1) (he : ∀ s H C cl fp, DE (Blk X scope s H C cl fp) E0 elt fe)
    (hs : ∀ x, foldedSetIterable iter X.env x = pure x := by intro _; rfl) (hs1 : ∀ env x, foldedSetIterable iter1 env x = pure x := by intro _ _; rfl) :
    Dst X E (.Assign [.Name y py] (.ListComp elt [⟨tg, iter, ifs, 0⟩, ⟨tg1, iter1, ifs1, 0⟩] scope pos) spos) (fAsg (fLc2 (own.map (·.2)) vs1 fi fg ft fi1 fg1 ft1 fe) (gSet i)) := by
  obtain ⟨wi, p, hi⟩ := hi
  refine ⟨_, ps_setLc2 (g := gS X.K us fg) (tt := bS X.K X.mg E0 ft) (wi1 := iS X.K X.mg E0 fi1) (g1 := gS X.K us1 fg1) (tt1 := bS X.K X.mg E0 ft1) (te := tS X.K X.mg E0 fe) hc hN hy hyl hsw p ok hv (fun s H C cl fp => (hg s H C cl fp).pg) (fun s H C cl fp => (ht s H C cl fp).pts)
    (fun s H C cl fp => (hi1 s H C cl fp).pi) (fun s H C cl fp => (hg1 s H C cl fp).pg) (fun s H C cl fp => (ht1 s H C cl fp).pts) (fun s H C cl fp => (he s H C cl fp).pe) hs hs1, fun fr S H σ Δ N rl w => ?_⟩
  refine lc2_run hu hu1 hv hi rl (wp_mono (wp_bind w) (fun r w1 S1 H1 v g1 r1 tk => ?_) fun _ _ z => z)
  have w2 := oWp_some (of_wp (wp_bind w1))
  refine wp_ok w2 S1 H1 _ g1 ?_
  obtain ⟨tv, Δ1⟩ := r
  cases tk with
  | sh rp => exact r1.setSlot (s := .sh _) ⟨v, rfl, rp⟩ fun _ _ z => by cases z
  | @ow a0 d0 w0 ns =>
    refine r1.setSlot (s := .ow d0) ⟨a0, rfl, w0⟩ fun d a z y => ?_
    cases y
    exact ns
end
end DL
namespace DL
open PySem PySem.Spec PyProof.Rows L2
/-! ## the stream of draws -/
def drain : List Int → Int → Int → List Int × Int × Int
  | [], l, m => ([], l, m)
  | c :: cs, l, m => if l = 0 then drain cs (if (1000000000000000000 : Int) ≤ c then c else 0) ((m * 69031 + c + 13) % 2147483647) else (c :: cs, l, m)
/-- the state behind the drain of a draw -/
@[simp, reducible] def drained (st : Strm) : Strm := ⟨(drain st.cells st.left st.mix).1, (drain st.cells st.left st.mix).2.1, st.cnt + 1, (drain st.cells st.left st.mix).2.2⟩
def belowI (many : Int) (st : Strm) : Int × Strm :=
  let s := drained st
  if 0 < s.left then (s.left % many, ⟨s.cells, s.left / many, s.cnt, s.mix⟩)
  else (((((s.mix + 9049 * s.cnt + 130073) ^ 5 % 2147483629) * 44089 + 60077 * s.cnt + 47) ^ 3 % 1000000007) % many, s)
/-- what every draw needs -/
structure StOk (st : Strm) : Prop where
  left : 0 ≤ st.left
  mix0 : 0 ≤ st.mix
  mix : st.mix < 2147483647
  cnt0 : 0 ≤ st.cnt
  cnt : st.cnt < 2 ^ 40
instance (st : Strm) : Decidable (StOk st) :=
  if h : 0 ≤ st.left ∧ 0 ≤ st.mix ∧ st.mix < 2147483647 ∧ 0 ≤ st.cnt ∧ st.cnt < 2 ^ 40 then .isTrue ⟨h.1, h.2.1, h.2.2.1, h.2.2.2.1, h.2.2.2.2⟩ else .isFalse fun z => h ⟨z.left, z.mix0, z.mix, z.cnt0, z.cnt⟩
def F__law_below : List D → Strm → R (D × Strm)
  | [.int many], st => if chk (StOk st ∧ 0 < many ∧ many < 1073741824) = true then .ok (.int (belowI many st).1, (belowI many st).2) else .bad
  | _, _ => .bad
theorem drain_ok : ∀ (cs : List Int) (l m : Int), 0 ≤ l → 0 ≤ m → m < 2147483647 → 0 ≤ (drain cs l m).2.1 ∧ 0 ≤ (drain cs l m).2.2 ∧ (drain cs l m).2.2 < 2147483647
  | [], l, m, h1, h2, h3 => ⟨h1, h2, h3⟩
  | c :: cs, l, m, h1, h2, h3 => by
    unfold drain
    split
    · refine drain_ok cs _ _ ?_ (Int.emod_nonneg _ (by decide)) (Int.emod_lt_of_pos _ (by decide))
      split <;> omega
    · exact ⟨h1, h2, h3⟩
theorem below_rng {many : Int} {st : Strm} (h : 0 < many) : 0 ≤ (belowI many st).1 ∧ (belowI many st).1 < many := by
  unfold belowI
  dsimp only
  split
  · exact ⟨Int.emod_nonneg _ (by omega), Int.emod_lt_of_pos _ h⟩
  · exact ⟨Int.emod_nonneg _ (by omega), Int.emod_lt_of_pos _ h⟩
theorem below_cnt {many : Int} {st : Strm} : (belowI many st).2.cnt = st.cnt + 1 := by
  unfold belowI
  dsimp only
  split <;> rfl
theorem below_stok {many : Int} {st : Strm} (h : 0 < many) (s : StOk st) (hc : st.cnt + 1 < 2 ^ 40) : StOk (belowI many st).2 := by
  obtain ⟨h1, h2, h3⟩ := drain_ok st.cells st.left st.mix s.left s.mix0 s.mix
  have := s.cnt0
  unfold belowI
  dsimp only
  split
  · exact ⟨Int.ediv_nonneg h1 (by omega), h2, h3, by show 0 ≤ st.cnt + 1; omega, hc⟩
  · exact ⟨h1, h2, h3, by show 0 ≤ st.cnt + 1; omega, hc⟩
theorem below_arg {ds : List D} {st : Strm} {P : D × Strm → Prop} {PX : Xn → Strm → Prop} (w : (F__law_below ds st).wp P PX) : ∃ many, (0 < many ∧ many < 1073741824) ∧ ds = [.int many] := by
  unfold F__law_below at w
  split at w
  · split at w
    · rename_i h
      exact ⟨_, (of_chk h).2, rfl⟩
    · exact w.elim
  · exact w.elim
theorem below_ok {many : Int} {st : Strm} {P : D × Strm → Prop} {PX : Xn → Strm → Prop} (hm : 0 < many ∧ many < 1073741824) (w : (F__law_below [.int many] st).wp P PX) : StOk st ∧ P (.int (belowI many st).1, (belowI many st).2) := by
  have w : (if chk (StOk st ∧ 0 < many ∧ many < 1073741824) = true then R.ok (D.int (belowI many st).1, (belowI many st).2) else R.bad).wp P PX := w
  split at w
  · rename_i h
    exact ⟨(of_chk h).1, w⟩
  · exact w.elim
theorem dp_ints {K : PySem.W.Frag} {H : Hp} : ∀ cs : List Int, DpAll K H (cs.map V.int) (cs.map PyData.int)
  | [] => .nil
  | c :: cs => .cons (.int c) (dp_ints cs)
theorem can_ints : ∀ cs : List Int, PyData.canLayAll0 (cs.map PyData.int) = true
  | [] => by simp [PyData.canLayAll0]
  | c :: cs => by simp [PyData.canLayAll0, PyData.canLay0, can_ints cs]
theorem depth_ints : ∀ cs : List Int, PyData.depthAll (cs.map PyData.int) = 0
  | [] => by simp [PyData.depthAll]
  | c :: cs => by simp [PyData.depthAll, PyData.depth, depth_ints cs]
theorem shaped_ints (cs : List Int) : SeqAt.shaped (.list (cs.map PyData.int)) = true := by
  simp [SeqAt.shaped, PyData.canLay0, PyData.depth, can_ints, depth_ints]
theorem eqv_nil (cs : List Int) : PyData.eqv (.list (cs.map PyData.int)) (.list []) = cs.isEmpty := by
  cases cs <;> simp [PyData.eqv, PyData.eqvAll]
/-- a while by a word and by what holds behind it -/
theorem while_mk {c : TT} {tb : TS} {N : Ends} {σ : L2.St} {H : Hp} (W : Nat → L2.St → Hp → Prop) (Ex : L2.St → Hp → Prop) (init : ∃ m, W m σ H)
    (turn : ∀ nx : L2.St → Hp → Prop, (∀ σ H, Ex σ H → nx σ H) → ∀ m σ H, W m σ H → c σ H fun b H1 => if b = true then ∃ N' : L2.St → Hp → Prop, (∀ σ' H', N' σ' H' → ∃ m', m' < m ∧ W m' σ' H') ∧ tb { N with nx := N', ct := N', bk := N.nx } σ H1 else nx σ H1)
    (fin : ∀ σ H, Ex σ H → N.nx σ H) : tWhile c tb N σ H := ⟨W, init, turn N.nx fin⟩
theorem law_rel {K : PySem.W.Frag} {p q : Addr} {H : Hp} {st : Strm} {σ : L2.St} {n i : Nat} (h : StAt H p q st) (hl : σ.length = n) (hi : σ[i]? = some (some (.ref p))) (hn : i < n) :
    Rel K ⟨fun _ => none, some (p, q)⟩ (fun _ => none) σ H ((List.replicate n SV.un).set i SV.stm, st) := by
  refine ⟨⟨fun b o e => (by cases e), fun b o e => (by cases e), fun a b e => ?_⟩, by simp [hl], fun j s e => ?_, fun j k a d e h1 _ _ _ => ?_⟩
  · cases e
    exact ⟨h, rfl, rfl, rfl, rfl⟩
  · have e : ((List.replicate n SV.un).set i SV.stm)[j]? = some s := e
    by_cases hj : i = j
    · subst hj
      rw [List.getElem?_set_self (by simpa using hn)] at e
      cases e
      exact ⟨_, hi, p, q, rfl, rfl⟩
    · rw [List.getElem?_set_ne hj, List.getElem?_replicate] at e
      split at e
      · rename_i hlt
        cases e
        exact ⟨σ[j]'(by rw [hl]; exact hlt), List.getElem?_eq_getElem _, trivial⟩
      · cases e
  · have h1 : ((List.replicate n SV.un).set i SV.stm)[j]? = some (.ow d) := h1
    by_cases hj : i = j
    · subst hj
      rw [List.getElem?_set_self (by simpa using hn)] at h1
      cases h1
    · rw [List.getElem?_set_ne hj, List.getElem?_replicate] at h1
      split at h1 <;> cases h1
theorem room5 {k : Nat} {A : Around} (r : Room k A) : A.units + 65 < cLine := by have := r.un; omega
def whileFuel : Nat := 1000000000000
end DL
namespace DL
open PySem PySem.Spec PyProof.Rows L2
/-! ## lists of whole numbers -/
def dI (ns : List Int) : List D := ns.map D.int
@[simp] theorem dI_len (ns : List Int) : (dI ns).length = ns.length := List.length_map ..
@[simp] theorem ints_dI (ns : List Int) : D.ints (dI ns) = some ns := ints_map ns
@[simp] theorem dI_app (a b : List Int) : dI a ++ dI b = dI (a ++ b) := List.map_append.symm
@[simp] theorem dI_rep (k : Nat) (a : List Int) : (List.replicate k (dI a)).flatten = dI (List.replicate k a).flatten := by simp [dI, List.map_flatten]
@[simp] theorem dI_take (k : Nat) (a : List Int) : (dI a).take k = dI (a.take k) := List.map_take.symm
@[simp] theorem dI_drop (k : Nat) (a : List Int) : (dI a).drop k = dI (a.drop k) := List.map_drop.symm
@[simp] theorem dI_rev (a : List Int) : (dI a).reverse = dI a.reverse := List.map_reverse.symm
theorem dI_get (a : List Int) (i : Nat) : (dI a)[i]? = a[i]?.map D.int := List.getElem?_map ..
theorem dI_mem {a : List Int} {d : D} (h : d ∈ dI a) : ∃ i, i ∈ a ∧ d = .int i := by
  obtain ⟨i, h1, h2⟩ := List.mem_map.mp h
  exact ⟨i, h1, h2.symm⟩
theorem dI_cons (i : Int) (a : List Int) : dI (i :: a) = .int i :: dI a := rfl
theorem dI_map {α : Type} (f : α → Int) (l : List α) : (l.map fun x => D.int (f x)) = dI (l.map f) := by simp [dI]
def upD (n : Nat) : List D := (List.range n).map fun k => .int (k : Nat)
theorem rng1_eq (j : Int) (h0 : 0 ≤ j) (h : j < 2 ^ 62) : D.rng1 [.int j] = some (upD j.toNat) := by
  show (if chk (-(2 ^ 62) ≤ j ∧ j < 2 ^ 62) = true then some ((List.range j.toNat).map fun k => D.int (k : Nat)) else none) = _
  rw [if_pos (chk_pos ⟨by omega, h⟩)]
  rfl
@[simp] theorem upD_len (n : Nat) : (upD n).length = n := by simp [upD]
theorem size_up {n w : Nat} (hw : 0 < w) : Builtin.Range.rangeSize 0 n w = (((n + w - 1) / w : Nat) : Int) := by
  unfold Builtin.Range.rangeSize
  rw [if_pos (by omega)]
  by_cases h : 0 < n
  · rw [if_pos (by omega)]
    have e : (n : Int) - 0 - 1 = ((n - 1 : Nat) : Int) := by omega
    rw [e]
    have e2 : (n + w - 1) / w = (n - 1) / w + 1 := by
      rw [show n + w - 1 = (n - 1) + w by omega, Nat.add_div_right _ hw]
    rw [e2]
    push_cast
    rfl
  · have : n = 0 := by omega
    subst this
    rw [if_neg (by omega), Nat.div_eq_of_lt (by omega)]
    rfl
theorem fits_of {i : Int} (h : -9223372036854775808 ≤ i) (h' : i < 9223372036854775808) : Builtin.Range.rangeFitsLong i = true := by
  unfold Builtin.Range.rangeFitsLong
  rw [Bool.and_eq_true]
  exact ⟨decide_eq_true (by omega), decide_eq_true (by omega)⟩
theorem rng3_up (n w : Nat) (hw : 0 < w) (hw2 : w < 1000000) (hn : n < 1000000000) : D.rng3 [.int 0, .int n, .int w] = some ((List.range ((n + w - 1) / w)).map fun k => .int (0 + (k : Nat) * (w : Int))) := by
  show (if chk ((w : Int) ≠ 0 ∧ (w : Int).natAbs < 1073741824 ∧ Builtin.Range.small 0 n w = true) = true then some ((List.range (Builtin.Range.rangeSize 0 n w).toNat).map fun k => D.int (0 + (k : Nat) * (w : Int))) else none) = _
  have hd : (n + w - 1) / w ≤ n + w - 1 := Nat.div_le_self _ _
  have hs : Builtin.Range.small 0 n w = true := by
    unfold Builtin.Range.small
    rw [size_up hw]
    generalize (n + w - 1) / w = z at hd ⊢
    rw [fits_of (by omega) (by omega), fits_of (by omega) (by omega), fits_of (by omega) (by omega), fits_of (by omega) (by omega), if_pos (by omega), fits_of (by omega) (by omega)]
    simp
  rw [if_pos (chk_pos ⟨by omega, by omega, hs⟩), size_up hw, Int.toNat_natCast]
theorem rng3_down (n : Nat) (hn : n < 1000000000) : D.rng3 [.int ((n : Int) - 1), .int (-1), .int (-1)] = some ((List.range n).map fun k => .int ((n : Int) - 1 + (k : Nat) * (-1))) := by
  have e : Builtin.Range.rangeSize ((n : Int) - 1) (-1) (-1) = n := by
    unfold Builtin.Range.rangeSize
    rw [if_neg (by omega)]
    by_cases h : 0 < n
    · rw [if_pos (by omega), show -(-1 : Int) = 1 by decide, Int.ediv_one]; omega
    · rw [if_neg (by omega)]; omega
  show (if chk ((-1 : Int) ≠ 0 ∧ (-1 : Int).natAbs < 1073741824 ∧ Builtin.Range.small ((n : Int) - 1) (-1) (-1) = true) = true then some ((List.range (Builtin.Range.rangeSize ((n : Int) - 1) (-1) (-1)).toNat).map fun k => D.int ((n : Int) - 1 + (k : Nat) * (-1))) else none) = _
  have hs : Builtin.Range.small ((n : Int) - 1) (-1) (-1) = true := by
    unfold Builtin.Range.small
    rw [e, fits_of (by omega) (by omega), fits_of (by omega) (by omega), fits_of (by omega) (by omega), if_neg (by omega), fits_of (by omega) (by omega)]
    simp
  rw [if_pos (chk_pos ⟨by omega, by decide, hs⟩), e, Int.toNat_natCast]
@[simp] theorem sz0 : 0 ≤ sizeLine := by decide
@[simp] theorem sz1 : 1 ≤ sizeLine := by decide
@[simp] theorem sz2 : 2 ≤ sizeLine := by decide
@[simp] theorem sz3 : 3 ≤ sizeLine := by decide
@[simp] theorem sz4 : 4 ≤ sizeLine := by decide
@[simp] theorem sz5 : 5 ≤ sizeLine := by decide
@[simp] theorem sz6 : 6 ≤ sizeLine := by decide
@[simp] theorem sz7 : 7 ≤ sizeLine := by decide
@[simp] theorem sz8 : 8 ≤ sizeLine := by decide
/-! ## comprehensions -/
@[simp, reducible] def lcStep (vs : List Nat) (fg : TV → DS → Option DS) (ft : DS → R (Bool × DS)) (fe : DS → R (D × DS)) (d : D) (Δ : DS) : Option (D × DS) :=
  (fg (.sh d) Δ).bind fun Δ1 => (ft Δ1).opt.bind fun p => match p.1 with
    | true => (fe p.2).opt.bind fun q => some (q.1, (wipeG q.2.1 vs, q.2.2))
    | false => none
theorem lcF_cons {vs : List Nat} {fg : TV → DS → Option DS} {ft : DS → R (Bool × DS)} {fe : DS → R (D × DS)} {d r : D} {ds : List D} {Δ Δ' : DS} (h : lcStep vs fg ft fe d Δ = some (r, Δ')) :
    lcF vs fg ft fe (d :: ds) Δ = (lcF vs fg ft fe ds Δ').bind fun z => some (r :: z.1, z.2) := by
  obtain ⟨Δ1, e1, h⟩ := bind_some h
  obtain ⟨⟨b, Δ2⟩, e2, h⟩ := bind_some h
  show ((fg (.sh d) Δ).bind fun Δ1 => (ft Δ1).opt.bind fun p => match p.1 with
    | true => (fe p.2).opt.bind fun q => (lcF vs fg ft fe ds (wipeG q.2.1 vs, q.2.2)).bind fun r => some (q.1 :: r.1, r.2)
    | false => lcF vs fg ft fe ds (wipeG p.2.1 vs, p.2.2)) = _
  rw [e1, Option.bind_some, e2, Option.bind_some]
  cases b with
  | true =>
    obtain ⟨q, e3, h⟩ := bind_some h
    cases h
    show (fe Δ2).opt.bind _ = _
    have e3 : (fe Δ2).opt = some q := e3
    rw [e3, Option.bind_some]
  | false => cases h
/-- one that changes nothing -/
theorem lcF_map {vs : List Nat} {fg : TV → DS → Option DS} {ft : DS → R (Bool × DS)} {fe : DS → R (D × DS)} (g : D → D) {Δ : DS} : ∀ (ds : List D), (∀ d ∈ ds, lcStep vs fg ft fe d Δ = some (g d, Δ)) → lcF vs fg ft fe ds Δ = some (ds.map g, Δ)
  | [], _ => rfl
  | d :: ds, h => by
    rw [lcF_cons (h d List.mem_cons_self), lcF_map g ds fun x hx => h x (List.mem_cons_of_mem _ hx)]
    rfl
/-! ## how many draws are left -/
def Bud (k : Nat) (st : Strm) : Prop := StOk st ∧ st.cnt + (k : Int) < 1099511627776
theorem Bud.le {k j : Nat} {st : Strm} (h : Bud k st) (l : j ≤ k) : Bud j st := ⟨h.1, by have := h.2; omega⟩
/-- one that draws -/
theorem lcF_st {vs : List Nat} {fg : TV → DS → Option DS} {ft : DS → R (Bool × DS)} {fe : DS → R (D × DS)} (P : D → D → Prop) {g : Sl} (c k : Nat) : ∀ (ds : List D) (st : Strm), (∀ d ∈ ds, ∀ j st, Bud (c + j) st → ∃ r st', lcStep vs fg ft fe d (g, st) = some (r, (g, st')) ∧ P d r ∧ Bud j st') → Bud (ds.length * c + k) st →
    ∃ rs st', lcF vs fg ft fe ds (g, st) = some (rs, (g, st')) ∧ rs.length = ds.length ∧ (∀ r ∈ rs, ∃ d ∈ ds, P d r) ∧ Bud k st'
  | [], st, _, hb => ⟨[], st, rfl, rfl, (fun r h => by cases h), hb.le (by omega)⟩
  | d :: ds, st, h, hb => by
    obtain ⟨r, st1, e1, p1, b1⟩ := h d List.mem_cons_self (ds.length * c + k) st (hb.le (by rw [List.length_cons, Nat.succ_mul]; omega))
    obtain ⟨rs, st2, e2, l2, p2, b2⟩ := lcF_st P c k ds st1 (fun x hx => h x (List.mem_cons_of_mem _ hx)) b1
    refine ⟨r :: rs, st2, ?_, by simp [l2], ?_, b2⟩
    · rw [lcF_cons e1, e2]; rfl
    · intro z hz
      rcases List.mem_cons.mp hz with rfl | hz
      · exact ⟨d, List.mem_cons_self, p1⟩
      · obtain ⟨x, hx, px⟩ := p2 z hz
        exact ⟨x, List.mem_cons_of_mem _ hx, px⟩
theorem below_bud {many : Int} {k : Nat} {st : Strm} (h0 : 0 < many) (h1 : many < 1073741824) (hb : Bud (1 + k) st) : ∃ i st', F__law_below [.int many] st = .ok (.int i, st') ∧ 0 ≤ i ∧ i < many ∧ Bud k st' := by
  obtain ⟨r1, r2⟩ := below_rng (st := st) h0
  have c := hb.2
  refine ⟨_, _, ?_, r1, r2, below_stok h0 hb.1 (by omega), by rw [below_cnt]; omega⟩
  show (if chk (StOk st ∧ 0 < many ∧ many < 1073741824) = true then R.ok (D.int (belowI many st).1, (belowI many st).2) else R.bad) = _
  rw [if_pos (chk_pos ⟨hb.1, h0, h1⟩)]
/-! ## texts of bits -/
def bc (b : Bool) : Nat := if b then 49 else 48
def bitT (bs : List Bool) : Str := ⟨(bs.map bc).toArray⟩
@[simp] theorem bitT_len (bs : List Bool) : (bitT bs).length = bs.length := by simp [bitT, Str.length]
@[simp] theorem bitT_list (bs : List Bool) : (bitT bs).cps.toList = bs.map bc := by simp [bitT]
theorem bitT_app (a b : List Bool) : bitT a ++ bitT b = bitT (a ++ b) := by
  show (⟨(bitT a).cps ++ (bitT b).cps⟩ : Str) = _
  simp [bitT]
theorem bitT_rep (a : List Bool) (n : Nat) : repS (bitT a) n = bitT (List.replicate n a).flatten := by
  show (⟨(List.replicate n (bitT a).cps.toList).flatten.toArray⟩ : Str) = _
  rw [bitT_list]
  simp [bitT, List.map_flatten]
theorem bitT_cut (a : List Bool) (lo hi : Option Int) : cutS (bitT a) lo hi = bitT (cutD a lo hi) := by
  unfold cutS
  rw [bitT_list, bitT_len]
  simp [bitT, DL.cutD, List.map_take, List.map_drop]
theorem str_0 : ("0" : Str) = bitT [false] := rfl
theorem str_1 : ("1" : Str) = bitT [true] := rfl
theorem str_e : ("" : Str) = bitT [] := rfl
def dB (bs : List Bool) : List D := bs.map fun b => .str (bitT [b])
@[simp] theorem bitT_iter (bs : List Bool) : D.iter (.str (bitT bs)) = some (dB bs) := by
  show some ((bitT bs).cps.toList.map fun c => D.str ⟨#[c]⟩) = _
  rw [bitT_list, List.map_map]
  rfl
theorem str_ext {a b : Str} (h : a.cps.toList = b.cps.toList) : a = b := by
  cases a with
  | mk x => cases b with
    | mk y => exact congrArg Str.mk (Array.toList_inj.mp h)
theorem join_list : ∀ ys : List Str, (Str.join (bitT []) ys).cps.toList = (ys.map fun y => y.cps.toList).flatten
  | [] => rfl
  | [x] => by simp [Str.join]
  | x :: y :: rest => by
    show ((x ++ bitT []) ++ Str.join (bitT []) (y :: rest)).cps.toList = _
    rw [show (x ++ bitT []) ++ Str.join (bitT []) (y :: rest) = (⟨x.cps ++ (bitT []).cps ++ (Str.join (bitT []) (y :: rest)).cps⟩ : Str) from rfl]
    have := join_list (y :: rest)
    simp [bitT] at this ⊢
    exact this
theorem bitT_join (bs : List Bool) : Txt.join (bitT []) (bs.map fun b => bitT [b]) = bitT bs := by
  rw [show Txt.join (bitT []) (bs.map fun b => bitT [b]) = Builtin.Str.glued (bitT []) (bs.map fun b => bitT [b]) from rfl, PySem.StrLaws.glued_eq_join]
  apply str_ext
  rw [join_list, bitT_list, List.map_map]
  induction bs with
  | nil => rfl
  | cons b bs ih => rw [List.map_cons, List.flatten_cons, ih]; simp [bitT]
theorem strs_dB (bs : List Bool) : D.strs (dB bs) = some (bs.map fun b => bitT [b]) := by
  have := strs_map (bs.map fun b => bitT [b])
  rw [List.map_map] at this
  exact this
@[simp] theorem dB_len (bs : List Bool) : (dB bs).length = bs.length := List.length_map ..
@[simp] theorem dB_app (a b : List Bool) : dB a ++ dB b = dB (a ++ b) := List.map_append.symm
@[simp] theorem dB_take (k : Nat) (a : List Bool) : (dB a).take k = dB (a.take k) := List.map_take.symm
@[simp] theorem dB_drop (k : Nat) (a : List Bool) : (dB a).drop k = dB (a.drop k) := List.map_drop.symm
theorem sum_ones (bs : List Bool) : ((bs.map fun b => bitT [b]).map (·.length)).sum = bs.length := by
  induction bs with
  | nil => rfl
  | cons b bs ih => rw [List.map_cons, List.map_cons, List.sum_cons, ih, List.length_cons, bitT_len]; simp; omega
theorem join_ok (bs : List Bool) (h : bs.length ≤ 16000000) : gJoin (.str (bitT [])) [.lst (dB bs)] = some (.sh (.str (bitT bs))) := by
  unfold gJoin
  show ((D.strs (dB bs)).bind fun ys => if (ys.map (·.length)).sum + ys.length * (bitT []).length ≤ 16777216 then some (TV.sh (.str (Txt.join (bitT []) ys))) else none) = _
  rw [strs_dB, Option.bind_some, sum_ones, bitT_join, if_pos (by simp; omega)]
theorem all_dB : ∀ rs : List D, (∀ r ∈ rs, ∃ b, r = .str (bitT [b])) → ∃ bs, rs = dB bs ∧ bs.length = rs.length
  | [], _ => ⟨[], rfl, rfl⟩
  | r :: rs, h => by
    obtain ⟨b, rfl⟩ := h r List.mem_cons_self
    obtain ⟨bs, e, l⟩ := all_dB rs fun x hx => h x (List.mem_cons_of_mem _ hx)
    exact ⟨b :: bs, by rw [e]; rfl, by simp [l]⟩
theorem dB_mem {bs : List Bool} {d : D} (h : d ∈ dB bs) : ∃ b, b ∈ bs ∧ d = .str (bitT [b]) := by
  obtain ⟨i, h1, h2⟩ := List.mem_map.mp h
  exact ⟨i, h1, h2.symm⟩
theorem all_dI : ∀ rs : List D, (∀ r ∈ rs, ∃ b, r = .int b) → ∃ bs, rs = dI bs ∧ bs.length = rs.length
  | [], _ => ⟨[], rfl, rfl⟩
  | r :: rs, h => by
    obtain ⟨b, rfl⟩ := h r List.mem_cons_self
    obtain ⟨bs, e, l⟩ := all_dI rs fun x hx => h x (List.mem_cons_of_mem _ hx)
    exact ⟨b :: bs, by rw [e]; rfl, by simp [l]⟩
theorem cut_to {α : Type} (l : List α) (n : Nat) (h : n ≤ l.length) : DL.cutD l none (some (n : Nat)) = l.take n := by
  unfold DL.cutD
  rw [HT.sIx_nat, HT.sIx_none, Nat.min_eq_left h]
  simp
theorem cut_from {α : Type} (l : List α) (n : Nat) (h : n ≤ l.length) : DL.cutD l (some (n : Nat)) none = l.drop n := by
  unfold DL.cutD
  rw [HT.sIx_nat, HT.sIx_none, Nat.min_eq_left h]
  apply List.take_of_length_le
  simp
theorem cut5 {α : Type} (a b c d e : α) (l : List α) : DL.cutD (a :: b :: c :: d :: e :: l) none (some 5) = [a, b, c, d, e] := cut_to (a :: b :: c :: d :: e :: l) 5 (by simp)
theorem cut5' {α : Type} (a b c d e : α) (l : List α) : DL.cutD (a :: b :: c :: d :: e :: l) (some 5) none = l := cut_from (a :: b :: c :: d :: e :: l) 5 (by simp)
theorem cut3 {α : Type} (a b c : α) (l : List α) : DL.cutD (a :: b :: c :: l) none (some 3) = [a, b, c] := cut_to (a :: b :: c :: l) 3 (by simp)
@[simp, reducible] def lc2Step (vs vs1 : List Nat) (fg : TV → DS → Option DS) (ft : DS → R (Bool × DS)) (fi1 : DS → R (List D × DS)) (fg1 : TV → DS → Option DS) (ft1 : DS → R (Bool × DS)) (fe : DS → R (D × DS)) (d : D) (Δ : DS) : Option (List D × DS) :=
  (fg (.sh d) Δ).bind fun Δ1 => (ft Δ1).opt.bind fun p => match p.1 with
    | true => (fi1 p.2).opt.bind fun q => (lcF vs1 fg1 ft1 fe q.1 (wipeG q.2.1 vs1, q.2.2)).bind fun r => some (r.1, (wipeG r.2.1 vs, r.2.2))
    | false => none
theorem lc2F_cons {vs vs1 : List Nat} {fg : TV → DS → Option DS} {ft : DS → R (Bool × DS)} {fi1 : DS → R (List D × DS)} {fg1 : TV → DS → Option DS} {ft1 : DS → R (Bool × DS)} {fe : DS → R (D × DS)} {d : D} {r : List D} {ds : List D} {Δ Δ' : DS} (h : lc2Step vs vs1 fg ft fi1 fg1 ft1 fe d Δ = some (r, Δ')) :
    lc2F vs vs1 fg ft fi1 fg1 ft1 fe (d :: ds) Δ = (lc2F vs vs1 fg ft fi1 fg1 ft1 fe ds Δ').bind fun z => some (r ++ z.1, z.2) := by
  obtain ⟨Δ1, e1, h⟩ := bind_some h
  obtain ⟨⟨b, Δ2⟩, e2, h⟩ := bind_some h
  show ((fg (.sh d) Δ).bind fun Δ1 => (ft Δ1).opt.bind fun p => match p.1 with
    | true => (fi1 p.2).opt.bind fun q => (lcF vs1 fg1 ft1 fe q.1 (wipeG q.2.1 vs1, q.2.2)).bind fun r => (lc2F vs vs1 fg ft fi1 fg1 ft1 fe ds (wipeG r.2.1 vs, r.2.2)).bind fun z => some (r.1 ++ z.1, z.2)
    | false => lc2F vs vs1 fg ft fi1 fg1 ft1 fe ds (wipeG p.2.1 vs, p.2.2)) = _
  rw [e1, Option.bind_some, e2, Option.bind_some]
  cases b with
  | true =>
    obtain ⟨q, e3, h⟩ := bind_some h
    obtain ⟨q2, e4, h⟩ := bind_some h
    cases h
    show (fi1 Δ2).opt.bind _ = _
    have e3 : (fi1 Δ2).opt = some q := e3
    rw [e3, Option.bind_some, e4, Option.bind_some]
  | false => cases h
theorem lc2F_map {vs vs1 : List Nat} {fg : TV → DS → Option DS} {ft : DS → R (Bool × DS)} {fi1 : DS → R (List D × DS)} {fg1 : TV → DS → Option DS} {ft1 : DS → R (Bool × DS)} {fe : DS → R (D × DS)} (g : D → List D) {Δ : DS} : ∀ (ds : List D), (∀ d ∈ ds, lc2Step vs vs1 fg ft fi1 fg1 ft1 fe d Δ = some (g d, Δ)) → lc2F vs vs1 fg ft fi1 fg1 ft1 fe ds Δ = some (ds.flatMap g, Δ)
  | [], _ => rfl
  | d :: ds, h => by
    rw [lc2F_cons (h d List.mem_cons_self), lc2F_map g ds fun x hx => h x (List.mem_cons_of_mem _ hx)]
    rfl
@[simp] theorem dI_cut (a : List Int) (lo hi : Option Int) : DL.cutD (dI a) lo hi = dI (DL.cutD a lo hi) := by
  simp [dI, DL.cutD, List.map_take, List.map_drop]
@[simp] theorem dB_cut (a : List Bool) (lo hi : Option Int) : DL.cutD (dB a) lo hi = dB (DL.cutD a lo hi) := by
  simp [dB, DL.cutD, List.map_take, List.map_drop]
theorem dI_emp (l : List Int) : (dI l).isEmpty = l.isEmpty := by cases l <;> rfl
end DL
namespace KLaw
open PySem PySem.Spec PyProof.Rows L2 DL
/-! ## the text -/
def topS (i : Nat) : Stmt := PySem.Challenge.pw_neverhalf_k01_whole_sums_of_long_lists.main.body.getD i (.Pass ⟨0, 0, 0, 0⟩)
structure Txt (g : G) : Prop where
  n_all : g.mg "all" = none
  n_bool : g.mg "bool" = none
  n_dict : g.mg "dict" = none
  n_enumerate : g.mg "enumerate" = none
  n_int : g.mg "int" = none
  n_isinstance : g.mg "isinstance" = none
  n_len : g.mg "len" = none
  n_list : g.mg "list" = none
  n_min : g.mg "min" = none
  n_range : g.mg "range" = none
  n_str : g.mg "str" = none
  n_sum : g.mg "sum" = none
  n_tuple : g.mg "tuple" = none
  n_zip : g.mg "zip" = none
section
variable {g : G}
/-! ### the stream's own defs, by hand -/
abbrev s__law_start : Stmt := topS 32
abbrev s__law_below : Stmt := topS 33
theorem sc__law_start : FnScope ["script"] ["script"] (defScope s__law_start) := ⟨rfl, rfl, rfl, by decide +kernel, rfl, by decide +kernel, by decide +kernel⟩
abbrev N__law_below : List Str := ["stream", "many", "cell", "digit", "mixed"]
theorem sc__law_below : FnScope N__law_below ["stream", "many"] (defScope s__law_below) := ⟨rfl, rfl, rfl, by decide +kernel, rfl, by decide +kernel, by decide +kernel⟩
def spStart (K : PySem.W.Frag) : Sp := fun vs H Q _ => ∃ (a : Addr) (ns : List Int), vs = [.ref a] ∧ SqL K H a (ns.map V.int) ∧ ∀ (p q : Addr) (H' : Hp), Same H H' → H p = none → H q = none → StAt H' p q ⟨ns, 0, 0, 53⟩ → Q (.ref p) H'
theorem ok__law_start {f : Addr} {fd : FuncData} (T : Txt g) (F : Fun g.K "_law_start" "_law_start" s__law_start f fd) (hb : Binds g.K fd ["script"] []) : FnOk g.P g.w g.K g.mg g.base (L2.CX g.P g.w) 1 f fd ["script"] (spStart g.K) := by
  refine F.okX sc__law_start (fun vs H Q E h => ?_) (fun cdv A outer s H vs Q E hr h => ?_)
  · obtain ⟨a, ns, rfl, _⟩ := h
    rfl
  · obtain ⟨a, ns, rfl, hS, k⟩ := h
    refine ⟨_, pss_one (ps_ret (pe_lst (pa_cons (pe_callTy call_list_of (by rfl) T.n_list (by decide +kernel) (pa_cons (pv 0) pa_nil)) (pa_cons pe_int (pa_cons pe_int (pa_cons pe_int pa_nil)))))), ?_⟩
    refine ⟨_, rfl, a, _, rfl, .inl hS, fun q nq => ⟨by show 4 ≤ sizeLine; decide, fun p np => ?_⟩⟩
    have npq : p ≠ q := fun e => by
      rw [e, upd_same] at np
      cases np
    have hp0 : H p = Option.none := by
      rw [upd_ne npq] at np
      exact np
    exact k p q _ ((same_new nq).trans (same_new np)) hp0 nq ⟨upd_same, by rw [upd_ne npq.symm, upd_same], npq⟩
theorem ok__law_below {f : Addr} {fd : FuncData} (T : Txt g) (F : Fun g.K "_law_below" "_law_below" s__law_below f fd) (hm : g.mg "_law_below" = some (.ref f)) (hb : Binds g.K fd ["stream", "many"] []) : OkS g 1 1 "_law_below" F__law_below := by
  refine ok_S (ps := ["stream", "many"]) (F.okX sc__law_below (fun vs H Q E h => h.1) fun cdv A outer s H vs Q E hr h => ?_) rfl hm F.kp hb
  obtain ⟨_, p, q, vs', S, prot, ds, st, rfl, fo, rv, w⟩ := h
  obtain ⟨many, hmany, rfl⟩ := below_arg w
  obtain ⟨hst, w⟩ := below_ok hmany w
  have ev : vs' = [.int many] := by
    cases rv with
    | cons h1 h2 => cases h1; cases h2; rfl
  subst ev
  obtain ⟨⟨e1, e2, npq⟩, nSp, nSq, nPp, nPq⟩ := fo.stm p q rfl
  refine ⟨_, pss_cons (ps_asg (pe_op op_add (pe_ix ix_list (pv 0) pe_int (fun _ _ => rfl)) pe_int) (pg_sub (pv 0) pe_int set_list))
    (pss_cons (ps_while own_cx
        (PW.pt (pw_and (pt_cmpR op_eq (pe_ix ix_list (pv 0) pe_int (fun _ _ => rfl)) pe_int (nomark _)) (pw_and1 (pt_cmpR (op_neD hr.units) (pe_ix ix_list (pv 0) pe_int (fun _ _ => rfl)) (pe_lst pa_nil) (nomark _)))))
        (pss_cons (ps_set (i := 2) sc__law_below.nd rfl (Or.inl rfl) (pe_bm PySem.F.plainAttrs_list PySem.F.slot_list_pop PySem.F.type_list_pop mt_popAt (pe_ix ix_list (pv 0) pe_int (fun _ _ => rfl)) (pa_cons pe_int pa_nil)))
          (pss_cons (ps_asg (pe_op op_mod (pe_callTy call_int1 (by rfl) T.n_int (by decide +kernel) (pa_cons (pe_op op_add (pe_op op_add (pe_op op_mul (pe_ix ix_list (pv 0) pe_int (fun _ _ => rfl)) pe_int) (pv 2)) pe_int) pa_nil)) pe_int) (pg_sub (pv 0) pe_int set_list))
          (pss_one (ps_asg (pe_ifExp (pt_cmpR op_ge (pv 2) (pe_op op_pow pe_int pe_int) (nomark _)) (pv 2) pe_int) (pg_sub (pv 0) pe_int set_list))))))
    (pss_cons (ps_if (pt_cmpR op_gt (pe_ix ix_list (pv 0) pe_int (fun _ _ => rfl)) pe_int (nomark _))
        (pss_cons (ps_set (i := 3) sc__law_below.nd rfl (Or.inl rfl) (pe_op op_mod (pe_callTy call_int1 (by rfl) T.n_int (by decide +kernel) (pa_cons (pe_ix ix_list (pv 0) pe_int (fun _ _ => rfl)) pa_nil)) (pv 1)))
          (pss_cons (ps_asg (pe_op op_fdiv (pe_ix ix_list (pv 0) pe_int (fun _ _ => rfl)) (pv 1)) (pg_sub (pv 0) pe_int set_list)) (pss_one (ps_ret (pv 3))))) pss_nil)
    (pss_cons (ps_set (i := 4) sc__law_below.nd rfl (Or.inl rfl) (pe_op op_mod (pe_callTy call_int1 (by rfl) T.n_int (by decide +kernel) (pa_cons (pe_op op_pow (pe_op op_add (pe_op op_add (pe_ix ix_list (pv 0) pe_int (fun _ _ => rfl)) (pe_op op_mul pe_int (pe_ix ix_list (pv 0) pe_int (fun _ _ => rfl)))) pe_int) pe_int) pa_nil)) pe_int))
    (pss_one (ps_ret (pe_op op_mod (pe_op op_mod (pe_callTy call_int1 (by rfl) T.n_int (by decide +kernel) (pa_cons (pe_op op_pow (pe_op op_add (pe_op op_add (pe_op op_mul (pv 4) pe_int) (pe_op op_mul pe_int (pe_ix ix_list (pv 0) pe_int (fun _ _ => rfl)))) pe_int) pe_int) pa_nil)) pe_int) (pv 1))))))), ?_⟩
  have hin : ∀ b o, H b = some o → b ≠ p → b ≠ q → ∀ o', upd H p o' b = some o := fun b o e n1 n2 o' => by rw [upd_ne n1]; exact e
  -- stream[2] = stream[2] + 1
  refine ⟨_, rfl, p, _, 2, _, rfl, rfl, SqL.of e1, rfl, _, _, rfl, rfl, _, rfl, p, _, 2, 2, rfl, rfl, e1, rfl, ?_⟩
  obtain ⟨i1, i2, i3⟩ := drain_ok st.cells st.left st.mix hst.left hst.mix0 hst.mix
  -- while
  let Wd : List Int → Int → Int → L2.St → Hp → Prop := fun cs l mx σ H' => ∃ v2 : Option V, σ = [some (.ref p), some (.int many), v2, Option.none, Option.none] ∧ H' p = some (.lst [.ref q, .int l, .int (st.cnt + 1), .int mx]) ∧ H' q = some (.lst (cs.map V.int)) ∧
    (∀ b o, H b = some o → b ≠ p → b ≠ q → H' b = some o) ∧ drain cs l mx = drain st.cells st.left st.mix
  refine while_mk (fun m σ H' => ∃ cs l mx, m = cs.length ∧ Wd cs l mx σ H') (fun σ H' => Wd (drained st).cells (drained st).left (drained st).mix σ H') ⟨_, st.cells, st.left, st.mix, rfl, Option.none, rfl, upd_same, by rw [upd_ne npq.symm]; exact e2, fun b o e n1 n2 => hin b o e n1 n2 _, rfl⟩ ?_ ?_
  · rintro nx hnx m σ H1 ⟨cs, l, mx, rfl, v2, rfl, hp, hq, keep, hd⟩
    have out : ∀ H2 : Hp, (∀ b o, H1 b = some o → H2 b = some o) → drain cs l mx = (cs, l, mx) → nx [some (.ref p), some (.int many), v2, Option.none, Option.none] H2 := fun H2 k2 hdr => by
      have ed : (cs, l, mx) = drain st.cells st.left st.mix := hdr.symm.trans hd
      have d1 : (drained st).cells = cs := by show (drain st.cells st.left st.mix).1 = cs; rw [← ed]
      have d2 : (drained st).left = l := by show (drain st.cells st.left st.mix).2.1 = l; rw [← ed]
      have d3 : (drained st).mix = mx := by show (drain st.cells st.left st.mix).2.2 = mx; rw [← ed]
      refine hnx _ _ ?_
      rw [d1, d2, d3]
      exact ⟨v2, rfl, k2 _ _ hp, k2 _ _ hq, fun b o e n1 n2 => k2 _ _ (keep b o e n1 n2), hd⟩
    refine ⟨_, rfl, p, _, 1, _, rfl, rfl, SqL.of hp, rfl, rfl, _, rfl, ?_⟩
    by_cases hl : l = 0
    · subst hl
      refine iteT ⟨_, rfl, p, _, 0, _, rfl, rfl, SqL.of hp, rfl, Nat.zero_le _, fun a na => ?_⟩
      have nap : p ≠ a := ne_of_none hp na
      have naq : q ≠ a := ne_of_none hq na
      have hp2 := upd_ne (H := H1) (o := .lst []) nap
      have hq2 := upd_ne (H := H1) (o := .lst []) naq
      refine ⟨.list (cs.map PyData.int), .list [], .lst (SqL.of (hq2.trans hq)) (dp_ints cs), .lst (SqL.of upd_same) .nil, shaped_ints cs, by decide, _, rfl, ?_⟩
      rw [eqv_nil]
      cases cs with
      | nil => exact iteF (out _ (fun b o e => by rw [upd_ne (ne_of_none e na)]; exact e) rfl)
      | cons c cs =>
        refine iteT ⟨_, fun _ _ z => z, ?_⟩
        -- cell = stream[0].pop(0)
        refine ⟨_, rfl, p, _, 0, _, rfl, rfl, SqL.of (hp2.trans hp), rfl, .inl ⟨rfl, _, SqL.of (hq2.trans hq)⟩, q, _, 0, 0, _, rfl, rfl, hq2.trans hq, by decide, by decide, (ixN_seq (show ixN ((c :: cs).map V.int).length 0 = some 0 from by unfold ixN; rw [if_pos (by decide), if_pos (by simp)]; rfl)).1, rfl, ?_⟩
        -- stream[3] = int(stream[3] * 69031 + cell + 13) % 2147483647
        refine ⟨_, rfl, p, _, 3, _, rfl, rfl, SqL.of ((upd_ne npq).trans (hp2.trans hp)), rfl, _, _, rfl, rfl, .inr (by decide), _, rfl, _, _, rfl, rfl, _, _, rfl, rfl, .inl ⟨_, rfl, _, _, rfl, rfl, (by show (0 : Int) < 2147483647; decide), _, rfl, p, _, 3, 3, rfl, rfl, (upd_ne npq).trans (hp2.trans hp), rfl, ?_⟩⟩
        -- stream[1] = cell if cell >= 10 ** 18 else 0
        refine ⟨_, rfl, _, _, rfl, rfl, ⟨by decide, by decide, by decide⟩, _, _, rfl, rfl, _, rfl, ?_⟩
        have last : ∀ z : Int, z = (if (1000000000000000000 : Int) ≤ c then c else 0) → ∀ H3 : Hp, H3 p = some (.lst [.ref q, .int 0, .int (st.cnt + 1), .int ((mx * 69031 + c + 13) % 2147483647)]) → H3 q = some (.lst (cs.map V.int)) → (∀ b o, H b = some o → b ≠ p → b ≠ q → H3 b = some o) →
            ∃ m', m' < (c :: cs).length ∧ ∃ cs' l' mx', m' = cs'.length ∧ Wd cs' l' mx' [some (.ref p), some (.int many), some (.int c), Option.none, Option.none] (upd H3 p (.lst [.ref q, .int z, .int (st.cnt + 1), .int ((mx * 69031 + c + 13) % 2147483647)])) := fun z ez H3 h3p h3q k3 =>
          ⟨cs.length, Nat.lt_succ_self _, cs, z, _, rfl, some (.int c), rfl, upd_same, by rw [upd_ne npq.symm]; exact h3q, fun b o e n1 n2 => by rw [upd_ne n1]; exact k3 b o e n1 n2, by
            rw [← hd, ez]
            show drain cs _ _ = (if (0 : Int) = 0 then drain cs _ _ else _)
            rw [if_pos rfl]⟩
        have h3p : (upd (upd (upd H1 a (.lst [])) q (.lst (cs.map V.int))) p (.lst [.ref q, .int 0, .int (st.cnt + 1), .int ((mx * 69031 + c + 13) % 2147483647)])) p = some (.lst [.ref q, .int 0, .int (st.cnt + 1), .int ((mx * 69031 + c + 13) % 2147483647)]) := upd_same
        have h3q : (upd (upd (upd H1 a (.lst [])) q (.lst (cs.map V.int))) p (.lst [.ref q, .int 0, .int (st.cnt + 1), .int ((mx * 69031 + c + 13) % 2147483647)])) q = some (.lst (cs.map V.int)) := by rw [upd_ne npq.symm, upd_same]
        have k3 : ∀ b o, H b = some o → b ≠ p → b ≠ q → (upd (upd (upd H1 a (.lst [])) q (.lst (cs.map V.int))) p (.lst [.ref q, .int 0, .int (st.cnt + 1), .int ((mx * 69031 + c + 13) % 2147483647)])) b = some o := fun b o e n1 n2 => by
          rw [upd_ne n1, upd_ne n2, upd_ne (ne_of_none (keep b o e n1 n2) na)]
          exact keep b o e n1 n2
        by_cases hc : (1000000000000000000 : Int) ≤ c
        · rw [decide_eq_true (show (10 : Int) ^ (18 : Int).toNat ≤ c from hc)]
          exact iteT ⟨_, rfl, _, rfl, p, _, 1, 1, rfl, rfl, h3p, rfl, last c (by rw [if_pos hc]) _ h3p h3q k3⟩
        · rw [decide_eq_false (show ¬ (10 : Int) ^ (18 : Int).toNat ≤ c from hc)]
          exact iteF ⟨_, rfl, p, _, 1, 1, rfl, rfl, h3p, rfl, last 0 (by rw [if_neg hc]) _ h3p h3q k3⟩
    · rw [decide_eq_false (show ¬ V.int l = V.int 0 from fun z => hl (V.int.inj z))]
      exact iteF (out _ (fun b o e => e) (by cases cs with | nil => rfl | cons c cs => exact if_neg hl))
  · -- behind the loop
    rintro σ H1 ⟨v2, rfl, hp, hq, keep, _⟩
    have fin : ∀ (k : Int) (st' : Strm) (H3 : Hp), belowI many st = (k, st') → H3 p = some (.lst [.ref q, .int st'.left, .int st'.cnt, .int st'.mix]) → H3 q = some (.lst (st'.cells.map V.int)) → (∀ b o, H1 b = some o → b ≠ p → b ≠ q → H3 b = some o) → Q (.int k) H3 := fun k st' H3 hb hp3 hq3 keep3 => by
      rw [hb] at w
      have np : ∀ b o, S b = some o → b ≠ p ∧ b ≠ q := fun b o e => ⟨ne_of_none e nSp, ne_of_none e nSq⟩
      have np2 : ∀ b o, prot b = some o → b ≠ p ∧ b ≠ q := fun b o e => ⟨ne_of_none e nPp, ne_of_none e nPq⟩
      have keepS : ∀ b o, H b = some o → b ≠ p → b ≠ q → H3 b = some o := fun b o e n1 n2 => keep3 b o (keep b o e n1 n2) n1 n2
      exact w S H3 (.int k) (Grow.refl _ S) ⟨fun b o e => keepS b o (fo.sub b o e) (np b o e).1 (np b o e).2, fun b o e => keepS b o (fo.prt b o e) (np2 b o e).1 (np2 b o e).2, fun a c z => by
        cases z
        exact ⟨⟨hp3, hq3, npq⟩, nSp, nSq, nPp, nPq⟩⟩ (.int k)
    have i1' : 0 ≤ (drained st).left := i1
    have i2' : 0 ≤ (drained st).mix := i2
    have i3' : (drained st).mix < 2147483647 := i3
    have c0 := hst.cnt0
    have c1 := hst.cnt
    refine ⟨_, rfl, p, _, 1, _, rfl, rfl, SqL.of hp, rfl, _, _, rfl, rfl, _, rfl, ?_⟩
    by_cases hl : 0 < (drained st).left
    · rw [decide_eq_true hl]
      refine iteT ⟨_, rfl, p, _, 1, _, rfl, rfl, SqL.of hp, rfl, .inl ⟨_, rfl, _, rfl, _, _, rfl, rfl, hmany.1, ?_⟩⟩
      refine ⟨_, rfl, p, _, 1, _, rfl, rfl, SqL.of hp, rfl, _, rfl, _, _, rfl, rfl, hmany, _, rfl, p, _, 1, 1, rfl, rfl, hp, rfl, _, rfl, ?_⟩
      refine fin _ ⟨(drained st).cells, (drained st).left / many, (drained st).cnt, (drained st).mix⟩ _ ?_ upd_same (by rw [upd_ne npq.symm]; exact hq) fun b o e n1 n2 => by rw [upd_ne n1]; exact e
      unfold belowI
      dsimp only
      rw [if_pos hl]
    · rw [decide_eq_false hl]
      have b1 : ((drained st).mix + 9049 * (st.cnt + 1) + 130073).natAbs < 2 ^ 64 := by omega
      have m1 : (0 : Int) ≤ ((drained st).mix + 9049 * (st.cnt + 1) + 130073) ^ 5 % 2147483629 := Int.emod_nonneg _ (by decide)
      have m2 : ((drained st).mix + 9049 * (st.cnt + 1) + 130073) ^ 5 % 2147483629 < 2147483629 := Int.emod_lt_of_pos _ (by decide)
      refine iteF ⟨_, rfl, p, _, 3, _, rfl, rfl, SqL.of hp, rfl, _, rfl, p, _, 2, _, rfl, rfl, SqL.of hp, rfl, _, _, rfl, rfl, .inl ⟨by decide, by decide⟩, _, _, rfl, rfl, _, _, rfl, rfl, _, _, rfl, rfl, ⟨by decide, by decide, b1⟩, .inl ⟨_, rfl, _, _, rfl, rfl, (by show (0 : Int) < 2147483629; decide), ?_⟩⟩
      generalize hz : ((drained st).mix + 9049 * (st.cnt + 1) + 130073) ^ 5 % 2147483629 = z at m1 m2
      have hz' : ((drained st).mix + 9049 * (st.cnt + 1) + 130073) ^ (5 : Int).toNat % 2147483629 = z := hz
      show gName 4 (V.int (((drained st).mix + 9049 * (st.cnt + 1) + 130073) ^ (5 : Int).toNat % 2147483629)) _ _ _
      rw [hz']
      have b2 : (z * 44089 + 60077 * (st.cnt + 1) + 47).natAbs < 2 ^ 64 := by omega
      refine ⟨_, rfl, _, _, rfl, rfl, .inr ⟨by decide, by decide⟩, _, rfl, p, _, 2, _, rfl, rfl, SqL.of hp, rfl, _, _, rfl, rfl, .inl ⟨by decide, by decide⟩, _, _, rfl, rfl, _, _, rfl, rfl, _, _, rfl, rfl, ⟨by decide, by decide, b2⟩, .inl ⟨_, rfl, _, _, rfl, rfl, (by show (0 : Int) < 1000000007; decide), _, rfl, _, _, rfl, rfl, hmany.1, ?_⟩⟩
      refine fin _ (drained st) _ ?_ hp hq fun b o e n1 n2 => e
      unfold belowI
      dsimp only
      rw [if_neg hl, ← hz]
      rfl

/-! ### _law_vpow -/
abbrev s__law_vpow : Stmt := topS 39
abbrev N__law_vpow : List Str := ["many", "found", "step"]
theorem sc__law_vpow : FnScope N__law_vpow ["many"] (defScope s__law_vpow) := ⟨rfl, rfl, rfl, by decide +kernel, rfl, by decide +kernel, by decide +kernel⟩
def F__law_vpow : List D → R D := runP N__law_vpow
    (fSeq (fAsg (fSh (fC (.int 1))) (gSet 1))
    (fSeq (fFor (fRng D.rng1 (fCons (fVar 0) fNil)) (gSet 2)
    (fAsg (fBin gMul (fVar 1) (fC (.int 2))) (gSet 1)))
    (fRet (fVar 1))))
theorem ok__law_vpow {f : Addr} {fd : FuncData} (T : Txt g)  (F : Fun g.K "_law_vpow" "_law_vpow" s__law_vpow f fd) (hm : g.mg "_law_vpow" = some (.ref f)) (hb : Binds g.K fd ["many"] []) : OkP g 1 1 "_law_vpow" F__law_vpow :=
  ok_P (fn_P (k := 0) F sc__law_vpow fun cdv A outer s H E hr =>
    (dss_cons (ds_set (i := 1) sc__law_vpow.nd (DE.o de_int))
    (dss_cons (ds_for own_cx rfl (it_range1 (by rfl) T.n_range (da_cons (de_var 0) da_nil)) (dt_name sc__law_vpow.nd)
    (dss_one (ds_set (i := 1) sc__law_vpow.nd (do_bin od_mul (de_var 1) de_int))))
    (dss_one (ds_ret (de_var 1)))))) rfl hm F.kp hb
/-! ### _law_vsums -/
abbrev s__law_vsums : Stmt := topS 41
abbrev N__law_vsums : List Str := ["width", "words", "ones_v", "many", "at", "word"]
theorem sc__law_vsums : FnScope N__law_vsums ["width", "words"] (defScope s__law_vsums) := ⟨rfl, rfl, rfl, by decide +kernel, rfl, by decide +kernel, by decide +kernel⟩
def F__law_vsums : List D → R D := runP N__law_vsums
    (fSeq (fPar [2, 3] (fConsO (fBin gSub (fCallP 1 F__law_vpow (fCons (fVar 0) fNil)) (fC (.int 1))) (fConsO (fCall gLen (fCons (fVar 1) fNil)) fNilO)))
    (fRet (fTup (fCons (fFz (fBin gMod (fFz (fCall gSum (fCons (fVar 1) fNil))) (fVar 2))) (fCons (fFz (fBin gMod (fFz (fCall gSum (fCons (fFz (fLc [4, 5] (fRng D.enm (fCons (fVar 1) fNil)) (gTupD 2 (gConsD (gSet 4) (gConsD (gSet 5) gNilD))) fYes (fFz (fBin gMul (fFz (fBin gSub (fVar 3) (fVar 4))) (fVar 5))))) fNil))) (fVar 2))) fNil)))))
theorem ok__law_vsums {f : Addr} {fd : FuncData} (T : Txt g) (h__law_vpow : OkP g 1 1 "_law_vpow" F__law_vpow) (F : Fun g.K "_law_vsums" "_law_vsums" s__law_vsums f fd) (hm : g.mg "_law_vsums" = some (.ref f)) (hb : Binds g.K fd ["width", "words"] []) : OkP g 2 2 "_law_vsums" F__law_vsums :=
  ok_P (fn_P (k := 1) F sc__law_vsums fun cdv A outer s H E hr =>
    (dss_cons (ds_parN rfl (.cons sc__law_vsums.nd (.cons sc__law_vsums.nd .nil)) (dao_cons (do_bin od_sub (de_callP h__law_vpow ⟨rfl, rfl, rfl, rfl, rfl⟩ hr (by decide) (by rfl) pass_cx (da_cons (de_var 0) da_nil)) de_int) (dao_cons (do_callB cd_len (by rfl) T.n_len (by decide +kernel) (da_cons (de_var 1) da_nil)) dao_nil)))
    (dss_one (ds_ret (de_tup (da_cons (DO.fz (do_bin od_mod (DO.fz (do_callB (cd_sum rfl) (by rfl) T.n_sum (by decide +kernel) (da_cons (de_var 1) da_nil))) (de_var 2))) (da_cons (DO.fz (do_bin od_mod (DO.fz (do_callB (cd_sum rfl) (by rfl) T.n_sum (by decide +kernel) (da_cons (DO.fz (do_lc (own := [("at", 4), ("word", 5)]) rfl sc__law_vsums.nd (it_enum (by rfl) T.n_enumerate (da_cons (de_var 1) da_nil)) (blkOk_by (own := [("at", 4), ("word", 5)]) (N := N__law_vsums) (sc := defScope s__law_vsums) (by decide +kernel)) (by decide) (fun _ _ _ _ _ => (dt_tup rfl (dtgs_cons (dt_name sc__law_vsums.nd) (dtgs_cons (dt_name sc__law_vsums.nd) dtgs_nil)))) (fun _ _ _ _ _ => dts_nil) (fun _ _ _ _ _ => (DO.fz (do_bin od_mul (DO.fz (do_bin od_sub (de_var 3) (de_var 4))) (de_var 5)))))) da_nil))) (de_var 2))) da_nil))))))) rfl hm F.kp hb
/-! ### is_whole -/
abbrev s_is_whole : Stmt := topS 2
abbrev N_is_whole : List Str := ["thing"]
theorem sc_is_whole : FnScope N_is_whole ["thing"] (defScope s_is_whole) := ⟨rfl, rfl, rfl, by decide +kernel, rfl, by decide +kernel, by decide +kernel⟩
def F_is_whole : List D → R D := runP N_is_whole
    (fRet (fAndV (fIsi ["int"] (fVar 0)) (fNotV (fIsi ["bool"] (fVar 0)))))
theorem ok_is_whole {f : Addr} {fd : FuncData} (T : Txt g)  (F : Fun g.K "is_whole" "is_whole" s_is_whole f fd) (hm : g.mg "is_whole" = some (.ref f)) (hb : Binds g.K fd ["thing"] []) : OkP g 1 1 "is_whole" F_is_whole :=
  ok_P (fn_P (k := 0) F sc_is_whole fun cdv A outer s H E hr =>
    (dss_one (ds_ret (de_and (de_isi (by rfl) T.n_isinstance (de_var 0) (ty_n (by rfl) T.n_int (by decide +kernel))) (de_one (de_not (de_isi (by rfl) T.n_isinstance (de_var 0) (ty_n (by rfl) T.n_bool (by decide +kernel))))))))) rfl hm F.kp hb
/-! ### need_width -/
abbrev s_need_width : Stmt := topS 14
abbrev N_need_width : List Str := ["width"]
theorem sc_need_width : FnScope N_need_width ["width"] (defScope s_need_width) := ⟨rfl, rfl, rfl, by decide +kernel, rfl, by decide +kernel, by decide +kernel⟩
def F_need_width : List D → R D := runP N_need_width
    (fSeq (fIf (fOr (fNot (fTru (fCallP 1 F_is_whole (fCons (fVar 0) fNil)))) (fNot (fChain gLe gLe (fC (.int 4)) (fVar 0) (fC (.int 16))))) fNever fNext)
    (fRet (fVar 0)))
theorem ok_need_width {f : Addr} {fd : FuncData} (T : Txt g) (h_is_whole : OkP g 1 1 "is_whole" F_is_whole) (F : Fun g.K "need_width" "need_width" s_need_width f fd) (hm : g.mg "need_width" = some (.ref f)) (hb : Binds g.K fd ["width"] []) : OkP g 2 1 "need_width" F_need_width :=
  ok_P (fn_P (k := 1) F sc_need_width fun cdv A outer s H E hr =>
    (dss_cons (ds_if (DW.t (dw_or (dt_not (dt_tru (de_callP h_is_whole ⟨rfl, rfl, rfl, rfl, rfl⟩ hr (by decide) (by rfl) pass_cx (da_cons (de_var 0) da_nil)))) (dw_or1 (dt_not (dt_chain od_le od_le de_int (de_var 0) de_int))))) (dss_one ds_never) dss_nil)
    (dss_one (ds_ret (de_var 0))))) rfl hm F.kp hb
/-! ### ones -/
abbrev s_ones : Stmt := topS 15
abbrev N_ones : List Str := ["width"]
theorem sc_ones : FnScope N_ones ["width"] (defScope s_ones) := ⟨rfl, rfl, rfl, by decide +kernel, rfl, by decide +kernel, by decide +kernel⟩
def F_ones : List D → R D := runP N_ones
    (fRet (fFz (fBin gSub (fFz (fBin gShl (fC (.int 1)) (fVar 0))) (fC (.int 1)))))
theorem ok_ones {f : Addr} {fd : FuncData} (T : Txt g)  (F : Fun g.K "ones" "ones" s_ones f fd) (hm : g.mg "ones" = some (.ref f)) (hb : Binds g.K fd ["width"] []) : OkP g 1 1 "ones" F_ones :=
  ok_P (fn_P (k := 0) F sc_ones fun cdv A outer s H E hr =>
    (dss_one (ds_ret (DO.fz (do_bin od_sub (DO.fz (do_bin od_shl de_int (de_var 0))) de_int))))) rfl hm F.kp hb
/-! ### sums_by -/
abbrev s_sums_by : Stmt := topS 18
abbrev N_sums_by : List Str := ["width", "words", "first", "second", "most", "word"]
theorem sc_sums_by : FnScope N_sums_by ["width", "words"] (defScope s_sums_by) := ⟨rfl, rfl, rfl, by decide +kernel, rfl, by decide +kernel, by decide +kernel⟩
def F_sums_by : List D → R D := runP N_sums_by
    (fSeq (fPar [2, 3, 4] (fConsO (fSh (fC (.int 0))) (fConsO (fSh (fC (.int 0))) (fConsO (fSh (fCallP 1 F_ones (fCons (fVar 0) fNil))) fNilO))))
    (fSeq (fFor (fIter (fVar 1)) (gSet 5)
    (fSeq (fAsg (fBin gMod (fFz (fBin gAdd (fVar 2) (fVar 5))) (fVar 4)) (gSet 2))
    (fAsg (fBin gMod (fFz (fBin gAdd (fVar 3) (fVar 2))) (fVar 4)) (gSet 3))))
    (fRet (fTup (fCons (fVar 2) (fCons (fVar 3) fNil))))))
theorem ok_sums_by {f : Addr} {fd : FuncData} (T : Txt g) (h_ones : OkP g 1 1 "ones" F_ones) (F : Fun g.K "sums_by" "sums_by" s_sums_by f fd) (hm : g.mg "sums_by" = some (.ref f)) (hb : Binds g.K fd ["width", "words"] []) : OkP g 2 2 "sums_by" F_sums_by :=
  ok_P (fn_P (k := 1) F sc_sums_by fun cdv A outer s H E hr =>
    (dss_cons (ds_par3 rfl sc_sums_by.nd rfl rfl rfl (by decide) (by decide) (by decide) rfl rfl rfl (dao_cons (DE.o de_int) (dao_cons (DE.o de_int) (dao_cons (DE.o (de_callP h_ones ⟨rfl, rfl, rfl, rfl, rfl⟩ hr (by decide) (by rfl) pass_cx (da_cons (de_var 0) da_nil))) dao_nil))) rfl)
    (dss_cons (ds_for own_cx rfl (it_any (de_var 1)) (dt_name sc_sums_by.nd)
    (dss_cons (ds_set (i := 2) sc_sums_by.nd (do_bin od_mod (DO.fz (do_bin od_add (de_var 2) (de_var 5))) (de_var 4)))
    (dss_one (ds_set (i := 3) sc_sums_by.nd (do_bin od_mod (DO.fz (do_bin od_add (de_var 3) (de_var 2))) (de_var 4))))))
    (dss_one (ds_ret (de_tup (da_cons (de_var 2) (da_cons (de_var 3) da_nil)))))))) rfl hm F.kp hb
/-! ### is_list -/
abbrev s_is_list : Stmt := topS 1
abbrev N_is_list : List Str := ["thing"]
theorem sc_is_list : FnScope N_is_list ["thing"] (defScope s_is_list) := ⟨rfl, rfl, rfl, by decide +kernel, rfl, by decide +kernel, by decide +kernel⟩
def F_is_list : List D → R D := runP N_is_list
    (fRet (fIsi ["list", "tuple"] (fVar 0)))
theorem ok_is_list {f : Addr} {fd : FuncData} (T : Txt g)  (F : Fun g.K "is_list" "is_list" s_is_list f fd) (hm : g.mg "is_list" = some (.ref f)) (hb : Binds g.K fd ["thing"] []) : OkP g 1 1 "is_list" F_is_list :=
  ok_P (fn_P (k := 0) F sc_is_list fun cdv A outer s H E hr =>
    (dss_one (ds_ret (de_isiT (by rfl) T.n_isinstance (de_var 0) (.cons (ty_n (by rfl) T.n_list (by decide +kernel)) (.cons (ty_n (by rfl) T.n_tuple (by decide +kernel)) .nil)))))) rfl hm F.kp hb
/-! ### is_number -/
abbrev s_is_number : Stmt := topS 3
abbrev N_is_number : List Str := ["thing"]
theorem sc_is_number : FnScope N_is_number ["thing"] (defScope s_is_number) := ⟨rfl, rfl, rfl, by decide +kernel, rfl, by decide +kernel, by decide +kernel⟩
def F_is_number : List D → R D := runP N_is_number
    (fRet (fAndV (fCallP 1 F_is_whole (fCons (fVar 0) fNil)) (fFz (fBin gGe (fVar 0) (fC (.int 0))))))
theorem ok_is_number {f : Addr} {fd : FuncData} (T : Txt g) (h_is_whole : OkP g 1 1 "is_whole" F_is_whole) (F : Fun g.K "is_number" "is_number" s_is_number f fd) (hm : g.mg "is_number" = some (.ref f)) (hb : Binds g.K fd ["thing"] []) : OkP g 2 1 "is_number" F_is_number :=
  ok_P (fn_P (k := 1) F sc_is_number fun cdv A outer s H E hr =>
    (dss_one (ds_ret (de_and (de_callP h_is_whole ⟨rfl, rfl, rfl, rfl, rfl⟩ hr (by decide) (by rfl) pass_cx (da_cons (de_var 0) da_nil)) (de_one (DO.fz (do_cmp od_ge (de_var 0) de_int (nomark _)))))))) rfl hm F.kp hb
/-! ### is_below -/
abbrev s_is_below : Stmt := topS 4
abbrev N_is_below : List Str := ["thing", "most"]
theorem sc_is_below : FnScope N_is_below ["thing", "most"] (defScope s_is_below) := ⟨rfl, rfl, rfl, by decide +kernel, rfl, by decide +kernel, by decide +kernel⟩
def F_is_below : List D → R D := runP N_is_below
    (fRet (fAndV (fCallP 1 F_is_number (fCons (fVar 0) fNil)) (fFz (fBin gLt (fVar 0) (fVar 1)))))
theorem ok_is_below {f : Addr} {fd : FuncData} (T : Txt g) (h_is_number : OkP g 2 1 "is_number" F_is_number) (F : Fun g.K "is_below" "is_below" s_is_below f fd) (hm : g.mg "is_below" = some (.ref f)) (hb : Binds g.K fd ["thing", "most"] []) : OkP g 3 2 "is_below" F_is_below :=
  ok_P (fn_P (k := 2) F sc_is_below fun cdv A outer s H E hr =>
    (dss_one (ds_ret (de_and (de_callP h_is_number ⟨rfl, rfl, rfl, rfl, rfl⟩ hr (by decide) (by rfl) pass_cx (da_cons (de_var 0) da_nil)) (de_one (DO.fz (do_cmp od_lt (de_var 0) (de_var 1) (nomark _)))))))) rfl hm F.kp hb
/-! ### are_words -/
abbrev s_are_words : Stmt := topS 16
abbrev N_are_words : List Str := ["width", "thing", "one"]
theorem sc_are_words : FnScope N_are_words ["width", "thing"] (defScope s_are_words) := ⟨rfl, rfl, rfl, by decide +kernel, rfl, by decide +kernel, by decide +kernel⟩
def F_are_words : List D → R D := runP N_are_words
    (fRet (fAndV (fCallP 1 F_is_list (fCons (fVar 1) fNil)) (fFz (fCall gAll (fCons (fFz (fLc [2] (fIter (fVar 1)) (gSet 2) fYes (fCallP 2 F_is_below (fCons (fVar 2) (fCons (fFz (fBin gShl (fC (.int 1)) (fVar 0))) fNil))))) fNil)))))
theorem ok_are_words {f : Addr} {fd : FuncData} (T : Txt g) (h_is_list : OkP g 1 1 "is_list" F_is_list) (h_is_below : OkP g 3 2 "is_below" F_is_below) (F : Fun g.K "are_words" "are_words" s_are_words f fd) (hm : g.mg "are_words" = some (.ref f)) (hb : Binds g.K fd ["width", "thing"] []) : OkP g 4 2 "are_words" F_are_words :=
  ok_P (fn_P (k := 3) F sc_are_words fun cdv A outer s H E hr =>
    (dss_one (ds_ret (de_and (de_callP h_is_list ⟨rfl, rfl, rfl, rfl, rfl⟩ hr (by decide) (by rfl) pass_cx (da_cons (de_var 1) da_nil)) (de_one (DO.fz (do_callB (cd_all rfl) (by rfl) T.n_all (by decide +kernel) (da_cons (DO.fz (do_lc (own := [("one", 2)]) rfl sc_are_words.nd (it_any (de_var 1)) (blkOk_by (own := [("one", 2)]) (N := N_are_words) (sc := defScope s_are_words) (by decide +kernel)) (by decide) (fun _ _ _ _ _ => (dt_name sc_are_words.nd)) (fun _ _ _ _ _ => dts_nil) (fun _ _ _ _ _ => (de_callP h_is_below ⟨rfl, rfl, rfl, rfl, rfl⟩ hr (by decide) (by rfl) passL (da_cons (de_var 2) (da_cons (DO.fz (do_bin od_shl de_int (de_var 0))) da_nil)))))) da_nil)))))))) rfl hm F.kp hb
/-! ### need_words -/
abbrev s_need_words : Stmt := topS 17
abbrev N_need_words : List Str := ["width", "words"]
theorem sc_need_words : FnScope N_need_words ["width", "words"] (defScope s_need_words) := ⟨rfl, rfl, rfl, by decide +kernel, rfl, by decide +kernel, by decide +kernel⟩
def F_need_words : List D → R D := runP N_need_words
    (fSeq (fIf (fNot (fTru (fCallP 2 F_are_words (fCons (fVar 0) (fCons (fVar 1) fNil))))) fNever fNext)
    (fRet (fFz (fCall gList (fCons (fVar 1) fNil)))))
theorem ok_need_words {f : Addr} {fd : FuncData} (T : Txt g) (h_are_words : OkP g 4 2 "are_words" F_are_words) (F : Fun g.K "need_words" "need_words" s_need_words f fd) (hm : g.mg "need_words" = some (.ref f)) (hb : Binds g.K fd ["width", "words"] []) : OkP g 5 2 "need_words" F_need_words :=
  ok_P (fn_P (k := 4) F sc_need_words fun cdv A outer s H E hr =>
    (dss_cons (ds_if (dt_not (dt_tru (de_callP h_are_words ⟨rfl, rfl, rfl, rfl, rfl⟩ hr (by decide) (by rfl) pass_cx (da_cons (de_var 0) (da_cons (de_var 1) da_nil))))) (dss_one ds_never) dss_nil)
    (dss_one (ds_ret (DO.fz (do_callTy cd_list (by rfl) T.n_list (by decide +kernel) (da_cons (de_var 1) da_nil))))))) rfl hm F.kp hb
/-! ### sums_of -/
abbrev s_sums_of : Stmt := topS 19
abbrev N_sums_of : List Str := ["width", "words"]
theorem sc_sums_of : FnScope N_sums_of ["width", "words"] (defScope s_sums_of) := ⟨rfl, rfl, rfl, by decide +kernel, rfl, by decide +kernel, by decide +kernel⟩
def F_sums_of : List D → R D := runP N_sums_of
    (fSeq (fDrop (fSh (fCallP 1 F_need_width (fCons (fVar 0) fNil))))
    (fRet (fCallP 2 F_sums_by (fCons (fVar 0) (fCons (fCallP 2 F_need_words (fCons (fVar 0) (fCons (fVar 1) fNil))) fNil)))))
theorem ok_sums_of {f : Addr} {fd : FuncData} (T : Txt g) (h_need_width : OkP g 2 1 "need_width" F_need_width) (h_need_words : OkP g 5 2 "need_words" F_need_words) (h_sums_by : OkP g 2 2 "sums_by" F_sums_by) (F : Fun g.K "sums_of" "sums_of" s_sums_of f fd) (hm : g.mg "sums_of" = some (.ref f)) (hb : Binds g.K fd ["width", "words"] []) : OkP g 6 2 "sums_of" F_sums_of :=
  ok_P (fn_P (k := 5) F sc_sums_of fun cdv A outer s H E hr =>
    (dss_cons (ds_expr (DE.o (de_callP h_need_width ⟨rfl, rfl, rfl, rfl, rfl⟩ hr (by decide) (by rfl) pass_cx (da_cons (de_var 0) da_nil))))
    (dss_one (ds_ret (de_callP h_sums_by ⟨rfl, rfl, rfl, rfl, rfl⟩ hr (by decide) (by rfl) pass_cx (da_cons (de_var 0) (da_cons (de_callP h_need_words ⟨rfl, rfl, rfl, rfl, rfl⟩ hr (by decide) (by rfl) pass_cx (da_cons (de_var 0) (da_cons (de_var 1) da_nil))) da_nil))))))) rfl hm F.kp hb
/-! ### _law_vwordsof -/
abbrev s__law_vwordsof : Stmt := topS 42
abbrev N__law_vwordsof : List Str := ["width", "bits", "spare", "whole", "words", "at", "word", "sign"]
theorem sc__law_vwordsof : FnScope N__law_vwordsof ["width", "bits"] (defScope s__law_vwordsof) := ⟨rfl, rfl, rfl, by decide +kernel, rfl, by decide +kernel, by decide +kernel⟩
def F__law_vwordsof : List D → R D := runP N__law_vwordsof
    (fSeq (fAsg (fBin gMod (fFz (fBin gSub (fVar 0) (fFz (fBin gMod (fFz (fCall gLen (fCons (fVar 1) fNil))) (fVar 0))))) (fVar 0)) (gSet 2))
    (fSeq (fPar [3, 4] (fConsO (fBin gAdd (fVar 1) (fFz (fBin gMul (fC (.str "0")) (fVar 2)))) (fConsO (fLst fNil) fNilO)))
    (fSeq (fFor (fRng D.rng3 (fCons (fC (.int 0)) (fCons (fFz (fCall gLen (fCons (fVar 3) fNil))) (fCons (fVar 0) fNil)))) (gSet 5)
    (fSeq (fAsg (fSh (fC (.int 0))) (gSet 6))
    (fSeq (fFor (fIter (fFz (fSl gSl (fVar 3) (fPart (fVar 5)) (fPart (fFz (fBin gAdd (fVar 5) (fVar 0))))))) (gSet 7)
    (fAsg (fBin gAdd (fFz (fBin gMul (fC (.int 2)) (fVar 6))) (fFz (fCall gInt (fCons (fFz (fBin gEq (fVar 7) (fC (.str "1")))) fNil)))) (gSet 6)))
    (fDrop (fApp 4 (fVar 6))))))
    (fRet (fTup (fCons (fVar 4) (fCons (fVar 2) fNil)))))))
theorem ok__law_vwordsof {f : Addr} {fd : FuncData} (T : Txt g)  (F : Fun g.K "_law_vwordsof" "_law_vwordsof" s__law_vwordsof f fd) (hm : g.mg "_law_vwordsof" = some (.ref f)) (hb : Binds g.K fd ["width", "bits"] []) : OkP g 1 2 "_law_vwordsof" F__law_vwordsof :=
  ok_P (fn_P (k := 0) F sc__law_vwordsof fun cdv A outer s H E hr =>
    (dss_cons (ds_set (i := 2) sc__law_vwordsof.nd (do_bin od_mod (DO.fz (do_bin od_sub (de_var 0) (DO.fz (do_bin od_mod (DO.fz (do_callB cd_len (by rfl) T.n_len (by decide +kernel) (da_cons (de_var 1) da_nil))) (de_var 0))))) (de_var 0)))
    (dss_cons (ds_par2 rfl sc__law_vwordsof.nd rfl rfl (by decide) rfl rfl (dao_cons (do_bin od_add (de_var 1) (DO.fz (do_bin od_mul de_str (de_var 2)))) (dao_cons (do_lst da_nil) dao_nil)) rfl)
    (dss_cons (ds_for own_cx rfl (it_range3 (by rfl) T.n_range (da_cons de_int (da_cons (DO.fz (do_callB cd_len (by rfl) T.n_len (by decide +kernel) (da_cons (de_var 3) da_nil))) (da_cons (de_var 0) da_nil)))) (dt_name sc__law_vwordsof.nd)
    (dss_cons (ds_set (i := 6) sc__law_vwordsof.nd (DE.o de_int))
    (dss_cons (ds_for own_cx rfl (it_any (DO.fz (do_sl sd_sl (de_var 3) (dp_some (de_var 5)) (dp_some (DO.fz (do_bin od_add (de_var 5) (de_var 0))))))) (dt_name sc__law_vwordsof.nd)
    (dss_one (ds_set (i := 6) sc__law_vwordsof.nd (do_bin od_add (DO.fz (do_bin od_mul de_int (de_var 6))) (DO.fz (do_callTy cd_int (by rfl) T.n_int (by decide +kernel) (da_cons (DO.fz (do_cmp (od_eq (Room.units hr)) (de_var 7) de_str (nomark _))) da_nil)))))))
    (dss_one (ds_expr (do_app 4 (de_var 6)))))))
    (dss_one (ds_ret (de_tup (da_cons (de_var 4) (da_cons (de_var 2) da_nil))))))))) rfl hm F.kp hb
/-! ### _law_vimage -/
abbrev s__law_vimage : Stmt := topS 43
abbrev N__law_vimage : List Str := ["width", "version", "bits", "words", "spare", "head"]
theorem sc__law_vimage : FnScope N__law_vimage ["width", "version", "bits"] (defScope s__law_vimage) := ⟨rfl, rfl, rfl, by decide +kernel, rfl, by decide +kernel, by decide +kernel⟩
def F__law_vimage : List D → R D := runP N__law_vimage
    (fSeq (fAsg (fSh (fCallP 2 F__law_vwordsof (fCons (fVar 0) (fCons (fVar 2) fNil)))) (gTupD 2 (gConsD (gSet 3) (gConsD (gSet 4) gNilD))))
    (fSeq (fAsg (fLst (fCons (fVar 1) (fCons (fFz (fCall gLen (fCons (fVar 3) fNil))) (fCons (fVar 4) fNil)))) (gSet 5))
    (fRet (fFz (fBin gAdd (fFz (fBin gAdd (fVar 5) (fFz (fCall gList (fCons (fCallP 2 F__law_vsums (fCons (fVar 0) (fCons (fFz (fBin gAdd (fVar 5) (fVar 3))) fNil))) fNil))))) (fVar 3))))))
theorem ok__law_vimage {f : Addr} {fd : FuncData} (T : Txt g) (h__law_vsums : OkP g 2 2 "_law_vsums" F__law_vsums) (h__law_vwordsof : OkP g 1 2 "_law_vwordsof" F__law_vwordsof) (F : Fun g.K "_law_vimage" "_law_vimage" s__law_vimage f fd) (hm : g.mg "_law_vimage" = some (.ref f)) (hb : Binds g.K fd ["width", "version", "bits"] []) : OkP g 3 3 "_law_vimage" F__law_vimage :=
  ok_P (fn_P (k := 2) F sc__law_vimage fun cdv A outer s H E hr =>
    (dss_cons (ds_asg (DE.o (de_callP h__law_vwordsof ⟨rfl, rfl, rfl, rfl, rfl⟩ hr (by decide) (by rfl) pass_cx (da_cons (de_var 0) (da_cons (de_var 2) da_nil)))) (dt_tup rfl (dtgs_cons (dt_name sc__law_vimage.nd) (dtgs_cons (dt_name sc__law_vimage.nd) dtgs_nil))))
    (dss_cons (ds_set (i := 5) sc__law_vimage.nd (do_lst (da_cons (de_var 1) (da_cons (DO.fz (do_callB cd_len (by rfl) T.n_len (by decide +kernel) (da_cons (de_var 3) da_nil))) (da_cons (de_var 4) da_nil)))))
    (dss_one (ds_ret (DO.fz (do_bin od_add (DO.fz (do_bin od_add (de_var 5) (DO.fz (do_callTy cd_list (by rfl) T.n_list (by decide +kernel) (da_cons (de_callP h__law_vsums ⟨rfl, rfl, rfl, rfl, rfl⟩ hr (by decide) (by rfl) pass_cx (da_cons (de_var 0) (da_cons (DO.fz (do_bin od_add (de_var 5) (de_var 3))) da_nil))) da_nil))))) (de_var 3)))))))) rfl hm F.kp hb
/-! ### need_version -/
abbrev s_need_version : Stmt := topS 24
abbrev N_need_version : List Str := ["width", "version"]
theorem sc_need_version : FnScope N_need_version ["width", "version"] (defScope s_need_version) := ⟨rfl, rfl, rfl, by decide +kernel, rfl, by decide +kernel, by decide +kernel⟩
def F_need_version : List D → R D := runP N_need_version
    (fIf (fNot (fTru (fCallP 2 F_is_below (fCons (fVar 1) (fCons (fCallP 1 F_ones (fCons (fVar 0) fNil)) fNil))))) fNever fNext)
theorem ok_need_version {f : Addr} {fd : FuncData} (T : Txt g) (h_is_below : OkP g 3 2 "is_below" F_is_below) (h_ones : OkP g 1 1 "ones" F_ones) (F : Fun g.K "need_version" "need_version" s_need_version f fd) (hm : g.mg "need_version" = some (.ref f)) (hb : Binds g.K fd ["width", "version"] []) : OkP g 4 2 "need_version" F_need_version :=
  ok_P (fn_P (k := 3) F sc_need_version fun cdv A outer s H E hr =>
    (dss_one (ds_if (dt_not (dt_tru (de_callP h_is_below ⟨rfl, rfl, rfl, rfl, rfl⟩ hr (by decide) (by rfl) pass_cx (da_cons (de_var 1) (da_cons (de_callP h_ones ⟨rfl, rfl, rfl, rfl, rfl⟩ hr (by decide) (by rfl) pass_cx (da_cons (de_var 0) da_nil)) da_nil))))) (dss_one ds_never) dss_nil))) rfl hm F.kp hb
/-! ### is_bits -/
abbrev s_is_bits : Stmt := topS 20
abbrev N_is_bits : List Str := ["thing", "sign"]
theorem sc_is_bits : FnScope N_is_bits ["thing"] (defScope s_is_bits) := ⟨rfl, rfl, rfl, by decide +kernel, rfl, by decide +kernel, by decide +kernel⟩
def F_is_bits : List D → R D := runP N_is_bits
    (fRet (fAndV (fIsi ["str"] (fVar 0)) (fFz (fCall gAll (fCons (fFz (fLc [1] (fIter (fVar 0)) (gSet 1) fYes (fFz (fBin gIn (fVar 1) (fC (.str "01")))))) fNil)))))
theorem ok_is_bits {f : Addr} {fd : FuncData} (T : Txt g)  (F : Fun g.K "is_bits" "is_bits" s_is_bits f fd) (hm : g.mg "is_bits" = some (.ref f)) (hb : Binds g.K fd ["thing"] []) : OkP g 1 1 "is_bits" F_is_bits :=
  ok_P (fn_P (k := 0) F sc_is_bits fun cdv A outer s H E hr =>
    (dss_one (ds_ret (de_and (de_isi (by rfl) T.n_isinstance (de_var 0) (ty_n (by rfl) T.n_str (by decide +kernel))) (de_one (DO.fz (do_callB (cd_all rfl) (by rfl) T.n_all (by decide +kernel) (da_cons (DO.fz (do_lc (own := [("sign", 1)]) rfl sc_is_bits.nd (it_any (de_var 0)) (blkOk_by (own := [("sign", 1)]) (N := N_is_bits) (sc := defScope s_is_bits) (by decide +kernel)) (by decide) (fun _ _ _ _ _ => (dt_name sc_is_bits.nd)) (fun _ _ _ _ _ => dts_nil) (fun _ _ _ _ _ => (DO.fz (do_cmp (od_in (room5 hr)) (de_var 1) de_str (by rfl)))))) da_nil)))))))) rfl hm F.kp hb
/-! ### need_bits -/
abbrev s_need_bits : Stmt := topS 25
abbrev N_need_bits : List Str := ["bits"]
theorem sc_need_bits : FnScope N_need_bits ["bits"] (defScope s_need_bits) := ⟨rfl, rfl, rfl, by decide +kernel, rfl, by decide +kernel, by decide +kernel⟩
def F_need_bits : List D → R D := runP N_need_bits
    (fIf (fNot (fTru (fCallP 1 F_is_bits (fCons (fVar 0) fNil)))) fNever fNext)
theorem ok_need_bits {f : Addr} {fd : FuncData} (T : Txt g) (h_is_bits : OkP g 1 1 "is_bits" F_is_bits) (F : Fun g.K "need_bits" "need_bits" s_need_bits f fd) (hm : g.mg "need_bits" = some (.ref f)) (hb : Binds g.K fd ["bits"] []) : OkP g 2 1 "need_bits" F_need_bits :=
  ok_P (fn_P (k := 1) F sc_need_bits fun cdv A outer s H E hr =>
    (dss_one (ds_if (dt_not (dt_tru (de_callP h_is_bits ⟨rfl, rfl, rfl, rfl, rfl⟩ hr (by decide) (by rfl) pass_cx (da_cons (de_var 0) da_nil)))) (dss_one ds_never) dss_nil))) rfl hm F.kp hb
/-! ### packed_words -/
abbrev s_packed_words : Stmt := topS 21
abbrev N_packed_words : List Str := ["width", "bits", "spare", "whole", "at"]
theorem sc_packed_words : FnScope N_packed_words ["width", "bits"] (defScope s_packed_words) := ⟨rfl, rfl, rfl, by decide +kernel, rfl, by decide +kernel, by decide +kernel⟩
def F_packed_words : List D → R D := runP N_packed_words
    (fSeq (fAsg (fBin gMod (fFz (fUn gNeg (fFz (fCall gLen (fCons (fVar 1) fNil))))) (fVar 0)) (gSet 2))
    (fSeq (fAsg (fBin gAdd (fVar 1) (fFz (fBin gMul (fC (.str "0")) (fVar 2)))) (gSet 3))
    (fRet (fTup (fCons (fFz (fLc [4] (fRng D.rng3 (fCons (fC (.int 0)) (fCons (fFz (fCall gLen (fCons (fVar 3) fNil))) (fCons (fVar 0) fNil)))) (gSet 4) fYes (fFz (fCall gIntB (fCons (fFz (fSl gSl (fVar 3) (fPart (fVar 4)) (fPart (fFz (fBin gAdd (fVar 4) (fVar 0)))))) (fCons (fC (.int 2)) fNil)))))) (fCons (fVar 2) fNil))))))
theorem ok_packed_words {f : Addr} {fd : FuncData} (T : Txt g)  (F : Fun g.K "packed_words" "packed_words" s_packed_words f fd) (hm : g.mg "packed_words" = some (.ref f)) (hb : Binds g.K fd ["width", "bits"] []) : OkP g 1 2 "packed_words" F_packed_words :=
  ok_P (fn_P (k := 0) F sc_packed_words fun cdv A outer s H E hr =>
    (dss_cons (ds_set (i := 2) sc_packed_words.nd (do_bin od_mod (DO.fz (do_un ud_neg (DO.fz (do_callB cd_len (by rfl) T.n_len (by decide +kernel) (da_cons (de_var 1) da_nil))))) (de_var 0)))
    (dss_cons (ds_set (i := 3) sc_packed_words.nd (do_bin od_add (de_var 1) (DO.fz (do_bin od_mul de_str (de_var 2)))))
    (dss_one (ds_ret (de_tup (da_cons (DO.fz (do_lc (own := [("at", 4)]) rfl sc_packed_words.nd (it_range3 (by rfl) T.n_range (da_cons de_int (da_cons (DO.fz (do_callB cd_len (by rfl) T.n_len (by decide +kernel) (da_cons (de_var 3) da_nil))) (da_cons (de_var 0) da_nil)))) (blkOk_by (own := [("at", 4)]) (N := N_packed_words) (sc := defScope s_packed_words) (by decide +kernel)) (by decide) (fun _ _ _ _ _ => (dt_name sc_packed_words.nd)) (fun _ _ _ _ _ => dts_nil) (fun _ _ _ _ _ => (DO.fz (do_callTy cd_intB (by rfl) T.n_int (by decide +kernel) (da_cons (DO.fz (do_sl sd_sl (de_var 3) (dp_some (de_var 4)) (dp_some (DO.fz (do_bin od_add (de_var 4) (de_var 0)))))) (da_cons de_int da_nil))))))) (da_cons (de_var 2) da_nil)))))))) rfl hm F.kp hb
/-! ### made -/
abbrev s_made : Stmt := topS 23
abbrev N_made : List Str := ["width", "version", "body", "spare", "first", "second"]
theorem sc_made : FnScope N_made ["width", "version", "body", "spare"] (defScope s_made) := ⟨rfl, rfl, rfl, by decide +kernel, rfl, by decide +kernel, by decide +kernel⟩
def F_made : List D → R D := runP N_made
    (fSeq (fAsg (fSh (fCallP 2 F_sums_by (fCons (fVar 0) (fCons (fFz (fLst (fCons (fVar 1) (fCons (fFz (fCall gLen (fCons (fVar 2) fNil))) (fCons (fVar 3) (fStar (fVar 2) fNil)))))) fNil)))) (gTupD 2 (gConsD (gSet 4) (gConsD (gSet 5) gNilD))))
    (fRet (fFz (fLst (fCons (fVar 1) (fCons (fFz (fCall gLen (fCons (fVar 2) fNil))) (fCons (fVar 3) (fCons (fVar 4) (fCons (fVar 5) (fStar (fVar 2) fNil))))))))))
theorem ok_made {f : Addr} {fd : FuncData} (T : Txt g) (h_sums_by : OkP g 2 2 "sums_by" F_sums_by) (F : Fun g.K "made" "made" s_made f fd) (hm : g.mg "made" = some (.ref f)) (hb : Binds g.K fd ["width", "version", "body", "spare"] []) : OkP g 3 4 "made" F_made :=
  ok_P (fn_P (k := 2) F sc_made fun cdv A outer s H E hr =>
    (dss_cons (ds_asg (DE.o (de_callP h_sums_by ⟨rfl, rfl, rfl, rfl, rfl⟩ hr (by decide) (by rfl) pass_cx (da_cons (de_var 0) (da_cons (DO.fz (do_lst (da_cons (de_var 1) (da_cons (DO.fz (do_callB cd_len (by rfl) T.n_len (by decide +kernel) (da_cons (de_var 2) da_nil))) (da_cons (de_var 3) (da_star (de_var 2) da_nil)))))) da_nil)))) (dt_tup rfl (dtgs_cons (dt_name sc_made.nd) (dtgs_cons (dt_name sc_made.nd) dtgs_nil))))
    (dss_one (ds_ret (DO.fz (do_lst (da_cons (de_var 1) (da_cons (DO.fz (do_callB cd_len (by rfl) T.n_len (by decide +kernel) (da_cons (de_var 2) da_nil))) (da_cons (de_var 3) (da_cons (de_var 4) (da_cons (de_var 5) (da_star (de_var 2) da_nil)))))))))))) rfl hm F.kp hb
/-! ### image_of -/
abbrev s_image_of : Stmt := topS 26
abbrev N_image_of : List Str := ["width", "version", "bits", "body", "spare"]
theorem sc_image_of : FnScope N_image_of ["width", "version", "bits"] (defScope s_image_of) := ⟨rfl, rfl, rfl, by decide +kernel, rfl, by decide +kernel, by decide +kernel⟩
def F_image_of : List D → R D := runP N_image_of
    (fSeq (fDrop (fSh (fCallP 1 F_need_width (fCons (fVar 0) fNil))))
    (fSeq (fDrop (fSh (fCallP 2 F_need_version (fCons (fVar 0) (fCons (fVar 1) fNil)))))
    (fSeq (fDrop (fSh (fCallP 1 F_need_bits (fCons (fVar 2) fNil))))
    (fSeq (fAsg (fSh (fCallP 2 F_packed_words (fCons (fVar 0) (fCons (fVar 2) fNil)))) (gTupD 2 (gConsD (gSet 3) (gConsD (gSet 4) gNilD))))
    (fSeq (fIf (fBool (fBin gGe (fFz (fCall gLen (fCons (fVar 3) fNil))) (fCallP 1 F_ones (fCons (fVar 0) fNil)))) fNever fNext)
    (fRet (fCallP 4 F_made (fCons (fVar 0) (fCons (fVar 1) (fCons (fVar 3) (fCons (fVar 4) fNil)))))))))))
theorem ok_image_of {f : Addr} {fd : FuncData} (T : Txt g) (h_need_width : OkP g 2 1 "need_width" F_need_width) (h_ones : OkP g 1 1 "ones" F_ones) (h_packed_words : OkP g 1 2 "packed_words" F_packed_words) (h_made : OkP g 3 4 "made" F_made) (h_need_version : OkP g 4 2 "need_version" F_need_version) (h_need_bits : OkP g 2 1 "need_bits" F_need_bits) (F : Fun g.K "image_of" "image_of" s_image_of f fd) (hm : g.mg "image_of" = some (.ref f)) (hb : Binds g.K fd ["width", "version", "bits"] []) : OkP g 5 3 "image_of" F_image_of :=
  ok_P (fn_P (k := 4) F sc_image_of fun cdv A outer s H E hr =>
    (dss_cons (ds_expr (DE.o (de_callP h_need_width ⟨rfl, rfl, rfl, rfl, rfl⟩ hr (by decide) (by rfl) pass_cx (da_cons (de_var 0) da_nil))))
    (dss_cons (ds_expr (DE.o (de_callP h_need_version ⟨rfl, rfl, rfl, rfl, rfl⟩ hr (by decide) (by rfl) pass_cx (da_cons (de_var 0) (da_cons (de_var 1) da_nil)))))
    (dss_cons (ds_expr (DE.o (de_callP h_need_bits ⟨rfl, rfl, rfl, rfl, rfl⟩ hr (by decide) (by rfl) pass_cx (da_cons (de_var 2) da_nil))))
    (dss_cons (ds_asg (DE.o (de_callP h_packed_words ⟨rfl, rfl, rfl, rfl, rfl⟩ hr (by decide) (by rfl) pass_cx (da_cons (de_var 0) (da_cons (de_var 2) da_nil)))) (dt_tup rfl (dtgs_cons (dt_name sc_image_of.nd) (dtgs_cons (dt_name sc_image_of.nd) dtgs_nil))))
    (dss_cons (ds_if (dt_cmp od_ge (DO.fz (do_callB cd_len (by rfl) T.n_len (by decide +kernel) (da_cons (de_var 3) da_nil))) (de_callP h_ones ⟨rfl, rfl, rfl, rfl, rfl⟩ hr (by decide) (by rfl) pass_cx (da_cons (de_var 0) da_nil)) (nomark _)) (dss_one ds_never) dss_nil)
    (dss_one (ds_ret (de_callP h_made ⟨rfl, rfl, rfl, rfl, rfl⟩ hr (by decide) (by rfl) pass_cx (da_cons (de_var 0) (da_cons (de_var 1) (da_cons (de_var 3) (da_cons (de_var 4) da_nil))))))))))))) rfl hm F.kp hb
/-! ### why_not -/
abbrev s_why_not : Stmt := topS 28
abbrev N_why_not : List Str := ["width", "thing", "version", "many", "spare", "first", "second", "body"]
theorem sc_why_not : FnScope N_why_not ["width", "thing"] (defScope s_why_not) := ⟨rfl, rfl, rfl, by decide +kernel, rfl, by decide +kernel, by decide +kernel⟩
def F_why_not : List D → R D := runP N_why_not
    (fSeq (fIf (fOr (fNot (fTru (fCallP 2 F_are_words (fCons (fVar 0) (fCons (fVar 1) fNil))))) (fBool (fBin gLt (fFz (fCall gLen (fCons (fVar 1) fNil))) (fC (.int 5))))) (fRet (fC (.str "list"))) fNext)
    (fSeq (fAsg (fSl gSl (fVar 1) fNoP (fPart (fC (.int 5)))) (gTupD 5 (gConsD (gSet 2) (gConsD (gSet 3) (gConsD (gSet 4) (gConsD (gSet 5) (gConsD (gSet 6) gNilD)))))))
    (fSeq (fAsg (fCall gList (fCons (fFz (fSl gSl (fVar 1) (fPart (fC (.int 5))) fNoP)) fNil)) (gSet 7))
    (fSeq (fIf (fBool (fBin gEq (fVar 2) (fCallP 1 F_ones (fCons (fVar 0) fNil)))) (fRet (fC (.str "version"))) fNext)
    (fSeq (fIf (fOr (fBool (fBin gNe (fVar 3) (fFz (fCall gLen (fCons (fVar 7) fNil))))) (fBool (fBin gEq (fVar 3) (fCallP 1 F_ones (fCons (fVar 0) fNil))))) (fRet (fC (.str "many"))) fNext)
    (fSeq (fIf (fOr (fBool (fBin gGe (fVar 4) (fVar 0))) (fAnd (fBool (fBin gEq (fVar 3) (fC (.int 0)))) (fBool (fBin gGt (fVar 4) (fC (.int 0)))))) (fRet (fC (.str "spare"))) fNext)
    (fSeq (fIf (fAnd (fTru (fVar 7)) (fTru (fFz (fBin gBand (fFz (fBin gIx (fVar 7) (fFz (fUn gNeg (fC (.int 1)))))) (fFz (fBin gSub (fFz (fBin gShl (fC (.int 1)) (fVar 4))) (fC (.int 1)))))))) (fRet (fC (.str "rest"))) fNext)
    (fRet (fIf (fBool (fBin gEq (fTup (fCons (fVar 5) (fCons (fVar 6) fNil))) (fCallP 2 F_sums_by (fCons (fVar 0) (fCons (fFz (fLst (fCons (fVar 2) (fCons (fVar 3) (fCons (fVar 4) (fStar (fVar 7) fNil)))))) fNil))))) (fC .non) (fC (.str "sums")))))))))))
theorem ok_why_not {f : Addr} {fd : FuncData} (T : Txt g) (h_ones : OkP g 1 1 "ones" F_ones) (h_are_words : OkP g 4 2 "are_words" F_are_words) (h_sums_by : OkP g 2 2 "sums_by" F_sums_by) (F : Fun g.K "why_not" "why_not" s_why_not f fd) (hm : g.mg "why_not" = some (.ref f)) (hb : Binds g.K fd ["width", "thing"] []) : OkP g 5 2 "why_not" F_why_not :=
  ok_P (fn_P (k := 4) F sc_why_not fun cdv A outer s H E hr =>
    (dss_cons (ds_if (DW.t (dw_or (dt_not (dt_tru (de_callP h_are_words ⟨rfl, rfl, rfl, rfl, rfl⟩ hr (by decide) (by rfl) pass_cx (da_cons (de_var 0) (da_cons (de_var 1) da_nil))))) (dw_or1 (dt_cmp od_lt (DO.fz (do_callB cd_len (by rfl) T.n_len (by decide +kernel) (da_cons (de_var 1) da_nil))) de_int (nomark _))))) (dss_one (ds_ret de_str)) dss_nil)
    (dss_cons (ds_asg (do_sl sd_sl (de_var 1) dp_none (dp_some de_int)) (dt_tup rfl (dtgs_cons (dt_name sc_why_not.nd) (dtgs_cons (dt_name sc_why_not.nd) (dtgs_cons (dt_name sc_why_not.nd) (dtgs_cons (dt_name sc_why_not.nd) (dtgs_cons (dt_name sc_why_not.nd) dtgs_nil)))))))
    (dss_cons (ds_set (i := 7) sc_why_not.nd (do_callTy cd_list (by rfl) T.n_list (by decide +kernel) (da_cons (DO.fz (do_sl sd_sl (de_var 1) (dp_some de_int) dp_none)) da_nil)))
    (dss_cons (ds_if (dt_cmp (od_eq (Room.units hr)) (de_var 2) (de_callP h_ones ⟨rfl, rfl, rfl, rfl, rfl⟩ hr (by decide) (by rfl) pass_cx (da_cons (de_var 0) da_nil)) (nomark _)) (dss_one (ds_ret de_str)) dss_nil)
    (dss_cons (ds_if (DW.t (dw_or (dt_cmp (od_ne (Room.units hr)) (de_var 3) (DO.fz (do_callB cd_len (by rfl) T.n_len (by decide +kernel) (da_cons (de_var 7) da_nil))) (nomark _)) (dw_or1 (dt_cmp (od_eq (Room.units hr)) (de_var 3) (de_callP h_ones ⟨rfl, rfl, rfl, rfl, rfl⟩ hr (by decide) (by rfl) pass_cx (da_cons (de_var 0) da_nil)) (nomark _))))) (dss_one (ds_ret de_str)) dss_nil)
    (dss_cons (ds_if (DW.t (dw_or (dt_cmp od_ge (de_var 4) (de_var 0) (nomark _)) (dw_or1 (DW.t (dw_and (dt_cmp (od_eq (Room.units hr)) (de_var 3) de_int (nomark _)) (dw_and1 (dt_cmp od_gt (de_var 4) de_int (nomark _)))))))) (dss_one (ds_ret de_str)) dss_nil)
    (dss_cons (ds_if (DW.t (dw_and (dt_tru (de_var 7)) (dw_and1 (dt_tru (DO.fz (do_bin od_band (DO.fz (do_ix xd_ix (de_var 7) (DO.fz (do_un ud_neg de_int)))) (DO.fz (do_bin od_sub (DO.fz (do_bin od_shl de_int (de_var 4))) de_int)))))))) (dss_one (ds_ret de_str)) dss_nil)
    (dss_one (ds_ret (de_if (dt_cmp (od_eq (Room.units hr)) (de_tup (da_cons (de_var 5) (da_cons (de_var 6) da_nil))) (de_callP h_sums_by ⟨rfl, rfl, rfl, rfl, rfl⟩ hr (by decide) (by rfl) pass_cx (da_cons (de_var 0) (da_cons (DO.fz (do_lst (da_cons (de_var 2) (da_cons (de_var 3) (da_cons (de_var 4) (da_star (de_var 7) da_nil)))))) da_nil))) (nomark _)) de_non de_str))))))))))) rfl hm F.kp hb
/-! ### with_version -/
abbrev s_with_version : Stmt := topS 30
abbrev N_with_version : List Str := ["width", "image", "version"]
theorem sc_with_version : FnScope N_with_version ["width", "image", "version"] (defScope s_with_version) := ⟨rfl, rfl, rfl, by decide +kernel, rfl, by decide +kernel, by decide +kernel⟩
def F_with_version : List D → R D := runP N_with_version
    (fSeq (fDrop (fSh (fCallP 1 F_need_width (fCons (fVar 0) fNil))))
    (fSeq (fIf (fBool (fBin (gIs true) (fCallP 2 F_why_not (fCons (fVar 0) (fCons (fVar 1) fNil))) (fC .non))) fNever fNext)
    (fSeq (fDrop (fSh (fCallP 2 F_need_version (fCons (fVar 0) (fCons (fVar 2) fNil)))))
    (fRet (fCallP 4 F_made (fCons (fVar 0) (fCons (fVar 2) (fCons (fFz (fCall gList (fCons (fFz (fSl gSl (fVar 1) (fPart (fC (.int 5))) fNoP)) fNil))) (fCons (fFz (fBin gIx (fVar 1) (fC (.int 2)))) fNil)))))))))
theorem ok_with_version {f : Addr} {fd : FuncData} (T : Txt g) (h_need_width : OkP g 2 1 "need_width" F_need_width) (h_made : OkP g 3 4 "made" F_made) (h_need_version : OkP g 4 2 "need_version" F_need_version) (h_why_not : OkP g 5 2 "why_not" F_why_not) (F : Fun g.K "with_version" "with_version" s_with_version f fd) (hm : g.mg "with_version" = some (.ref f)) (hb : Binds g.K fd ["width", "image", "version"] []) : OkP g 6 3 "with_version" F_with_version :=
  ok_P (fn_P (k := 5) F sc_with_version fun cdv A outer s H E hr =>
    (dss_cons (ds_expr (DE.o (de_callP h_need_width ⟨rfl, rfl, rfl, rfl, rfl⟩ hr (by decide) (by rfl) pass_cx (da_cons (de_var 0) da_nil))))
    (dss_cons (ds_if (dt_cmp od_isnt (de_callP h_why_not ⟨rfl, rfl, rfl, rfl, rfl⟩ hr (by decide) (by rfl) pass_cx (da_cons (de_var 0) (da_cons (de_var 1) da_nil))) de_non (nomark _)) (dss_one ds_never) dss_nil)
    (dss_cons (ds_expr (DE.o (de_callP h_need_version ⟨rfl, rfl, rfl, rfl, rfl⟩ hr (by decide) (by rfl) pass_cx (da_cons (de_var 0) (da_cons (de_var 2) da_nil)))))
    (dss_one (ds_ret (de_callP h_made ⟨rfl, rfl, rfl, rfl, rfl⟩ hr (by decide) (by rfl) pass_cx (da_cons (de_var 0) (da_cons (de_var 2) (da_cons (DO.fz (do_callTy cd_list (by rfl) T.n_list (by decide +kernel) (da_cons (DO.fz (do_sl sd_sl (de_var 1) (dp_some de_int) dp_none)) da_nil))) (da_cons (DO.fz (do_ix xd_ix (de_var 1) de_int)) da_nil))))))))))) rfl hm F.kp hb
/-! ### _law_same -/
abbrev s__law_same : Stmt := topS 37
abbrev N__law_same : List Str := ["found", "due", "x", "y"]
theorem sc__law_same : FnScope N__law_same ["found", "due"] (defScope s__law_same) := ⟨rfl, rfl, rfl, by decide +kernel, rfl, by decide +kernel, by decide +kernel⟩
def F__law_same : Nat → List D → R D
  | 0 => fun _ => .bad
  | n + 1 => runP N__law_same
    (fSeq (fIf (fTru (fIsi ["list", "tuple"] (fVar 1))) (fSeq (fIf (fOr (fBool (fBin gNe (fIsi ["list"] (fVar 0)) (fIsi ["list"] (fVar 1)))) (fBool (fBin gNe (fIsi ["tuple"] (fVar 0)) (fIsi ["tuple"] (fVar 1))))) (fRet (fC (.bl false))) fNext)
    (fRet (fAndV (fFz (fBin gEq (fFz (fCall gLen (fCons (fVar 0) fNil))) (fFz (fCall gLen (fCons (fVar 1) fNil))))) (fFz (fCall gAll (fCons (fFz (fLc [2, 3] (fRng D.zp (fCons (fVar 0) (fCons (fVar 1) fNil))) (gTupD 2 (gConsD (gSet 2) (gConsD (gSet 3) gNilD))) fYes (fCallP 2 (F__law_same n) (fCons (fVar 2) (fCons (fVar 3) fNil))))) fNil)))))) fNext)
    (fSeq (fIf (fTru (fIsi ["dict"] (fVar 1))) fNever fNext)
    (fSeq (fIf (fTru (fIsi ["int"] (fVar 1))) (fRet (fAndV (fIsi ["int"] (fVar 0)) (fAndV (fFz (fBin gEq (fIsi ["bool"] (fVar 0)) (fIsi ["bool"] (fVar 1)))) (fFz (fBin gEq (fVar 0) (fVar 1)))))) fNext)
    (fSeq (fIf (fBool (fBin (gIs false) (fVar 1) (fC .non))) (fRet (fFz (fBin (gIs false) (fVar 0) (fC .non)))) fNext)
    (fSeq (fIf (fTru (fIsi ["str"] (fVar 1))) (fRet (fAndV (fIsi ["str"] (fVar 0)) (fFz (fBin gEq (fVar 0) (fVar 1))))) fNext)
    (fRet (fAndV (fNotV (fIsi ["int", "str", "list", "tuple", "dict"] (fVar 0))) (fFz (fBin gEq (fVar 0) (fVar 1))))))))))
theorem ok__law_same {f : Addr} {fd : FuncData} (T : Txt g)  (F : Fun g.K "_law_same" "_law_same" s__law_same f fd) (hm : g.mg "_law_same" = some (.ref f)) (hb : Binds g.K fd ["found", "due"] []) : ∀ n : Nat, OkP g (1 + n) 2 "_law_same" (F__law_same n)
  | 0 => ok_P (fn_bad (fun _ => rfl) rfl) rfl hm F.kp hb
  | n + 1 => by
    have h__law_same := ok__law_same T  F hm hb n
    exact ok_P (fn_P (k := 1 + n) F sc__law_same fun cdv A outer s H E hr =>
    (dss_cons (ds_if (dt_tru (de_isiT (by rfl) T.n_isinstance (de_var 1) (.cons (ty_n (by rfl) T.n_list (by decide +kernel)) (.cons (ty_n (by rfl) T.n_tuple (by decide +kernel)) .nil)))) (dss_cons (ds_if (DW.t (dw_or (dt_cmp (od_ne (Room.units hr)) (de_isi (by rfl) T.n_isinstance (de_var 0) (ty_n (by rfl) T.n_list (by decide +kernel))) (de_isi (by rfl) T.n_isinstance (de_var 1) (ty_n (by rfl) T.n_list (by decide +kernel))) (nomark _)) (dw_or1 (dt_cmp (od_ne (Room.units hr)) (de_isi (by rfl) T.n_isinstance (de_var 0) (ty_n (by rfl) T.n_tuple (by decide +kernel))) (de_isi (by rfl) T.n_isinstance (de_var 1) (ty_n (by rfl) T.n_tuple (by decide +kernel))) (nomark _))))) (dss_one (ds_ret de_bl)) dss_nil)
    (dss_one (ds_ret (de_and (DO.fz (do_cmp (od_eq (Room.units hr)) (DO.fz (do_callB cd_len (by rfl) T.n_len (by decide +kernel) (da_cons (de_var 0) da_nil))) (DO.fz (do_callB cd_len (by rfl) T.n_len (by decide +kernel) (da_cons (de_var 1) da_nil))) (nomark _))) (de_one (DO.fz (do_callB (cd_all rfl) (by rfl) T.n_all (by decide +kernel) (da_cons (DO.fz (do_lc (own := [("x", 2), ("y", 3)]) rfl sc__law_same.nd (it_zip (by rfl) T.n_zip (da_cons (de_var 0) (da_cons (de_var 1) da_nil))) (blkOk_by (own := [("x", 2), ("y", 3)]) (N := N__law_same) (sc := defScope s__law_same) (by decide +kernel)) (by decide) (fun _ _ _ _ _ => (dt_tup rfl (dtgs_cons (dt_name sc__law_same.nd) (dtgs_cons (dt_name sc__law_same.nd) dtgs_nil)))) (fun _ _ _ _ _ => dts_nil) (fun _ _ _ _ _ => (de_callP h__law_same ⟨rfl, rfl, rfl, rfl, rfl⟩ hr (Nat.le_refl _) (by rfl) passL (da_cons (de_var 2) (da_cons (de_var 3) da_nil)))))) da_nil)))))))) dss_nil)
    (dss_cons (ds_if (dt_tru (de_isi (by rfl) T.n_isinstance (de_var 1) (ty_n (by rfl) T.n_dict (by decide +kernel)))) (dss_one ds_never) dss_nil)
    (dss_cons (ds_if (dt_tru (de_isi (by rfl) T.n_isinstance (de_var 1) (ty_n (by rfl) T.n_int (by decide +kernel)))) (dss_one (ds_ret (de_and (de_isi (by rfl) T.n_isinstance (de_var 0) (ty_n (by rfl) T.n_int (by decide +kernel))) (de_and (DO.fz (do_cmp (od_eq (Room.units hr)) (de_isi (by rfl) T.n_isinstance (de_var 0) (ty_n (by rfl) T.n_bool (by decide +kernel))) (de_isi (by rfl) T.n_isinstance (de_var 1) (ty_n (by rfl) T.n_bool (by decide +kernel))) (nomark _))) (de_one (DO.fz (do_cmp (od_eq (Room.units hr)) (de_var 0) (de_var 1) (nomark _)))))))) dss_nil)
    (dss_cons (ds_if (dt_cmp od_is (de_var 1) de_non (nomark _)) (dss_one (ds_ret (DO.fz (do_cmp od_is (de_var 0) de_non (nomark _))))) dss_nil)
    (dss_cons (ds_if (dt_tru (de_isi (by rfl) T.n_isinstance (de_var 1) (ty_n (by rfl) T.n_str (by decide +kernel)))) (dss_one (ds_ret (de_and (de_isi (by rfl) T.n_isinstance (de_var 0) (ty_n (by rfl) T.n_str (by decide +kernel))) (de_one (DO.fz (do_cmp (od_eq (Room.units hr)) (de_var 0) (de_var 1) (nomark _))))))) dss_nil)
    (dss_one (ds_ret (de_and (de_not (de_isiT (by rfl) T.n_isinstance (de_var 0) (.cons (ty_n (by rfl) T.n_int (by decide +kernel)) (.cons (ty_n (by rfl) T.n_str (by decide +kernel)) (.cons (ty_n (by rfl) T.n_list (by decide +kernel)) (.cons (ty_n (by rfl) T.n_tuple (by decide +kernel)) (.cons (ty_n (by rfl) T.n_dict (by decide +kernel)) .nil))))))) (de_one (DO.fz (do_cmp (od_eq (Room.units hr)) (de_var 0) (de_var 1) (nomark _))))))))))))) rfl hm F.kp hb
/-! ### _law_pick -/
abbrev s__law_pick : Stmt := topS 34
abbrev N__law_pick : List Str := ["stream", "some"]
theorem sc__law_pick : FnScope N__law_pick ["stream", "some"] (defScope s__law_pick) := ⟨rfl, rfl, rfl, by decide +kernel, rfl, by decide +kernel, by decide +kernel⟩
def F__law_pick : List D → Strm → R (D × Strm) := runS N__law_pick
    (fRet (fFz (fBin gIx (fVar 1) (fCallS 0 1 F__law_below (fCons (fFz (fCall gLen (fCons (fVar 1) fNil))) fNil)))))
theorem ok__law_pick {f : Addr} {fd : FuncData} (T : Txt g) (h__law_below : OkS g 1 1 "_law_below" F__law_below) (F : Fun g.K "_law_pick" "_law_pick" s__law_pick f fd) (hm : g.mg "_law_pick" = some (.ref f)) (hb : Binds g.K fd ["stream", "some"] []) : OkS g 2 1 "_law_pick" F__law_pick :=
  ok_S (fn_S (k := 1) F sc__law_pick fun cdv A outer s H E hr =>
    (dss_one (ds_ret (DO.fz (do_ix xd_ix (de_var 1) (de_callS (i := 0) h__law_below ⟨rfl, rfl, rfl, rfl, rfl⟩ hr (by decide) (by rfl) pass_cx (da_cons (DO.fz (do_callB cd_len (by rfl) T.n_len (by decide +kernel) (da_cons (de_var 1) da_nil))) da_nil))))))) rfl hm F.kp hb
/-! ### _law_vdrawbits -/
abbrev s__law_vdrawbits : Stmt := topS 46
abbrev N__law_vdrawbits : List Str := ["stream", "most", "step"]
theorem sc__law_vdrawbits : FnScope N__law_vdrawbits ["stream", "most"] (defScope s__law_vdrawbits) := ⟨rfl, rfl, rfl, by decide +kernel, rfl, by decide +kernel, by decide +kernel⟩
def F__law_vdrawbits : List D → Strm → R (D × Strm) := runS N__law_vdrawbits
    (fRet (fFz (fMtS gJoin (fC (.str "")) (fCons (fFz (fLc [2] (fRng D.rng1 (fCons (fCallS 0 1 F__law_below (fCons (fFz (fBin gAdd (fVar 1) (fC (.int 1)))) fNil)) fNil)) (gSet 2) fYes (fCallS 0 1 F__law_pick (fCons (fFz (fLst (fCons (fC (.str "0")) (fCons (fC (.str "1")) fNil)))) fNil)))) fNil))))
theorem ok__law_vdrawbits {f : Addr} {fd : FuncData} (T : Txt g) (h__law_below : OkS g 1 1 "_law_below" F__law_below) (h__law_pick : OkS g 2 1 "_law_pick" F__law_pick) (F : Fun g.K "_law_vdrawbits" "_law_vdrawbits" s__law_vdrawbits f fd) (hm : g.mg "_law_vdrawbits" = some (.ref f)) (hb : Binds g.K fd ["stream", "most"] []) : OkS g 3 1 "_law_vdrawbits" F__law_vdrawbits :=
  ok_S (fn_S (k := 2) F sc__law_vdrawbits fun cdv A outer s H E hr =>
    (dss_one (ds_ret (DO.fz (do_mtS PySem.F.plainAttrs_str PySem.F.slot_str_join PySem.F.type_str_join md_join de_str (da_cons (DO.fz (do_lc (own := [("step", 2)]) rfl sc__law_vdrawbits.nd (it_range1 (by rfl) T.n_range (da_cons (de_callS (i := 0) h__law_below ⟨rfl, rfl, rfl, rfl, rfl⟩ hr (by decide) (by rfl) pass_cx (da_cons (DO.fz (do_bin od_add (de_var 1) de_int)) da_nil)) da_nil)) (blkOk_by (own := [("step", 2)]) (N := N__law_vdrawbits) (sc := defScope s__law_vdrawbits) (by decide +kernel)) (by decide) (fun _ _ _ _ _ => (dt_name sc__law_vdrawbits.nd)) (fun _ _ _ _ _ => dts_nil) (fun _ _ _ _ _ => (de_callS (i := 0) h__law_pick ⟨rfl, rfl, rfl, rfl, rfl⟩ hr (by decide) (by rfl) passL (da_cons (DO.fz (do_lst (da_cons de_str (da_cons de_str da_nil)))) da_nil))))) da_nil)))))) rfl hm F.kp hb
/-! ### _law_copied -/
abbrev s__law_copied : Stmt := topS 36
abbrev N__law_copied : List Str := ["thing", "found", "key", "part"]
theorem sc__law_copied : FnScope N__law_copied ["thing"] (defScope s__law_copied) := ⟨rfl, rfl, rfl, by decide +kernel, rfl, by decide +kernel, by decide +kernel⟩
def F__law_copied : Nat → List D → R D
  | 0 => fun _ => .bad
  | n + 1 => runP N__law_copied
    (fSeq (fIf (fTru (fIsi ["dict"] (fVar 0))) fNever fNext)
    (fSeq (fIf (fNot (fTru (fIsi ["list", "tuple"] (fVar 0)))) (fRet (fVar 0)) fNext)
    (fSeq (fAsg (fLc [3] (fIter (fVar 0)) (gSet 3) fYes (fCallP 1 (F__law_copied n) (fCons (fVar 3) fNil))) (gSet 1))
    (fRet (fIf (fTru (fIsi ["list"] (fVar 0))) (fVar 1) (fFz (fCall gTuple (fCons (fVar 1) fNil))))))))
theorem ok__law_copied {f : Addr} {fd : FuncData} (T : Txt g)  (F : Fun g.K "_law_copied" "_law_copied" s__law_copied f fd) (hm : g.mg "_law_copied" = some (.ref f)) (hb : Binds g.K fd ["thing"] []) : ∀ n : Nat, OkP g (1 + n) 1 "_law_copied" (F__law_copied n)
  | 0 => ok_P (fn_bad (fun _ => rfl) rfl) rfl hm F.kp hb
  | n + 1 => by
    have h__law_copied := ok__law_copied T  F hm hb n
    exact ok_P (fn_P (k := 1 + n) F sc__law_copied fun cdv A outer s H E hr =>
    (dss_cons (ds_if (dt_tru (de_isi (by rfl) T.n_isinstance (de_var 0) (ty_n (by rfl) T.n_dict (by decide +kernel)))) (dss_one ds_never) dss_nil)
    (dss_cons (ds_if (dt_not (dt_tru (de_isiT (by rfl) T.n_isinstance (de_var 0) (.cons (ty_n (by rfl) T.n_list (by decide +kernel)) (.cons (ty_n (by rfl) T.n_tuple (by decide +kernel)) .nil))))) (dss_one (ds_ret (de_var 0))) dss_nil)
    (dss_cons (ds_setLc (own := [("part", 3)]) (i := 1) rfl sc__law_copied.nd rfl rfl (sw_true rfl rfl rfl (by decide +kernel)) (it_any (de_var 0)) (blkOk_by (own := [("part", 3)]) (N := N__law_copied) (sc := defScope s__law_copied) (by decide +kernel)) (by decide) (fun _ _ _ _ _ => (dt_name sc__law_copied.nd)) (fun _ _ _ _ _ => dts_nil) (fun _ _ _ _ _ => (de_callP h__law_copied ⟨rfl, rfl, rfl, rfl, rfl⟩ hr (Nat.le_refl _) (by rfl) passL (da_cons (de_var 3) da_nil))))
    (dss_one (ds_ret (de_if (dt_tru (de_isi (by rfl) T.n_isinstance (de_var 0) (ty_n (by rfl) T.n_list (by decide +kernel)))) (de_var 1) (DO.fz (do_callTy cd_tuple (by rfl) T.n_tuple (by decide +kernel) (da_cons (de_var 1) da_nil)))))))))) rfl hm F.kp hb
/-! ### _law_mixed -/
abbrev s__law_mixed : Stmt := topS 35
abbrev N__law_mixed : List Str := ["stream", "some", "left", "k"]
theorem sc__law_mixed : FnScope N__law_mixed ["stream", "some"] (defScope s__law_mixed) := ⟨rfl, rfl, rfl, by decide +kernel, rfl, by decide +kernel, by decide +kernel⟩
def F__law_mixed : List D → Strm → R (D × Strm) := runS N__law_mixed
    (fSeq (fAsg (fCall gList (fCons (fVar 1) fNil)) (gSet 2))
    (fRet (fFz (fLc [3] (fRng D.rng1 (fCons (fFz (fCall gLen (fCons (fVar 2) fNil))) fNil)) (gSet 3) fYes (fFz (fPopAt 2 (fCallS 0 1 F__law_below (fCons (fFz (fCall gLen (fCons (fVar 2) fNil))) fNil))))))))
theorem ok__law_mixed {f : Addr} {fd : FuncData} (T : Txt g) (h__law_below : OkS g 1 1 "_law_below" F__law_below) (F : Fun g.K "_law_mixed" "_law_mixed" s__law_mixed f fd) (hm : g.mg "_law_mixed" = some (.ref f)) (hb : Binds g.K fd ["stream", "some"] []) : OkS g 2 1 "_law_mixed" F__law_mixed :=
  ok_S (fn_S (k := 1) F sc__law_mixed fun cdv A outer s H E hr =>
    (dss_cons (ds_set (i := 2) sc__law_mixed.nd (do_callTy cd_list (by rfl) T.n_list (by decide +kernel) (da_cons (de_var 1) da_nil)))
    (dss_one (ds_ret (DO.fz (do_lc (own := [("k", 3)]) rfl sc__law_mixed.nd (it_range1 (by rfl) T.n_range (da_cons (DO.fz (do_callB cd_len (by rfl) T.n_len (by decide +kernel) (da_cons (de_var 2) da_nil))) da_nil)) (blkOk_by (own := [("k", 3)]) (N := N__law_mixed) (sc := defScope s__law_mixed) (by decide +kernel)) (by decide) (fun _ _ _ _ _ => (dt_name sc__law_mixed.nd)) (fun _ _ _ _ _ => dts_nil) (fun _ _ _ _ _ => (DO.fz (do_popAt 2 (de_callS (i := 0) h__law_below ⟨rfl, rfl, rfl, rfl, rfl⟩ hr (by decide) (by rfl) passL (da_cons (DO.fz (do_callB cd_len (by rfl) T.n_len (by decide +kernel) (da_cons (de_var 2) da_nil))) da_nil))))))))))) rfl hm F.kp hb
/-! ### _law_loose -/
abbrev s__law_loose : Stmt := topS 38
abbrev N__law_loose : List Str := ["stream", "thing", "found", "key", "part"]
theorem sc__law_loose : FnScope N__law_loose ["stream", "thing"] (defScope s__law_loose) := ⟨rfl, rfl, rfl, by decide +kernel, rfl, by decide +kernel, by decide +kernel⟩
def F__law_loose : Nat → List D → Strm → R (D × Strm)
  | 0 => fun _ _ => .bad
  | n + 1 => runS N__law_loose
    (fSeq (fIf (fTru (fIsi ["dict"] (fVar 1))) fNever fNext)
    (fSeq (fIf (fNot (fTru (fIsi ["list", "tuple"] (fVar 1)))) (fRet (fVar 1)) fNext)
    (fSeq (fAsg (fLc [4] (fIter (fVar 1)) (gSet 4) fYes (fCallS 0 1 (F__law_loose n) (fCons (fVar 4) fNil))) (gSet 2))
    (fRet (fIf (fBool (fBin gEq (fCallS 0 1 F__law_below (fCons (fC (.int 2)) fNil)) (fC (.int 0)))) (fVar 2) (fFz (fCall gTuple (fCons (fVar 2) fNil))))))))
theorem ok__law_loose {f : Addr} {fd : FuncData} (T : Txt g) (h__law_below : OkS g 1 1 "_law_below" F__law_below) (F : Fun g.K "_law_loose" "_law_loose" s__law_loose f fd) (hm : g.mg "_law_loose" = some (.ref f)) (hb : Binds g.K fd ["stream", "thing"] []) : ∀ n : Nat, OkS g (2 + n) 1 "_law_loose" (F__law_loose n)
  | 0 => ok_S (fn_badS (fun _ _ => rfl) rfl) rfl hm F.kp hb
  | n + 1 => by
    have h__law_loose := ok__law_loose T h__law_below F hm hb n
    exact ok_S (fn_S (k := 2 + n) F sc__law_loose fun cdv A outer s H E hr =>
    (dss_cons (ds_if (dt_tru (de_isi (by rfl) T.n_isinstance (de_var 1) (ty_n (by rfl) T.n_dict (by decide +kernel)))) (dss_one ds_never) dss_nil)
    (dss_cons (ds_if (dt_not (dt_tru (de_isiT (by rfl) T.n_isinstance (de_var 1) (.cons (ty_n (by rfl) T.n_list (by decide +kernel)) (.cons (ty_n (by rfl) T.n_tuple (by decide +kernel)) .nil))))) (dss_one (ds_ret (de_var 1))) dss_nil)
    (dss_cons (ds_setLc (own := [("part", 4)]) (i := 2) rfl sc__law_loose.nd rfl rfl (sw_true rfl rfl rfl (by decide +kernel)) (it_any (de_var 1)) (blkOk_by (own := [("part", 4)]) (N := N__law_loose) (sc := defScope s__law_loose) (by decide +kernel)) (by decide) (fun _ _ _ _ _ => (dt_name sc__law_loose.nd)) (fun _ _ _ _ _ => dts_nil) (fun _ _ _ _ _ => (de_callS (i := 0) h__law_loose ⟨rfl, rfl, rfl, rfl, rfl⟩ hr (Nat.le_refl _) (by rfl) passL (da_cons (de_var 4) da_nil))))
    (dss_one (ds_ret (de_if (dt_cmp (od_eq (Room.units hr)) (de_callS (i := 0) h__law_below ⟨rfl, rfl, rfl, rfl, rfl⟩ hr (by omega) (by rfl) pass_cx (da_cons de_int da_nil)) de_int (nomark _)) (de_var 2) (DO.fz (do_callTy cd_tuple (by rfl) T.n_tuple (by decide +kernel) (da_cons (de_var 2) da_nil)))))))))) rfl hm F.kp hb
/-! ### bits_in -/
abbrev s_bits_in : Stmt := topS 22
abbrev N_bits_in : List Str := ["width", "words", "spare", "signs", "word", "place"]
theorem sc_bits_in : FnScope N_bits_in ["width", "words", "spare"] (defScope s_bits_in) := ⟨rfl, rfl, rfl, by decide +kernel, rfl, by decide +kernel, by decide +kernel⟩
def F_bits_in : List D → R D := runP N_bits_in
    (fSeq (fAsg (fLc2 [4, 5] [5] (fIter (fVar 1)) (gSet 4) fYes (fRng D.rng3 (fCons (fFz (fBin gSub (fVar 0) (fC (.int 1)))) (fCons (fFz (fUn gNeg (fC (.int 1)))) (fCons (fFz (fUn gNeg (fC (.int 1)))) fNil)))) (gSet 5) fYes (fIf (fTru (fFz (fBin gBand (fFz (fBin gShr (fVar 4) (fVar 5))) (fC (.int 1))))) (fC (.str "1")) (fC (.str "0")))) (gSet 3))
    (fRet (fFz (fMtS gJoin (fC (.str "")) (fCons (fFz (fSl gSl (fVar 3) fNoP (fPart (fFz (fBin gSub (fFz (fCall gLen (fCons (fVar 3) fNil))) (fVar 2)))))) fNil)))))
theorem ok_bits_in {f : Addr} {fd : FuncData} (T : Txt g)  (F : Fun g.K "bits_in" "bits_in" s_bits_in f fd) (hm : g.mg "bits_in" = some (.ref f)) (hb : Binds g.K fd ["width", "words", "spare"] []) : OkP g 1 3 "bits_in" F_bits_in :=
  ok_P (fn_P (k := 0) F sc_bits_in fun cdv A outer s H E hr =>
    (dss_cons (ds_setLc2 (own := [("word", 4), ("place", 5)]) (i := 3) rfl sc_bits_in.nd rfl rfl (sw_true rfl rfl rfl (by decide +kernel)) (it_any (de_var 1)) (blkOk_by (own := [("word", 4), ("place", 5)]) (N := N_bits_in) (sc := defScope s_bits_in) (by decide +kernel)) (by decide) (vs1 := [5]) (by decide) (by decide) (fun _ _ _ _ _ => (dt_name sc_bits_in.nd)) (fun _ _ _ _ _ => dts_nil) (fun _ _ _ _ _ => (it_range3 (by rfl) T.n_range (da_cons (DO.fz (do_bin od_sub (de_var 0) de_int)) (da_cons (DO.fz (do_un ud_neg de_int)) (da_cons (DO.fz (do_un ud_neg de_int)) da_nil))))) (fun _ _ _ _ _ => (dt_name sc_bits_in.nd)) (fun _ _ _ _ _ => dts_nil) (fun _ _ _ _ _ => (de_if (dt_tru (DO.fz (do_bin od_band (DO.fz (do_bin od_shr (de_var 4) (de_var 5))) de_int))) de_str de_str)))
    (dss_one (ds_ret (DO.fz (do_mtS PySem.F.plainAttrs_str PySem.F.slot_str_join PySem.F.type_str_join md_join de_str (da_cons (DO.fz (do_sl sd_sl (de_var 3) dp_none (dp_some (DO.fz (do_bin od_sub (DO.fz (do_callB cd_len (by rfl) T.n_len (by decide +kernel) (da_cons (de_var 3) da_nil))) (de_var 2)))))) da_nil))))))) rfl hm F.kp hb
/-! ### image_or_why -/
abbrev s_image_or_why : Stmt := topS 29
abbrev N_image_or_why : List Str := ["width", "thing", "why"]
theorem sc_image_or_why : FnScope N_image_or_why ["width", "thing"] (defScope s_image_or_why) := ⟨rfl, rfl, rfl, by decide +kernel, rfl, by decide +kernel, by decide +kernel⟩
def F_image_or_why : List D → R D := runP N_image_or_why
    (fSeq (fDrop (fSh (fCallP 1 F_need_width (fCons (fVar 0) fNil))))
    (fSeq (fAsg (fSh (fCallP 2 F_why_not (fCons (fVar 0) (fCons (fVar 1) fNil)))) (gSet 2))
    (fSeq (fIf (fBool (fBin (gIs true) (fVar 2) (fC .non))) (fRet (fTup (fCons (fC (.str "not")) (fCons (fVar 2) fNil)))) fNext)
    (fRet (fTup (fCons (fC (.str "image")) (fCons (fFz (fBin gIx (fVar 1) (fC (.int 0)))) (fCons (fCallP 3 F_bits_in (fCons (fVar 0) (fCons (fFz (fSl gSl (fVar 1) (fPart (fC (.int 5))) fNoP)) (fCons (fFz (fBin gIx (fVar 1) (fC (.int 2)))) fNil)))) fNil))))))))
theorem ok_image_or_why {f : Addr} {fd : FuncData} (T : Txt g) (h_need_width : OkP g 2 1 "need_width" F_need_width) (h_bits_in : OkP g 1 3 "bits_in" F_bits_in) (h_why_not : OkP g 5 2 "why_not" F_why_not) (F : Fun g.K "image_or_why" "image_or_why" s_image_or_why f fd) (hm : g.mg "image_or_why" = some (.ref f)) (hb : Binds g.K fd ["width", "thing"] []) : OkP g 6 2 "image_or_why" F_image_or_why :=
  ok_P (fn_P (k := 5) F sc_image_or_why fun cdv A outer s H E hr =>
    (dss_cons (ds_expr (DE.o (de_callP h_need_width ⟨rfl, rfl, rfl, rfl, rfl⟩ hr (by decide) (by rfl) pass_cx (da_cons (de_var 0) da_nil))))
    (dss_cons (ds_set (i := 2) sc_image_or_why.nd (DE.o (de_callP h_why_not ⟨rfl, rfl, rfl, rfl, rfl⟩ hr (by decide) (by rfl) pass_cx (da_cons (de_var 0) (da_cons (de_var 1) da_nil)))))
    (dss_cons (ds_if (dt_cmp od_isnt (de_var 2) de_non (nomark _)) (dss_one (ds_ret (de_tup (da_cons de_str (da_cons (de_var 2) da_nil))))) dss_nil)
    (dss_one (ds_ret (de_tup (da_cons de_str (da_cons (DO.fz (do_ix xd_ix (de_var 1) de_int)) (da_cons (de_callP h_bits_in ⟨rfl, rfl, rfl, rfl, rfl⟩ hr (by decide) (by rfl) pass_cx (da_cons (de_var 0) (da_cons (DO.fz (do_sl sd_sl (de_var 1) (dp_some de_int) dp_none)) (da_cons (DO.fz (do_ix xd_ix (de_var 1) de_int)) da_nil)))) da_nil)))))))))) rfl hm F.kp hb
/-! ### words_of -/
abbrev s_words_of : Stmt := topS 27
abbrev N_words_of : List Str := ["width", "bits"]
theorem sc_words_of : FnScope N_words_of ["width", "bits"] (defScope s_words_of) := ⟨rfl, rfl, rfl, by decide +kernel, rfl, by decide +kernel, by decide +kernel⟩
def F_words_of : List D → R D := runP N_words_of
    (fSeq (fDrop (fSh (fCallP 1 F_need_width (fCons (fVar 0) fNil))))
    (fSeq (fDrop (fSh (fCallP 1 F_need_bits (fCons (fVar 1) fNil))))
    (fRet (fCallP 2 F_packed_words (fCons (fVar 0) (fCons (fVar 1) fNil))))))
theorem ok_words_of {f : Addr} {fd : FuncData} (T : Txt g) (h_need_width : OkP g 2 1 "need_width" F_need_width) (h_packed_words : OkP g 1 2 "packed_words" F_packed_words) (h_need_bits : OkP g 2 1 "need_bits" F_need_bits) (F : Fun g.K "words_of" "words_of" s_words_of f fd) (hm : g.mg "words_of" = some (.ref f)) (hb : Binds g.K fd ["width", "bits"] []) : OkP g 3 2 "words_of" F_words_of :=
  ok_P (fn_P (k := 2) F sc_words_of fun cdv A outer s H E hr =>
    (dss_cons (ds_expr (DE.o (de_callP h_need_width ⟨rfl, rfl, rfl, rfl, rfl⟩ hr (by decide) (by rfl) pass_cx (da_cons (de_var 0) da_nil))))
    (dss_cons (ds_expr (DE.o (de_callP h_need_bits ⟨rfl, rfl, rfl, rfl, rfl⟩ hr (by decide) (by rfl) pass_cx (da_cons (de_var 1) da_nil))))
    (dss_one (ds_ret (de_callP h_packed_words ⟨rfl, rfl, rfl, rfl, rfl⟩ hr (by decide) (by rfl) pass_cx (da_cons (de_var 0) (da_cons (de_var 1) da_nil)))))))) rfl hm F.kp hb
/-! ### _law_vsigns -/
abbrev s__law_vsigns : Stmt := topS 44
abbrev N__law_vsigns : List Str := ["width", "words", "spare", "found", "word", "step"]
theorem sc__law_vsigns : FnScope N__law_vsigns ["width", "words", "spare"] (defScope s__law_vsigns) := ⟨rfl, rfl, rfl, by decide +kernel, rfl, by decide +kernel, by decide +kernel⟩
def F__law_vsigns : List D → R D := runP N__law_vsigns
    (fSeq (fAsg (fLst fNil) (gSet 3))
    (fSeq (fFor (fIter (fVar 1)) (gSet 4)
    (fFor (fRng D.rng3 (fCons (fFz (fBin gSub (fVar 0) (fC (.int 1)))) (fCons (fFz (fUn gNeg (fC (.int 1)))) (fCons (fFz (fUn gNeg (fC (.int 1)))) fNil)))) (gSet 5)
    (fDrop (fApp 3 (fIf (fTru (fFz (fBin gBand (fVar 4) (fCallP 1 F__law_vpow (fCons (fVar 5) fNil))))) (fC (.str "1")) (fC (.str "0")))))))
    (fRet (fFz (fMtS gJoin (fC (.str "")) (fCons (fFz (fSl gSl (fVar 3) fNoP (fPart (fFz (fBin gSub (fFz (fCall gLen (fCons (fVar 3) fNil))) (fVar 2)))))) fNil))))))
theorem ok__law_vsigns {f : Addr} {fd : FuncData} (T : Txt g) (h__law_vpow : OkP g 1 1 "_law_vpow" F__law_vpow) (F : Fun g.K "_law_vsigns" "_law_vsigns" s__law_vsigns f fd) (hm : g.mg "_law_vsigns" = some (.ref f)) (hb : Binds g.K fd ["width", "words", "spare"] []) : OkP g 2 3 "_law_vsigns" F__law_vsigns :=
  ok_P (fn_P (k := 1) F sc__law_vsigns fun cdv A outer s H E hr =>
    (dss_cons (ds_set (i := 3) sc__law_vsigns.nd (do_lst da_nil))
    (dss_cons (ds_for own_cx rfl (it_any (de_var 1)) (dt_name sc__law_vsigns.nd)
    (dss_one (ds_for own_cx rfl (it_range3 (by rfl) T.n_range (da_cons (DO.fz (do_bin od_sub (de_var 0) de_int)) (da_cons (DO.fz (do_un ud_neg de_int)) (da_cons (DO.fz (do_un ud_neg de_int)) da_nil)))) (dt_name sc__law_vsigns.nd)
    (dss_one (ds_expr (do_app 3 (de_if (dt_tru (DO.fz (do_bin od_band (de_var 4) (de_callP h__law_vpow ⟨rfl, rfl, rfl, rfl, rfl⟩ hr (by decide) (by rfl) pass_cx (da_cons (de_var 5) da_nil))))) de_str de_str)))))))
    (dss_one (ds_ret (DO.fz (do_mtS PySem.F.plainAttrs_str PySem.F.slot_str_join PySem.F.type_str_join md_join de_str (da_cons (DO.fz (do_sl sd_sl (de_var 3) dp_none (dp_some (DO.fz (do_bin od_sub (DO.fz (do_callB cd_len (by rfl) T.n_len (by decide +kernel) (da_cons (de_var 3) da_nil))) (de_var 2)))))) da_nil)))))))) rfl hm F.kp hb
/-! ### _law_vwhy -/
abbrev s__law_vwhy : Stmt := topS 45
abbrev N__law_vwhy : List Str := ["width", "thing", "ones_v", "version", "many", "spare", "body"]
theorem sc__law_vwhy : FnScope N__law_vwhy ["width", "thing"] (defScope s__law_vwhy) := ⟨rfl, rfl, rfl, by decide +kernel, rfl, by decide +kernel, by decide +kernel⟩
def F__law_vwhy : List D → R D := runP N__law_vwhy
    (fSeq (fAsg (fBin gSub (fCallP 1 F__law_vpow (fCons (fVar 0) fNil)) (fC (.int 1))) (gSet 2))
    (fSeq (fIf (fBool (fBin gLt (fFz (fCall gLen (fCons (fVar 1) fNil))) (fC (.int 5)))) (fRet (fTup (fCons (fC (.str "not")) (fCons (fC (.str "list")) fNil)))) fNext)
    (fSeq (fPar [3, 4, 5, 6] (fConsO (fBin gIx (fVar 1) (fC (.int 0))) (fConsO (fBin gIx (fVar 1) (fC (.int 1))) (fConsO (fBin gIx (fVar 1) (fC (.int 2))) (fConsO (fCall gList (fCons (fFz (fSl gSl (fVar 1) (fPart (fC (.int 5))) fNoP)) fNil)) fNilO)))))
    (fSeq (fIf (fBool (fBin gEq (fVar 3) (fVar 2))) (fRet (fTup (fCons (fC (.str "not")) (fCons (fC (.str "version")) fNil)))) fNext)
    (fSeq (fIf (fOr (fBool (fBin gNe (fVar 4) (fFz (fCall gLen (fCons (fVar 6) fNil))))) (fBool (fBin gEq (fVar 4) (fVar 2)))) (fRet (fTup (fCons (fC (.str "not")) (fCons (fC (.str "many")) fNil)))) fNext)
    (fSeq (fIf (fOr (fBool (fBin gGe (fVar 5) (fVar 0))) (fAnd (fBool (fBin gEq (fVar 4) (fC (.int 0)))) (fBool (fBin gNe (fVar 5) (fC (.int 0)))))) (fRet (fTup (fCons (fC (.str "not")) (fCons (fC (.str "spare")) fNil)))) fNext)
    (fSeq (fIf (fAnd (fBool (fBin gGt (fVar 4) (fC (.int 0)))) (fBool (fBin gNe (fFz (fBin gMod (fFz (fBin gIx (fVar 6) (fFz (fUn gNeg (fC (.int 1)))))) (fCallP 1 F__law_vpow (fCons (fVar 5) fNil)))) (fC (.int 0))))) (fRet (fTup (fCons (fC (.str "not")) (fCons (fC (.str "rest")) fNil)))) fNext)
    (fSeq (fIf (fBool (fBin gNe (fTup (fCons (fFz (fBin gIx (fVar 1) (fC (.int 3)))) (fCons (fFz (fBin gIx (fVar 1) (fC (.int 4)))) fNil))) (fCallP 2 F__law_vsums (fCons (fVar 0) (fCons (fFz (fBin gAdd (fFz (fCall gList (fCons (fFz (fSl gSl (fVar 1) fNoP (fPart (fC (.int 3))))) fNil))) (fVar 6))) fNil))))) (fRet (fTup (fCons (fC (.str "not")) (fCons (fC (.str "sums")) fNil)))) fNext)
    (fRet (fTup (fCons (fC (.str "image")) (fCons (fVar 3) (fCons (fCallP 3 F__law_vsigns (fCons (fVar 0) (fCons (fVar 6) (fCons (fVar 5) fNil)))) fNil)))))))))))))
theorem ok__law_vwhy {f : Addr} {fd : FuncData} (T : Txt g) (h__law_vpow : OkP g 1 1 "_law_vpow" F__law_vpow) (h__law_vsums : OkP g 2 2 "_law_vsums" F__law_vsums) (h__law_vsigns : OkP g 2 3 "_law_vsigns" F__law_vsigns) (F : Fun g.K "_law_vwhy" "_law_vwhy" s__law_vwhy f fd) (hm : g.mg "_law_vwhy" = some (.ref f)) (hb : Binds g.K fd ["width", "thing"] []) : OkP g 3 2 "_law_vwhy" F__law_vwhy :=
  ok_P (fn_P (k := 2) F sc__law_vwhy fun cdv A outer s H E hr =>
    (dss_cons (ds_set (i := 2) sc__law_vwhy.nd (do_bin od_sub (de_callP h__law_vpow ⟨rfl, rfl, rfl, rfl, rfl⟩ hr (by decide) (by rfl) pass_cx (da_cons (de_var 0) da_nil)) de_int))
    (dss_cons (ds_if (dt_cmp od_lt (DO.fz (do_callB cd_len (by rfl) T.n_len (by decide +kernel) (da_cons (de_var 1) da_nil))) de_int (nomark _)) (dss_one (ds_ret (de_tup (da_cons de_str (da_cons de_str da_nil))))) dss_nil)
    (dss_cons (ds_parN rfl (.cons sc__law_vwhy.nd (.cons sc__law_vwhy.nd (.cons sc__law_vwhy.nd (.cons sc__law_vwhy.nd .nil)))) (dao_cons (do_ix xd_ix (de_var 1) de_int) (dao_cons (do_ix xd_ix (de_var 1) de_int) (dao_cons (do_ix xd_ix (de_var 1) de_int) (dao_cons (do_callTy cd_list (by rfl) T.n_list (by decide +kernel) (da_cons (DO.fz (do_sl sd_sl (de_var 1) (dp_some de_int) dp_none)) da_nil)) dao_nil)))))
    (dss_cons (ds_if (dt_cmp (od_eq (Room.units hr)) (de_var 3) (de_var 2) (nomark _)) (dss_one (ds_ret (de_tup (da_cons de_str (da_cons de_str da_nil))))) dss_nil)
    (dss_cons (ds_if (DW.t (dw_or (dt_cmp (od_ne (Room.units hr)) (de_var 4) (DO.fz (do_callB cd_len (by rfl) T.n_len (by decide +kernel) (da_cons (de_var 6) da_nil))) (nomark _)) (dw_or1 (dt_cmp (od_eq (Room.units hr)) (de_var 4) (de_var 2) (nomark _))))) (dss_one (ds_ret (de_tup (da_cons de_str (da_cons de_str da_nil))))) dss_nil)
    (dss_cons (ds_if (DW.t (dw_or (dt_cmp od_ge (de_var 5) (de_var 0) (nomark _)) (dw_or1 (DW.t (dw_and (dt_cmp (od_eq (Room.units hr)) (de_var 4) de_int (nomark _)) (dw_and1 (dt_cmp (od_ne (Room.units hr)) (de_var 5) de_int (nomark _)))))))) (dss_one (ds_ret (de_tup (da_cons de_str (da_cons de_str da_nil))))) dss_nil)
    (dss_cons (ds_if (DW.t (dw_and (dt_cmp od_gt (de_var 4) de_int (nomark _)) (dw_and1 (dt_cmp (od_ne (Room.units hr)) (DO.fz (do_bin od_mod (DO.fz (do_ix xd_ix (de_var 6) (DO.fz (do_un ud_neg de_int)))) (de_callP h__law_vpow ⟨rfl, rfl, rfl, rfl, rfl⟩ hr (by decide) (by rfl) pass_cx (da_cons (de_var 5) da_nil)))) de_int (nomark _))))) (dss_one (ds_ret (de_tup (da_cons de_str (da_cons de_str da_nil))))) dss_nil)
    (dss_cons (ds_if (dt_cmp (od_ne (Room.units hr)) (de_tup (da_cons (DO.fz (do_ix xd_ix (de_var 1) de_int)) (da_cons (DO.fz (do_ix xd_ix (de_var 1) de_int)) da_nil))) (de_callP h__law_vsums ⟨rfl, rfl, rfl, rfl, rfl⟩ hr (by decide) (by rfl) pass_cx (da_cons (de_var 0) (da_cons (DO.fz (do_bin od_add (DO.fz (do_callTy cd_list (by rfl) T.n_list (by decide +kernel) (da_cons (DO.fz (do_sl sd_sl (de_var 1) dp_none (dp_some de_int))) da_nil))) (de_var 6))) da_nil))) (nomark _)) (dss_one (ds_ret (de_tup (da_cons de_str (da_cons de_str da_nil))))) dss_nil)
    (dss_one (ds_ret (de_tup (da_cons de_str (da_cons (de_var 3) (da_cons (de_callP h__law_vsigns ⟨rfl, rfl, rfl, rfl, rfl⟩ hr (by decide) (by rfl) pass_cx (da_cons (de_var 0) (da_cons (de_var 6) (da_cons (de_var 5) da_nil)))) da_nil))))))))))))))) rfl hm F.kp hb
/-! ### _law_vmark -/
abbrev s__law_vmark : Stmt := topS 40
abbrev N__law_vmark : List Str := ["width", "step"]
theorem sc__law_vmark : FnScope N__law_vmark ["width"] (defScope s__law_vmark) := ⟨rfl, rfl, rfl, by decide +kernel, rfl, by decide +kernel, by decide +kernel⟩
def F__law_vmark : List D → R D := runP N__law_vmark
    (fRet (fFz (fCall gSum (fCons (fFz (fLc [1] (fRng D.rng3 (fCons (fC (.int 0)) (fCons (fVar 0) (fCons (fC (.int 2)) fNil)))) (gSet 1) fYes (fCallP 1 F__law_vpow (fCons (fVar 1) fNil)))) fNil))))
theorem ok__law_vmark {f : Addr} {fd : FuncData} (T : Txt g) (h__law_vpow : OkP g 1 1 "_law_vpow" F__law_vpow) (F : Fun g.K "_law_vmark" "_law_vmark" s__law_vmark f fd) (hm : g.mg "_law_vmark" = some (.ref f)) (hb : Binds g.K fd ["width"] []) : OkP g 2 1 "_law_vmark" F__law_vmark :=
  ok_P (fn_P (k := 1) F sc__law_vmark fun cdv A outer s H E hr =>
    (dss_one (ds_ret (DO.fz (do_callB (cd_sum rfl) (by rfl) T.n_sum (by decide +kernel) (da_cons (DO.fz (do_lc (own := [("step", 1)]) rfl sc__law_vmark.nd (it_range3 (by rfl) T.n_range (da_cons de_int (da_cons (de_var 0) (da_cons de_int da_nil)))) (blkOk_by (own := [("step", 1)]) (N := N__law_vmark) (sc := defScope s__law_vmark) (by decide +kernel)) (by decide) (fun _ _ _ _ _ => (dt_name sc__law_vmark.nd)) (fun _ _ _ _ _ => dts_nil) (fun _ _ _ _ _ => (de_callP h__law_vpow ⟨rfl, rfl, rfl, rfl, rfl⟩ hr (by decide) (by rfl) passL (da_cons (de_var 1) da_nil))))) da_nil)))))) rfl hm F.kp hb
/-! ### _law_vword -/
abbrev s__law_vword : Stmt := topS 47
abbrev N__law_vword : List Str := ["stream", "width", "ones_v"]
theorem sc__law_vword : FnScope N__law_vword ["stream", "width"] (defScope s__law_vword) := ⟨rfl, rfl, rfl, by decide +kernel, rfl, by decide +kernel, by decide +kernel⟩
def F__law_vword : List D → Strm → R (D × Strm) := runS N__law_vword
    (fSeq (fAsg (fBin gSub (fCallP 1 F__law_vpow (fCons (fVar 1) fNil)) (fC (.int 1))) (gSet 2))
    (fRet (fCallS 0 1 F__law_pick (fCons (fFz (fLst (fCons (fC (.int 0)) (fCons (fVar 2) (fCons (fCallP 1 F__law_vmark (fCons (fVar 1) fNil)) (fCons (fCallS 0 1 F__law_below (fCons (fFz (fBin gAdd (fVar 2) (fC (.int 1)))) fNil)) (fCons (fCallS 0 1 F__law_below (fCons (fFz (fBin gAdd (fVar 2) (fC (.int 1)))) fNil)) (fCons (fCallS 0 1 F__law_below (fCons (fFz (fBin gAdd (fVar 2) (fC (.int 1)))) fNil)) fNil)))))))) fNil))))
theorem ok__law_vword {f : Addr} {fd : FuncData} (T : Txt g) (h__law_below : OkS g 1 1 "_law_below" F__law_below) (h__law_pick : OkS g 2 1 "_law_pick" F__law_pick) (h__law_vpow : OkP g 1 1 "_law_vpow" F__law_vpow) (h__law_vmark : OkP g 2 1 "_law_vmark" F__law_vmark) (F : Fun g.K "_law_vword" "_law_vword" s__law_vword f fd) (hm : g.mg "_law_vword" = some (.ref f)) (hb : Binds g.K fd ["stream", "width"] []) : OkS g 3 1 "_law_vword" F__law_vword :=
  ok_S (fn_S (k := 2) F sc__law_vword fun cdv A outer s H E hr =>
    (dss_cons (ds_set (i := 2) sc__law_vword.nd (do_bin od_sub (de_callP h__law_vpow ⟨rfl, rfl, rfl, rfl, rfl⟩ hr (by decide) (by rfl) pass_cx (da_cons (de_var 1) da_nil)) de_int))
    (dss_one (ds_ret (de_callS (i := 0) h__law_pick ⟨rfl, rfl, rfl, rfl, rfl⟩ hr (by decide) (by rfl) pass_cx (da_cons (DO.fz (do_lst (da_cons de_int (da_cons (de_var 2) (da_cons (de_callP h__law_vmark ⟨rfl, rfl, rfl, rfl, rfl⟩ hr (by decide) (by rfl) pass_cx (da_cons (de_var 1) da_nil)) (da_cons (de_callS (i := 0) h__law_below ⟨rfl, rfl, rfl, rfl, rfl⟩ hr (by decide) (by rfl) pass_cx (da_cons (DO.fz (do_bin od_add (de_var 2) de_int)) da_nil)) (da_cons (de_callS (i := 0) h__law_below ⟨rfl, rfl, rfl, rfl, rfl⟩ hr (by decide) (by rfl) pass_cx (da_cons (DO.fz (do_bin od_add (de_var 2) de_int)) da_nil)) (da_cons (de_callS (i := 0) h__law_below ⟨rfl, rfl, rfl, rfl, rfl⟩ hr (by decide) (by rfl) pass_cx (da_cons (DO.fz (do_bin od_add (de_var 2) de_int)) da_nil)) da_nil)))))))) da_nil)))))) rfl hm F.kp hb
/-! ### law -/
abbrev s_law : Stmt := topS 48
abbrev N_law : List Str := ["script", "stream", "turn", "width", "ones_v", "words", "look", "due", "many", "longer", "rest", "turned", "both", "bits", "image", "told", "other", "again"]
theorem sc_law : FnScope N_law ["script"] (defScope s_law) := ⟨rfl, rfl, rfl, by decide +kernel, rfl, by decide +kernel, by decide +kernel⟩
def F_law : DS → R (Fl × DS) :=
    (fSeq (fFor (fRng D.rng1 (fCons (fC (.int 4)) fNil)) (gSet 2)
    (fSeq (fAsg (fBin gAdd (fC (.int 4)) (fCallS 1 1 F__law_below (fCons (fC (.int 13)) fNil))) (gSet 3))
    (fSeq (fPar [4, 5] (fConsO (fBin gSub (fCallP 1 F__law_vpow (fCons (fVar 3) fNil)) (fC (.int 1))) (fConsO (fLst fNil) fNilO)))
    (fSeq (fFor (fRng D.rng1 (fCons (fFz (fBin gAdd (fC (.int 1)) (fCallS 1 1 F__law_below (fCons (fC (.int 6)) fNil)))) fNil)) (gSet 6)
    (fAsg (fBin gAdd (fVar 5) (fFz (fBin gMul (fFz (fLst (fCons (fCallS 1 1 F__law_vword (fCons (fVar 3) fNil)) fNil))) (fCallS 1 1 F__law_pick (fCons (fFz (fLst (fCons (fC (.int 1)) (fCons (fC (.int 1)) (fCons (fC (.int 3)) (fCons (fC (.int 40)) (fCons (fC (.int 700)) fNil))))))) fNil))))) (gSet 5)))
    (fSeq (fAsg (fSh (fCallP 2 F__law_vsums (fCons (fVar 3) (fCons (fVar 5) fNil)))) (gSet 7))
    (fSeq (fIf (fOr (fNot (fTru (fCallP 2 (F__law_same 20) (fCons (fCallP 2 F_sums_of (fCons (fVar 3) (fCons (fCallS 1 1 (F__law_loose 20) (fCons (fVar 5) fNil)) fNil))) (fCons (fVar 7) fNil))))) (fBool (fBin gIn (fVar 4) (fVar 7)))) (fRet (fC (.bl false))) fNext)
    (fSeq (fAsg (fSh (fCallS 1 1 F__law_below (fCons (fC (.int 60)) fNil))) (gSet 8))
    (fSeq (fAsg (fSh (fCallP 2 F_sums_of (fCons (fVar 3) (fCons (fFz (fBin gAdd (fVar 5) (fFz (fBin gMul (fFz (fLst (fCons (fC (.int 0)) fNil))) (fVar 8))))) fNil)))) (gSet 9))
    (fSeq (fIf (fNot (fTru (fCallP 2 (F__law_same 20) (fCons (fFz (fLst (fCons (fVar 9) (fCons (fCallP 2 F_sums_of (fCons (fVar 3) (fCons (fFz (fBin gAdd (fVar 5) (fFz (fBin gMul (fFz (fLst (fCons (fVar 4) fNil))) (fVar 8))))) fNil))) fNil)))) (fCons (fFz (fBin gMul (fFz (fLst (fCons (fTup (fCons (fFz (fBin gIx (fVar 7) (fC (.int 0)))) (fCons (fFz (fBin gMod (fFz (fBin gAdd (fFz (fBin gIx (fVar 7) (fC (.int 1)))) (fFz (fBin gMul (fVar 8) (fFz (fBin gIx (fVar 7) (fC (.int 0)))))))) (fVar 4))) fNil))) fNil))) (fC (.int 2)))) fNil))))) (fRet (fC (.bl false))) fNext)
    (fSeq (fAsg (fRev (fVar 5)) (gSet 10))
    (fSeq (fPar [11, 12] (fConsO (fSh (fCallP 2 F_sums_of (fCons (fVar 3) (fCons (fVar 10) fNil)))) (fConsO (fBin gMod (fFz (fBin gAdd (fFz (fBin gIx (fVar 7) (fC (.int 1)))) (fFz (fBin gIx (fCallP 2 F_sums_of (fCons (fVar 3) (fCons (fVar 10) fNil))) (fC (.int 1)))))) (fVar 4)) fNilO)))
    (fSeq (fIf (fOr (fBool (fBin gNe (fFz (fBin gIx (fVar 11) (fC (.int 0)))) (fFz (fBin gIx (fVar 7) (fC (.int 0)))))) (fBool (fBin gNe (fVar 12) (fFz (fBin gMod (fFz (fBin gMul (fFz (fBin gAdd (fFz (fCall gLen (fCons (fVar 5) fNil))) (fC (.int 1)))) (fFz (fCall gSum (fCons (fVar 5) fNil))))) (fVar 4)))))) (fRet (fC (.bl false))) fNext)
    (fSeq (fAsg (fBin gMul (fCallS 1 1 F__law_vdrawbits (fCons (fC (.int 30)) fNil)) (fCallS 1 1 F__law_pick (fCons (fFz (fLst (fCons (fC (.int 1)) (fCons (fC (.int 2)) (fCons (fC (.int 90)) fNil))))) fNil))) (gSet 13))
    (fSeq (fIf (fBool (fBin gGt (fFz (fBin gAdd (fFz (fBin gFdiv (fFz (fCall gLen (fCons (fVar 13) fNil))) (fVar 3))) (fC (.int 6)))) (fFz (fCall gMin (fCons (fVar 4) (fCons (fC (.int 5000)) fNil)))))) (fAsg (fSl gSl (fVar 13) fNoP (fPart (fVar 3))) (gSet 13)) fNext)
    (fSeq (fAsg (fSh (fCallP 3 F__law_vimage (fCons (fVar 3) (fCons (fCallS 1 1 F__law_below (fCons (fVar 4) fNil)) (fCons (fVar 13) fNil))))) (gSet 14))
    (fSeq (fAsg (fSh (fCallP 3 F_image_of (fCons (fVar 3) (fCons (fFz (fBin gIx (fVar 14) (fC (.int 0)))) (fCons (fCallP 1 (F__law_copied 20) (fCons (fVar 13) fNil)) fNil))))) (gSet 15))
    (fSeq (fIf (fNot (fTru (fCallP 2 (F__law_same 20) (fCons (fFz (fLst (fCons (fVar 15) (fCons (fCallP 2 F_image_or_why (fCons (fVar 3) (fCons (fCallS 1 1 (F__law_loose 20) (fCons (fVar 14) fNil)) fNil))) (fCons (fCallP 2 F_words_of (fCons (fVar 3) (fCons (fCallP 1 (F__law_copied 20) (fCons (fVar 13) fNil)) fNil))) fNil))))) (fCons (fFz (fLst (fCons (fVar 14) (fCons (fTup (fCons (fC (.str "image")) (fCons (fFz (fBin gIx (fVar 14) (fC (.int 0)))) (fCons (fVar 13) fNil)))) (fCons (fCallP 2 F__law_vwordsof (fCons (fVar 3) (fCons (fVar 13) fNil))) fNil))))) fNil))))) (fRet (fC (.bl false))) fNext)
    (fSeq (fAsg (fSh (fCallS 1 1 F__law_below (fCons (fVar 4) fNil))) (gSet 16))
    (fSeq (fAsg (fSh (fCallP 3 F_with_version (fCons (fVar 3) (fCons (fCallS 1 1 (F__law_loose 20) (fCons (fVar 14) fNil)) (fCons (fVar 16) fNil))))) (gSet 17))
    (fSeq (fIf (fNot (fTru (fCallP 2 (F__law_same 20) (fCons (fFz (fLst (fCons (fVar 17) (fCons (fCallP 2 F_image_or_why (fCons (fVar 3) (fCons (fCallP 1 (F__law_copied 20) (fCons (fVar 17) fNil)) fNil))) fNil)))) (fCons (fFz (fLst (fCons (fCallP 3 F__law_vimage (fCons (fVar 3) (fCons (fVar 16) (fCons (fVar 13) fNil)))) (fCons (fTup (fCons (fC (.str "image")) (fCons (fVar 16) (fCons (fVar 13) fNil)))) fNil)))) fNil))))) (fRet (fC (.bl false))) fNext)
    (fIf (fAnd (fBool (fBin gLt (fFz (fCall gLen (fCons (fVar 5) fNil))) (fC (.int 999)))) (fNot (fTru (fCallP 2 (F__law_same 20) (fCons (fCallP 2 F_image_or_why (fCons (fVar 3) (fCons (fCallP 1 (F__law_copied 20) (fCons (fVar 5) fNil)) fNil))) (fCons (fCallP 2 F__law_vwhy (fCons (fVar 3) (fCons (fVar 5) fNil))) fNil)))))) (fRet (fC (.bl false))) fNext)))))))))))))))))))))
    (fRet (fC (.bl true))))
theorem d_law (T : Txt g) (h_sums_of : OkP g 6 2 "sums_of" F_sums_of) (h_image_of : OkP g 5 3 "image_of" F_image_of) (h_words_of : OkP g 3 2 "words_of" F_words_of) (h_image_or_why : OkP g 6 2 "image_or_why" F_image_or_why) (h_with_version : OkP g 6 3 "with_version" F_with_version) (h__law_below : OkS g 1 1 "_law_below" F__law_below) (h__law_pick : OkS g 2 1 "_law_pick" F__law_pick) (h__law_copied : OkP g 21 1 "_law_copied" (F__law_copied 20)) (h__law_same : OkP g 21 2 "_law_same" (F__law_same 20)) (h__law_loose : OkS g 22 1 "_law_loose" (F__law_loose 20)) (h__law_vpow : OkP g 1 1 "_law_vpow" F__law_vpow) (h__law_vsums : OkP g 2 2 "_law_vsums" F__law_vsums) (h__law_vwordsof : OkP g 1 2 "_law_vwordsof" F__law_vwordsof) (h__law_vimage : OkP g 3 3 "_law_vimage" F__law_vimage) (h__law_vwhy : OkP g 3 2 "_law_vwhy" F__law_vwhy) (h__law_vdrawbits : OkS g 3 1 "_law_vdrawbits" F__law_vdrawbits) (h__law_vword : OkS g 3 1 "_law_vword" F__law_vword) {f : Addr} (cdv : Value) (A : Around) (outer : List Env) (s : Shared) (H : Hp) (E : XK) (hr : Room 22 (A.deeper (envOfC "law" (defScope s_law) s.heap.objs.size f cdv))) :
    Dss (cxOf (L2.CX g.P g.w) g.P g.w g.K g.mg g.base N_law "law" (defScope s_law) f cdv A outer s H E) E (defBody s_law).tail F_law :=
    (dss_cons (ds_for own_cx rfl (it_range1 (by rfl) T.n_range (da_cons de_int da_nil)) (dt_name sc_law.nd)
    (dss_cons (ds_set (i := 3) sc_law.nd (do_bin od_add de_int (de_callS (i := 1) h__law_below ⟨rfl, rfl, rfl, rfl, rfl⟩ hr (by decide) (by rfl) pass_cx (da_cons de_int da_nil))))
    (dss_cons (ds_par2 rfl sc_law.nd rfl rfl (by decide) rfl rfl (dao_cons (do_bin od_sub (de_callP h__law_vpow ⟨rfl, rfl, rfl, rfl, rfl⟩ hr (by decide) (by rfl) pass_cx (da_cons (de_var 3) da_nil)) de_int) (dao_cons (do_lst da_nil) dao_nil)) rfl)
    (dss_cons (ds_for own_cx rfl (it_range1 (by rfl) T.n_range (da_cons (DO.fz (do_bin od_add de_int (de_callS (i := 1) h__law_below ⟨rfl, rfl, rfl, rfl, rfl⟩ hr (by decide) (by rfl) pass_cx (da_cons de_int da_nil)))) da_nil)) (dt_name sc_law.nd)
    (dss_one (ds_set (i := 5) sc_law.nd (do_bin od_add (de_var 5) (DO.fz (do_bin od_mul (DO.fz (do_lst (da_cons (de_callS (i := 1) h__law_vword ⟨rfl, rfl, rfl, rfl, rfl⟩ hr (by decide) (by rfl) pass_cx (da_cons (de_var 3) da_nil)) da_nil))) (de_callS (i := 1) h__law_pick ⟨rfl, rfl, rfl, rfl, rfl⟩ hr (by decide) (by rfl) pass_cx (da_cons (DO.fz (do_lst (da_cons de_int (da_cons de_int (da_cons de_int (da_cons de_int (da_cons de_int da_nil))))))) da_nil))))))))
    (dss_cons (ds_set (i := 7) sc_law.nd (DE.o (de_callP h__law_vsums ⟨rfl, rfl, rfl, rfl, rfl⟩ hr (by decide) (by rfl) pass_cx (da_cons (de_var 3) (da_cons (de_var 5) da_nil)))))
    (dss_cons (ds_if (DW.t (dw_or (dt_not (dt_tru (de_callP h__law_same ⟨rfl, rfl, rfl, rfl, rfl⟩ hr (by decide) (by rfl) pass_cx (da_cons (de_callP h_sums_of ⟨rfl, rfl, rfl, rfl, rfl⟩ hr (by decide) (by rfl) pass_cx (da_cons (de_var 3) (da_cons (de_callS (i := 1) h__law_loose ⟨rfl, rfl, rfl, rfl, rfl⟩ hr (by decide) (by rfl) pass_cx (da_cons (de_var 5) da_nil)) da_nil))) (da_cons (de_var 7) da_nil))))) (dw_or1 (dt_cmp (od_in (room5 hr)) (de_var 4) (de_var 7) (by rfl))))) (dss_one (ds_ret de_bl)) dss_nil)
    (dss_cons (ds_set (i := 8) sc_law.nd (DE.o (de_callS (i := 1) h__law_below ⟨rfl, rfl, rfl, rfl, rfl⟩ hr (by decide) (by rfl) pass_cx (da_cons de_int da_nil))))
    (dss_cons (ds_set (i := 9) sc_law.nd (DE.o (de_callP h_sums_of ⟨rfl, rfl, rfl, rfl, rfl⟩ hr (by decide) (by rfl) pass_cx (da_cons (de_var 3) (da_cons (DO.fz (do_bin od_add (de_var 5) (DO.fz (do_bin od_mul (DO.fz (do_lst (da_cons de_int da_nil))) (de_var 8))))) da_nil)))))
    (dss_cons (ds_if (dt_not (dt_tru (de_callP h__law_same ⟨rfl, rfl, rfl, rfl, rfl⟩ hr (by decide) (by rfl) pass_cx (da_cons (DO.fz (do_lst (da_cons (de_var 9) (da_cons (de_callP h_sums_of ⟨rfl, rfl, rfl, rfl, rfl⟩ hr (by decide) (by rfl) pass_cx (da_cons (de_var 3) (da_cons (DO.fz (do_bin od_add (de_var 5) (DO.fz (do_bin od_mul (DO.fz (do_lst (da_cons (de_var 4) da_nil))) (de_var 8))))) da_nil))) da_nil)))) (da_cons (DO.fz (do_bin od_mul (DO.fz (do_lst (da_cons (de_tup (da_cons (DO.fz (do_ix xd_ix (de_var 7) de_int)) (da_cons (DO.fz (do_bin od_mod (DO.fz (do_bin od_add (DO.fz (do_ix xd_ix (de_var 7) de_int)) (DO.fz (do_bin od_mul (de_var 8) (DO.fz (do_ix xd_ix (de_var 7) de_int)))))) (de_var 4))) da_nil))) da_nil))) de_int)) da_nil))))) (dss_one (ds_ret de_bl)) dss_nil)
    (dss_cons (ds_set (i := 10) sc_law.nd (do_rev (de_var 5)))
    (dss_cons (ds_par2 rfl sc_law.nd rfl rfl (by decide) rfl rfl (dao_cons (DE.o (de_callP h_sums_of ⟨rfl, rfl, rfl, rfl, rfl⟩ hr (by decide) (by rfl) pass_cx (da_cons (de_var 3) (da_cons (de_var 10) da_nil)))) (dao_cons (do_bin od_mod (DO.fz (do_bin od_add (DO.fz (do_ix xd_ix (de_var 7) de_int)) (DO.fz (do_ix xd_ix (de_callP h_sums_of ⟨rfl, rfl, rfl, rfl, rfl⟩ hr (by decide) (by rfl) pass_cx (da_cons (de_var 3) (da_cons (de_var 10) da_nil))) de_int)))) (de_var 4)) dao_nil)) rfl)
    (dss_cons (ds_if (DW.t (dw_or (dt_cmp (od_ne (Room.units hr)) (DO.fz (do_ix xd_ix (de_var 11) de_int)) (DO.fz (do_ix xd_ix (de_var 7) de_int)) (nomark _)) (dw_or1 (dt_cmp (od_ne (Room.units hr)) (de_var 12) (DO.fz (do_bin od_mod (DO.fz (do_bin od_mul (DO.fz (do_bin od_add (DO.fz (do_callB cd_len (by rfl) T.n_len (by decide +kernel) (da_cons (de_var 5) da_nil))) de_int)) (DO.fz (do_callB (cd_sum rfl) (by rfl) T.n_sum (by decide +kernel) (da_cons (de_var 5) da_nil))))) (de_var 4))) (nomark _))))) (dss_one (ds_ret de_bl)) dss_nil)
    (dss_cons (ds_set (i := 13) sc_law.nd (do_bin od_mul (de_callS (i := 1) h__law_vdrawbits ⟨rfl, rfl, rfl, rfl, rfl⟩ hr (by decide) (by rfl) pass_cx (da_cons de_int da_nil)) (de_callS (i := 1) h__law_pick ⟨rfl, rfl, rfl, rfl, rfl⟩ hr (by decide) (by rfl) pass_cx (da_cons (DO.fz (do_lst (da_cons de_int (da_cons de_int (da_cons de_int da_nil))))) da_nil))))
    (dss_cons (ds_if (dt_cmp od_gt (DO.fz (do_bin od_add (DO.fz (do_bin od_fdiv (DO.fz (do_callB cd_len (by rfl) T.n_len (by decide +kernel) (da_cons (de_var 13) da_nil))) (de_var 3))) de_int)) (DO.fz (do_callB (cd_min rfl) (by rfl) T.n_min (by decide +kernel) (da_cons (de_var 4) (da_cons de_int da_nil)))) (nomark _)) (dss_one (ds_set (i := 13) sc_law.nd (do_sl sd_sl (de_var 13) dp_none (dp_some (de_var 3))))) dss_nil)
    (dss_cons (ds_set (i := 14) sc_law.nd (DE.o (de_callP h__law_vimage ⟨rfl, rfl, rfl, rfl, rfl⟩ hr (by decide) (by rfl) pass_cx (da_cons (de_var 3) (da_cons (de_callS (i := 1) h__law_below ⟨rfl, rfl, rfl, rfl, rfl⟩ hr (by decide) (by rfl) pass_cx (da_cons (de_var 4) da_nil)) (da_cons (de_var 13) da_nil))))))
    (dss_cons (ds_set (i := 15) sc_law.nd (DE.o (de_callP h_image_of ⟨rfl, rfl, rfl, rfl, rfl⟩ hr (by decide) (by rfl) pass_cx (da_cons (de_var 3) (da_cons (DO.fz (do_ix xd_ix (de_var 14) de_int)) (da_cons (de_callP h__law_copied ⟨rfl, rfl, rfl, rfl, rfl⟩ hr (by decide) (by rfl) pass_cx (da_cons (de_var 13) da_nil)) da_nil))))))
    (dss_cons (ds_if (dt_not (dt_tru (de_callP h__law_same ⟨rfl, rfl, rfl, rfl, rfl⟩ hr (by decide) (by rfl) pass_cx (da_cons (DO.fz (do_lst (da_cons (de_var 15) (da_cons (de_callP h_image_or_why ⟨rfl, rfl, rfl, rfl, rfl⟩ hr (by decide) (by rfl) pass_cx (da_cons (de_var 3) (da_cons (de_callS (i := 1) h__law_loose ⟨rfl, rfl, rfl, rfl, rfl⟩ hr (by decide) (by rfl) pass_cx (da_cons (de_var 14) da_nil)) da_nil))) (da_cons (de_callP h_words_of ⟨rfl, rfl, rfl, rfl, rfl⟩ hr (by decide) (by rfl) pass_cx (da_cons (de_var 3) (da_cons (de_callP h__law_copied ⟨rfl, rfl, rfl, rfl, rfl⟩ hr (by decide) (by rfl) pass_cx (da_cons (de_var 13) da_nil)) da_nil))) da_nil))))) (da_cons (DO.fz (do_lst (da_cons (de_var 14) (da_cons (de_tup (da_cons de_str (da_cons (DO.fz (do_ix xd_ix (de_var 14) de_int)) (da_cons (de_var 13) da_nil)))) (da_cons (de_callP h__law_vwordsof ⟨rfl, rfl, rfl, rfl, rfl⟩ hr (by decide) (by rfl) pass_cx (da_cons (de_var 3) (da_cons (de_var 13) da_nil))) da_nil))))) da_nil))))) (dss_one (ds_ret de_bl)) dss_nil)
    (dss_cons (ds_set (i := 16) sc_law.nd (DE.o (de_callS (i := 1) h__law_below ⟨rfl, rfl, rfl, rfl, rfl⟩ hr (by decide) (by rfl) pass_cx (da_cons (de_var 4) da_nil))))
    (dss_cons (ds_set (i := 17) sc_law.nd (DE.o (de_callP h_with_version ⟨rfl, rfl, rfl, rfl, rfl⟩ hr (by decide) (by rfl) pass_cx (da_cons (de_var 3) (da_cons (de_callS (i := 1) h__law_loose ⟨rfl, rfl, rfl, rfl, rfl⟩ hr (by decide) (by rfl) pass_cx (da_cons (de_var 14) da_nil)) (da_cons (de_var 16) da_nil))))))
    (dss_cons (ds_if (dt_not (dt_tru (de_callP h__law_same ⟨rfl, rfl, rfl, rfl, rfl⟩ hr (by decide) (by rfl) pass_cx (da_cons (DO.fz (do_lst (da_cons (de_var 17) (da_cons (de_callP h_image_or_why ⟨rfl, rfl, rfl, rfl, rfl⟩ hr (by decide) (by rfl) pass_cx (da_cons (de_var 3) (da_cons (de_callP h__law_copied ⟨rfl, rfl, rfl, rfl, rfl⟩ hr (by decide) (by rfl) pass_cx (da_cons (de_var 17) da_nil)) da_nil))) da_nil)))) (da_cons (DO.fz (do_lst (da_cons (de_callP h__law_vimage ⟨rfl, rfl, rfl, rfl, rfl⟩ hr (by decide) (by rfl) pass_cx (da_cons (de_var 3) (da_cons (de_var 16) (da_cons (de_var 13) da_nil)))) (da_cons (de_tup (da_cons de_str (da_cons (de_var 16) (da_cons (de_var 13) da_nil)))) da_nil)))) da_nil))))) (dss_one (ds_ret de_bl)) dss_nil)
    (dss_one (ds_if (DW.t (dw_and (dt_cmp od_lt (DO.fz (do_callB cd_len (by rfl) T.n_len (by decide +kernel) (da_cons (de_var 5) da_nil))) de_int (nomark _)) (dw_and1 (dt_not (dt_tru (de_callP h__law_same ⟨rfl, rfl, rfl, rfl, rfl⟩ hr (by decide) (by rfl) pass_cx (da_cons (de_callP h_image_or_why ⟨rfl, rfl, rfl, rfl, rfl⟩ hr (by decide) (by rfl) pass_cx (da_cons (de_var 3) (da_cons (de_callP h__law_copied ⟨rfl, rfl, rfl, rfl, rfl⟩ hr (by decide) (by rfl) pass_cx (da_cons (de_var 5) da_nil)) da_nil))) (da_cons (de_callP h__law_vwhy ⟨rfl, rfl, rfl, rfl, rfl⟩ hr (by decide) (by rfl) pass_cx (da_cons (de_var 3) (da_cons (de_var 5) da_nil))) da_nil)))))))) (dss_one (ds_ret de_bl)) dss_nil))))))))))))))))))))))
    (dss_one (ds_ret de_bl)))
@[reducible] def Γ0 : Sl := (List.replicate N_law.length SV.un).set 1 SV.stm
def spLaw (K : PySem.W.Frag) : Sp := fun vs H Q _ => ∃ (a : Addr) (ns : List Int), vs = [.ref a] ∧ SqL K H a (ns.map V.int) ∧ ns.length ≤ 63 ∧ ∀ H', Q (.bl true) H'
theorem ok_law_of (true_ : ∀ ns : List Int, ∃ Δ', F_law (Γ0, ⟨ns, 0, 0, 53⟩) = .ok (.rt (.bl true), Δ')) (T : Txt g) {fs : Addr} {fds : FuncData} (h__law_start : FnOk g.P g.w g.K g.mg g.base (L2.CX g.P g.w) 1 fs fds ["script"] (spStart g.K)) (hms : g.mg "_law_start" = some (.ref fs)) (hks : PySem.W.keepIn g.K (.ref fs) = true) (hbs : Binds g.K fds ["script"] [])
    (h_sums_of : OkP g 6 2 "sums_of" F_sums_of) (h_image_of : OkP g 5 3 "image_of" F_image_of) (h_words_of : OkP g 3 2 "words_of" F_words_of) (h_image_or_why : OkP g 6 2 "image_or_why" F_image_or_why) (h_with_version : OkP g 6 3 "with_version" F_with_version) (h__law_below : OkS g 1 1 "_law_below" F__law_below) (h__law_pick : OkS g 2 1 "_law_pick" F__law_pick) (h__law_copied : OkP g 21 1 "_law_copied" (F__law_copied 20)) (h__law_same : OkP g 21 2 "_law_same" (F__law_same 20)) (h__law_loose : OkS g 22 1 "_law_loose" (F__law_loose 20)) (h__law_vpow : OkP g 1 1 "_law_vpow" F__law_vpow) (h__law_vsums : OkP g 2 2 "_law_vsums" F__law_vsums) (h__law_vwordsof : OkP g 1 2 "_law_vwordsof" F__law_vwordsof) (h__law_vimage : OkP g 3 3 "_law_vimage" F__law_vimage) (h__law_vwhy : OkP g 3 2 "_law_vwhy" F__law_vwhy) (h__law_vdrawbits : OkS g 3 1 "_law_vdrawbits" F__law_vdrawbits) (h__law_vword : OkS g 3 1 "_law_vword" F__law_vword) {f : Addr} {fd : FuncData} (F : Fun g.K "law" "law" s_law f fd) : FnOk g.P g.w g.K g.mg g.base (L2.CX g.P g.w) 23 f fd ["script"] (spLaw g.K) := by
  refine F.okX sc_law (fun vs H Q E h => ?_) (fun cdv A outer s H vs Q E hr h => ?_)
  · obtain ⟨a, ns, rfl, _⟩ := h
    rfl
  · obtain ⟨a, ns, rfl, hS, hlen, k⟩ := h
    obtain ⟨t, p, hd⟩ := d_law T h_sums_of h_image_of h_words_of h_image_or_why h_with_version h__law_below h__law_pick h__law_copied h__law_same h__law_loose h__law_vpow h__law_vsums h__law_vwordsof h__law_vimage h__law_vwhy h__law_vdrawbits h__law_vword (f := f) cdv A outer s H E hr
    obtain ⟨Δ', e⟩ := true_ ns
    refine ⟨_, pss_cons (ps_set (i := 1) sc_law.nd rfl (by first | exact Or.inl rfl | exact Or.inr rfl) (pe_call h__law_start (hr.mono (by decide)) (by rfl) hms hks hbs .nil pass_cx (pa_cons (pv 0) pa_nil))) p, ?_⟩
    refine ⟨_, rfl, a, ns, rfl, hS, fun p q H' sm np nq st => ?_⟩
    refine hd ⟨fun _ => Option.none, some (p, q)⟩ (fun _ => Option.none) H' _ (Γ0, ⟨ns, 0, 0, 53⟩) _ (law_rel st rfl rfl (by decide)) ?_
    rw [e]
    intro S' H2 σ' g r v rv
    cases rv
    exact k H2

end
end KLaw
namespace KLaw
open PySem PySem.Spec PyProof.Rows L2 DL
theorem vpow_loop : ∀ (l : List D) (a : Int) (x : D) (s : SV) (st : Strm), ∃ s', loopF (gSet 2) (fAsg (fBin gMul (fVar 1) (fC (.int 2))) (gSet 1)) l ([.sh x, .sh (.int a), s], st) = .ok (.nx, ([.sh x, .sh (.int (a * 2 ^ l.length)), s'], st))
  | [], a, x, s, st => ⟨s, by simp [loopF]⟩
  | d :: l, a, x, s, st => by
    obtain ⟨s', h⟩ := vpow_loop l (a * 2) x (.sh d) st
    refine ⟨s', ?_⟩
    simp [loopF, cMul] at h ⊢
    rw [h]
    simp [Int.pow_succ, Int.mul_assoc, Int.mul_comm]
theorem vpow_eq (n : Nat) (h : n < 1000) : F__law_vpow [.int n] = .ok (.int (2 ^ n)) := by
  obtain ⟨s, e⟩ := vpow_loop (upD n) 1 (.int n) .un {}
  simp [F__law_vpow, N__law_vpow, rng1_eq n (by omega) (by omega)]
  simp at e
  simp [e]
theorem ones_eq (n : Nat) (h : n < 1000) : F_ones [.int n] = .ok (.int (2 ^ n - 1)) := by
  have h2 : (n : Int) ≤ 1000000 := by omega
  simp [F_ones, N_ones, h2]
theorem is_whole_int (i : Int) : F_is_whole [.int i] = .ok (.bl true) := by
  simp [F_is_whole, N_is_whole]
theorem need_width_ok (n : Nat) (h : 4 ≤ n) (h' : n ≤ 16) : F_need_width [.int n] = .ok (.int n) := by
  have h1 : (4 : Int) ≤ n := by omega
  have h2 : (n : Int) ≤ 16 := by omega
  simp [F_need_width, N_need_width, is_whole_int, h1, h2]
/-- each word as often as there are words from it on -/
def wsum : List Int → Int
  | [] => 0
  | x :: xs => ((xs.length : Int) + 1) * x + wsum xs
theorem sums_loop (m : Int) (hm : 0 < m) (x y : D) (st : Strm) : ∀ (ws : List Int) (a b : Int) (s : SV), ∃ s', loopF (gSet 5) (fSeq (fAsg (fBin gMod (fFz (fBin gAdd (fVar 2) (fVar 5))) (fVar 4)) (gSet 2))
    (fAsg (fBin gMod (fFz (fBin gAdd (fVar 3) (fVar 2))) (fVar 4)) (gSet 3))) (dI ws) ([.sh x, .sh y, .sh (.int (a % m)), .sh (.int (b % m)), .sh (.int m), s], st) =
      .ok (.nx, ([.sh x, .sh y, .sh (.int ((a + ws.sum) % m)), .sh (.int ((b + ws.length * a + wsum ws) % m)), .sh (.int m), s'], st))
  | [], a, b, s => ⟨s, by simp [loopF, wsum, dI]⟩
  | w :: ws, a, b, s => by
    obtain ⟨s', h⟩ := sums_loop m hm x y st ws (a + w) (b + (a + w)) (.sh (.int w))
    refine ⟨s', ?_⟩
    have e1 : (a % m + w) % m = (a + w) % m := by rw [Int.emod_add_emod]
    have e2 : (b % m + (a + w) % m) % m = (b + (a + w)) % m := by rw [Int.emod_add_emod, Int.add_emod_emod]
    have e3 : a + w + ws.sum = a + (w :: ws).sum := by rw [List.sum_cons]; omega
    have e4 : b + (a + w) + ws.length * (a + w) + wsum ws = b + ((w :: ws).length : Int) * a + wsum (w :: ws) := by
      rw [show wsum (w :: ws) = ((ws.length : Int) + 1) * w + wsum ws from rfl, List.length_cons]
      push_cast
      rw [Int.add_mul, Int.add_mul, Int.one_mul, Int.one_mul, Int.mul_add]
      omega
    rw [e3, e4] at h
    rw [← h]
    simp [dI_cons, loopF, hm, e1, e2]
theorem two_pow_pos (w : Nat) (h : 1 ≤ w) : (0 : Int) < 2 ^ w - 1 := by
  have : (2 : Int) ^ w = ((2 ^ w : Nat) : Int) := by push_cast; rfl
  have h2 : 2 ^ 1 ≤ 2 ^ w := Nat.pow_le_pow_right (by omega) h
  omega
def sumsD (w : Nat) (ws : List Int) : D := .tup [.int (ws.sum % (2 ^ w - 1)), .int (wsum ws % (2 ^ w - 1))]
theorem sums_by_eq (w : Nat) (h0 : 1 ≤ w) (h : w < 1000) (ws : List Int) : F_sums_by [.int w, .lst (dI ws)] = .ok (sumsD w ws) := by
  obtain ⟨s, e⟩ := sums_loop (2 ^ w - 1) (two_pow_pos w h0) (.int w) (.lst (dI ws)) {} ws 0 0 .un
  simp [F_sums_by, N_sums_by, ones_eq w h]
  simp at e
  rw [e]
  simp [sumsD]
end KLaw
namespace KLaw
open PySem PySem.Spec PyProof.Rows L2 DL
def Wds (w : Nat) (ws : List Int) : Prop := ∀ x ∈ ws, 0 ≤ x ∧ x < 2 ^ w
theorem pow16 {w : Nat} (h : w ≤ 16) : (2 : Int) ^ w ≤ 65536 := by
  have h2 : 2 ^ w ≤ 2 ^ 16 := Nat.pow_le_pow_right (by omega) h
  have : (2 : Int) ^ w = ((2 ^ w : Nat) : Int) := by push_cast; rfl
  omega
theorem Wds.small {w : Nat} {ws : List Int} (h : w ≤ 16) (hw : Wds w ws) : ∀ x ∈ ws, 0 ≤ x ∧ x < 65536 := fun x hx => ⟨(hw x hx).1, by have := (hw x hx).2; have := pow16 h; omega⟩
theorem wsum_idx : ∀ (ws : List Int) (k : Nat) (n : Int), n = k + ws.length → ((ws.zipIdx k).map fun p => (n - (p.2 : Nat)) * p.1).sum = wsum ws
  | [], k, n, _ => rfl
  | w :: ws, k, n, h => by
    rw [List.length_cons] at h
    rw [List.zipIdx_cons, List.map_cons, List.sum_cons, wsum_idx ws (k + 1) n (by push_cast at h ⊢; omega)]
    show (n - (k : Nat)) * w + wsum ws = ((ws.length : Int) + 1) * w + wsum ws
    rw [show n - (k : Nat) = (ws.length : Int) + 1 by push_cast at h; omega]
theorem vsums_eq (w : Nat) (h0 : 1 ≤ w) (h : w < 1000) (ws : List Int) (hw : ∀ x ∈ ws, 0 ≤ x ∧ x < 65536) (hl : ws.length ≤ sizeLine) : F__law_vsums [.int w, .lst (dI ws)] = .ok (sumsD w ws) := by
  have hm := two_pow_pos w h0
  have hm1 : (1 : Int) < 2 ^ w := by omega
  have key := lcF_map (vs := [4, 5]) (fg := gTupD 2 (gConsD (gSet 4) (gConsD (gSet 5) gNilD))) (ft := fYes) (fe := fFz (fBin gMul (fFz (fBin gSub (fVar 3) (fVar 4))) (fVar 5)))
    (fun d => match d with | .tup [.int i, .int x] => .int (((ws.length : Nat) - i) * x) | _ => .non) (Δ := ([.sh (.int w), .sh (.lst (dI ws)), .sh (.int (2 ^ w - 1)), .sh (.int (ws.length : Nat)), .un, .un], {}))
    ((dI ws).zipIdx.map fun p => .tup [.int (p.2 : Nat), p.1]) (by
      intro d hd
      obtain ⟨⟨x, i⟩, hp, rfl⟩ := List.mem_map.mp hd
      have hx : x ∈ dI ws := (List.mem_zipIdx hp).2.2 ▸ List.getElem_mem _
      obtain ⟨y, hy, rfl⟩ := dI_mem hx
      have hb : y.natAbs < 18446744073709551616 := by have := hw y hy; omega
      simp [hb])
  have e2 : ((dI ws).zipIdx.map fun p => D.tup [.int (p.2 : Nat), p.1]).map (fun d => match d with | .tup [.int i, .int x] => D.int (((ws.length : Nat) - i) * x) | _ => .non) = dI (ws.zipIdx.map fun p => ((ws.length : Nat) - (p.2 : Nat)) * p.1) := by
    simp [dI, List.zipIdx_map, List.map_map, Function.comp_def]
  rw [e2] at key
  have e3 := wsum_idx ws 0 ws.length (by simp)
  simp [F__law_vsums, N__law_vsums, vpow_eq w h, hm1, hl]
  simp at key e3
  rw [key]
  simp [e3, sumsD, hm1]
end KLaw
namespace KLaw
open PySem PySem.Spec PyProof.Rows L2 DL
/-- a list or a tuple -/
def LT (l : List D) (d : D) : Prop := d = .lst l ∨ d = .tup l
theorem is_list_LT {l : List D} {d : D} (h : LT l d) : F_is_list [d] = .ok (.bl true) := by
  rcases h with rfl | rfl <;> simp [F_is_list, N_is_list]
theorem is_number_int (i : Int) (h : 0 ≤ i) : F_is_number [.int i] = .ok (.bl true) := by
  simp [F_is_number, N_is_number, is_whole_int, h]
theorem is_below_int (i j : Int) (h : 0 ≤ i) (h' : i < j) : F_is_below [.int i, .int j] = .ok (.bl true) := by
  simp [F_is_below, N_is_below, is_number_int i h, h']
theorem all_bl (l : List D) : D.bls (l.map fun _ => D.bl true) = some (l.map fun _ => true) := by
  have := bls_map (l.map fun _ => true)
  rw [List.map_map] at this
  exact this
theorem are_words_ok (w : Nat) (h : w < 1000) (ws : List Int) (hw : Wds w ws) (hl : ws.length ≤ sizeLine) {d : D} (hd : LT (dI ws) d) : F_are_words [.int w, d] = .ok (.bl true) := by
  have h2 : (w : Int) ≤ 1000000 := by omega
  have key := lcF_map (vs := [2]) (fg := gSet 2) (ft := fYes) (fe := fCallP 2 F_is_below (fCons (fVar 2) (fCons (fFz (fBin gShl (fC (.int 1)) (fVar 0))) fNil)))
    (fun _ => .bl true) (Δ := ([.sh (.int w), .sh d, .un], {})) (dI ws) (by
      intro x hx
      obtain ⟨i, hi, rfl⟩ := dI_mem hx
      simp [h2, is_below_int i _ (hw i hi).1 (hw i hi).2])
  rcases hd with rfl | rfl
  · simp [F_are_words, N_are_words, is_list_LT (.inl rfl), hl]
    simp at key
    rw [key]
    simp [all_bl]
  · simp [F_are_words, N_are_words, is_list_LT (.inr rfl), hl]
    simp at key
    rw [key]
    simp [all_bl]
theorem need_words_ok (w : Nat) (h : w < 1000) (ws : List Int) (hw : Wds w ws) (hl : ws.length ≤ sizeLine) {d : D} (hd : LT (dI ws) d) : F_need_words [.int w, d] = .ok (.lst (dI ws)) := by
  have e := are_words_ok w h ws hw hl hd
  rcases hd with rfl | rfl <;> simp [F_need_words, N_need_words, e]
theorem sums_of_ok (w : Nat) (h0 : 4 ≤ w) (h : w ≤ 16) (ws : List Int) (hw : Wds w ws) (hl : ws.length ≤ sizeLine) {d : D} (hd : LT (dI ws) d) : F_sums_of [.int w, d] = .ok (sumsD w ws) := by
  have e := need_words_ok w (by omega) ws hw hl hd
  have e2 := need_width_ok w h0 h
  have e3 := sums_by_eq w (by omega) (by omega) ws
  rcases hd with rfl | rfl <;> simp [F_sums_of, N_sums_of, e, e2, e3]
/-! ## equal things, copies -/
inductive Pl : Nat → D → Prop
  | int {n : Nat} (i : Int) : Pl n (.int i)
  | str {n : Nat} (x : Str) : Pl n (.str x)
  | bl {n : Nat} (x : Bool) : Pl n (.bl x)
  | non {n : Nat} : Pl n .non
  | lst {n : Nat} {l : List D} (hl : l.length ≤ sizeLine) (h : ∀ d ∈ l, Pl n d) : Pl (n + 1) (.lst l)
  | tup {n : Nat} {l : List D} (hl : l.length ≤ sizeLine) (h : ∀ d ∈ l, Pl n d) : Pl (n + 1) (.tup l)
theorem zip_self (l : List D) : l.zip l = l.map fun d => (d, d) := by
  induction l with
  | nil => rfl
  | cons x l ih => rw [List.zip_cons_cons, ih]; rfl
theorem same_self : ∀ (n : Nat) (d : D), Pl n d → F__law_same (n + 1) [d, d] = .ok (.bl true) := by
  intro n d h
  induction h with
  | int i => simp [F__law_same, N__law_same, scal]
  | str i => simp [F__law_same, N__law_same, scal]
  | bl i => simp [F__law_same, N__law_same, scal]
  | non => simp [F__law_same, N__law_same]
  | @lst n l hl h ih =>
    have key := lcF_map (vs := [2, 3]) (fg := gTupD 2 (gConsD (gSet 2) (gConsD (gSet 3) gNilD))) (ft := fYes) (fe := fCallP 2 (F__law_same (n + 1)) (fCons (fVar 2) (fCons (fVar 3) fNil)))
      (fun _ => .bl true) (Δ := ([.sh (.lst l), .sh (.lst l), .un, .un], {})) ((l.zip l).map fun p => .tup [p.1, p.2]) (by
        intro x hx
        rw [zip_self, List.map_map] at hx
        obtain ⟨i, hi, rfl⟩ := List.mem_map.mp hx
        simp [ih i hi])
    rw [F__law_same]
    simp [N__law_same, scal, hl]
    rw [key]
    simp [all_bl, -List.map_map]
  | @tup n l hl h ih =>
    have key := lcF_map (vs := [2, 3]) (fg := gTupD 2 (gConsD (gSet 2) (gConsD (gSet 3) gNilD))) (ft := fYes) (fe := fCallP 2 (F__law_same (n + 1)) (fCons (fVar 2) (fCons (fVar 3) fNil)))
      (fun _ => .bl true) (Δ := ([.sh (.tup l), .sh (.tup l), .un, .un], {})) ((l.zip l).map fun p => .tup [p.1, p.2]) (by
        intro x hx
        rw [zip_self, List.map_map] at hx
        obtain ⟨i, hi, rfl⟩ := List.mem_map.mp hx
        simp [ih i hi])
    rw [F__law_same]
    simp [N__law_same, scal, hl]
    rw [key]
    simp [all_bl, -List.map_map]
end KLaw
namespace KLaw
open PySem PySem.Spec PyProof.Rows L2 DL
theorem atI_mem {l : List D} {i : Int} (h : 0 ≤ i) (h' : i < (l.length : Nat)) : ∃ d, atI l i = some d ∧ d ∈ l := by
  refine ⟨l[i.toNat]'(by omega), ?_, List.getElem_mem _⟩
  unfold atI ixN
  rw [if_pos h, if_pos h', Option.bind_some]
  exact List.getElem?_eq_getElem _
theorem pick_ok (l : List D) (h0 : 0 < l.length) (h1 : l.length < 1000000) (k : Nat) (st : Strm) (hb : Bud (1 + k) st) : ∃ d st', F__law_pick [.lst l] st = .ok (d, st') ∧ d ∈ l ∧ Bud k st' := by
  obtain ⟨i, st', e, h2, h3, b⟩ := below_bud (many := (l.length : Nat)) (by omega) (by omega) hb
  obtain ⟨d, e2, hd⟩ := atI_mem h2 h3
  refine ⟨d, st', ?_, hd, b⟩
  simp [F__law_pick, N__law_pick, e, e2]
theorem loose_int (n : Nat) (i : Int) (st : Strm) : F__law_loose (n + 1) [.int i] st = .ok (.int i, st) := by
  rw [F__law_loose]
  simp [N__law_loose]
theorem loose_ints (n : Nat) (ws : List Int) (hl : ws.length ≤ sizeLine) (k : Nat) (st : Strm) (hb : Bud (1 + k) st) : ∃ d st', F__law_loose (n + 2) [.lst (dI ws)] st = .ok (d, st') ∧ LT (dI ws) d ∧ Bud k st' := by
  obtain ⟨i, st', e, h2, h3, b⟩ := below_bud (many := 2) (by omega) (by omega) hb
  have key := lcF_map (vs := [4]) (fg := gSet 4) (ft := fYes) (fe := fCallS 0 1 (F__law_loose (n + 1)) (fCons (fVar 4) fNil))
    id (Δ := ([.stm, .sh (.lst (dI ws)), .un, .un, .un], st)) (dI ws) (by
      intro x hx
      obtain ⟨i, hi, rfl⟩ := dI_mem hx
      simp [loose_int])
  rw [F__law_loose]
  simp [N__law_loose, hl]
  rw [List.map_id] at key
  rw [key]
  have : i = 0 ∨ i = 1 := by omega
  rcases this with rfl | rfl
  · exact ⟨_, st', by simp [e, scal], .inl rfl, b⟩
  · exact ⟨_, st', by simp [e, scal], .inr rfl, b⟩
theorem copied_int (n : Nat) (i : Int) : F__law_copied (n + 1) [.int i] = .ok (.int i) := by
  rw [F__law_copied]
  simp [N__law_copied]
theorem copied_str (n : Nat) (i : Str) : F__law_copied (n + 1) [.str i] = .ok (.str i) := by
  rw [F__law_copied]
  simp [N__law_copied]
theorem copied_ints (n : Nat) (ws : List Int) (hl : ws.length ≤ sizeLine) : F__law_copied (n + 2) [.lst (dI ws)] = .ok (.lst (dI ws)) := by
  have key := lcF_map (vs := [3]) (fg := gSet 3) (ft := fYes) (fe := fCallP 1 (F__law_copied (n + 1)) (fCons (fVar 3) fNil))
    id (Δ := ([.sh (.lst (dI ws)), .un, .un, .un], {})) (dI ws) (by
      intro x hx
      obtain ⟨i, hi, rfl⟩ := dI_mem hx
      simp [copied_int])
  rw [F__law_copied]
  simp [N__law_copied, hl]
  rw [List.map_id] at key
  rw [key]
  simp
/-- the mark of a width is below all ones -/
theorem vmark_ok (w : Nat) (h0 : 4 ≤ w) (h : w ≤ 16) : ∃ i, F__law_vmark [.int w] = .ok (.int i) ∧ 0 ≤ i ∧ i < 2 ^ w := by
  have hr : D.rng3 [.int 0, .int w, .int 2] = some ((List.range ((w + 2 - 1) / 2)).map fun k => .int (0 + (k : Nat) * ((2 : Nat) : Int))) := rng3_up w 2 (by omega) (by omega) (by omega)
  have key := lcF_map (vs := [1]) (fg := gSet 1) (ft := fYes) (fe := fCallP 1 F__law_vpow (fCons (fVar 1) fNil))
    (fun d => match d with | .int i => .int (2 ^ i.toNat) | _ => .non) (Δ := ([.sh (.int w), .un], {})) ((List.range ((w + 2 - 1) / 2)).map fun k => .int (0 + (k : Nat) * ((2 : Nat) : Int))) (by
      intro x hx
      obtain ⟨i, hi, rfl⟩ := List.mem_map.mp hx
      have hi' := List.mem_range.mp hi
      have e := vpow_eq (i * 2) (by omega)
      have e2 : (0 + (i : Int) * ((2 : Nat) : Int)) = ((i * 2 : Nat) : Int) := by push_cast; omega
      rw [e2]
      generalize i * 2 = j at e ⊢
      simp [e])
  refine ⟨((List.range ((w + 2 - 1) / 2)).map fun k => (2 : Int) ^ (k * 2)).sum, ?_, ?_⟩
  · have e4 : ((List.range ((w + 2 - 1) / 2)).map fun k => D.int (0 + (k : Nat) * ((2 : Nat) : Int))).map (fun d => match d with | .int i => D.int (2 ^ i.toNat) | _ => .non) = dI ((List.range ((w + 2 - 1) / 2)).map fun k => (2 : Int) ^ (k * 2)) := by
      rw [List.map_map]
      unfold dI
      rw [List.map_map]
      apply List.map_congr_left
      intro k hk
      show D.int (2 ^ (0 + (k : Int) * ((2 : Nat) : Int)).toNat) = D.int (2 ^ (k * 2))
      rw [show (0 + (k : Int) * ((2 : Nat) : Int)).toNat = k * 2 by omega]
    rw [e4] at key
    have hz : ((List.range ((w + 2 - 1) / 2)).map fun k => D.int (0 + (k : Nat) * ((2 : Nat) : Int))).length ≤ sizeLine := by rw [List.length_map, List.length_range]; exact Nat.le_trans (by omega) sz8
    generalize ((List.range ((w + 2 - 1) / 2)).map fun k => D.int (0 + (k : Nat) * ((2 : Nat) : Int))) = L at hr key hz
    generalize ((List.range ((w + 2 - 1) / 2)).map fun k => (2 : Int) ^ (k * 2)) = M at key ⊢
    simp [F__law_vmark, N__law_vmark, hr, hz]
    rw [key]
    simp
  · have : ∀ w : Fin 17, 4 ≤ w.val → 0 ≤ ((List.range ((w.val + 2 - 1) / 2)).map fun k => (2 : Int) ^ (k * 2)).sum ∧ ((List.range ((w.val + 2 - 1) / 2)).map fun k => (2 : Int) ^ (k * 2)).sum < 2 ^ w.val := by decide
    exact this ⟨w, by omega⟩ h0
end KLaw
namespace KLaw
open PySem PySem.Spec PyProof.Rows L2 DL
theorem vword_ok (w : Nat) (h0 : 4 ≤ w) (h : w ≤ 16) (k : Nat) (st : Strm) (hb : Bud (4 + k) st) : ∃ i st', F__law_vword [.int w] st = .ok (.int i, st') ∧ 0 ≤ i ∧ i < 2 ^ w ∧ Bud k st' := by
  obtain ⟨m, em, m0, m1⟩ := vmark_ok w h0 h
  have hp := pow16 h
  have hp0 := two_pow_pos w (by omega)
  obtain ⟨a, st1, e1, a0, a1, b1⟩ := below_bud (many := 2 ^ w) (k := 3 + k) (st := st) (by omega) (by omega) (hb.le (by omega))
  obtain ⟨b, st2, e2, b0, b1', b2⟩ := below_bud (many := 2 ^ w) (k := 2 + k) (st := st1) (by omega) (by omega) (b1.le (by omega))
  obtain ⟨c, st3, e3, c0, c1, b3⟩ := below_bud (many := 2 ^ w) (k := 1 + k) (st := st2) (by omega) (by omega) (b2.le (by omega))
  obtain ⟨d, st4, e4, hd, b4⟩ := pick_ok [.int 0, .int (2 ^ w - 1), .int m, .int a, .int b, .int c] (by simp) (by simp) k st3 b3
  have : ∃ i, d = .int i ∧ 0 ≤ i ∧ i < 2 ^ w := by
    simp at hd
    rcases hd with rfl | rfl | rfl | rfl | rfl | rfl
    · exact ⟨_, rfl, by omega, by omega⟩
    · exact ⟨_, rfl, by omega, by omega⟩
    · exact ⟨_, rfl, m0, m1⟩
    · exact ⟨_, rfl, a0, a1⟩
    · exact ⟨_, rfl, b0, b1'⟩
    · exact ⟨_, rfl, c0, c1⟩
  obtain ⟨i, rfl, i0, i1⟩ := this
  refine ⟨i, st4, ?_, i0, i1, b4⟩
  simp [F__law_vword, N__law_vword, vpow_eq w (by omega), em, e1, e2, e3, e4]
theorem bits_ok (most : Nat) (h : most ≤ 100000) (k : Nat) (st : Strm) (hb : Bud (1 + (most + k)) st) : ∃ bs st', F__law_vdrawbits [.int most] st = .ok (.str (bitT bs), st') ∧ bs.length ≤ most ∧ Bud k st' := by
  obtain ⟨a, st1, e1, a0, a1, b1⟩ := below_bud (many := (most : Int) + 1) (st := st) (by omega) (by omega) hb
  have key := lcF_st (vs := [2]) (fg := gSet 2) (ft := fYes) (fe := fCallS 0 1 F__law_pick (fCons (fFz (fLst (fCons (fC (.str "0")) (fCons (fC (.str "1")) fNil)))) fNil))
    (fun _ r => ∃ b, r = .str (bitT [b])) (g := [.stm, .sh (.int most), .un]) 1 k (upD a.toNat) st1 (by
      intro d hd j st hb
      obtain ⟨x, st', e, hx, b⟩ := pick_ok [.str "0", .str "1"] (by simp) (by simp) j st hb
      refine ⟨x, st', by simp [e], ?_, b⟩
      simp at hx
      rcases hx with rfl | rfl
      · exact ⟨false, rfl⟩
      · exact ⟨true, rfl⟩) (b1.le (by simp; omega))
  obtain ⟨rs, st2, e2, l2, p2, b2⟩ := key
  obtain ⟨bs, rfl, lb⟩ := all_dB rs fun r hr => by obtain ⟨_, _, z⟩ := p2 r hr; exact z
  simp at l2
  have hz : (upD a.toNat).length ≤ sizeLine := by rw [upD_len]; show a.toNat ≤ 16777216; omega
  refine ⟨bs, st2, ?_, by omega, b2⟩
  have ej := join_ok bs (by omega)
  simp [F__law_vdrawbits, N__law_vdrawbits, e1, rng1_eq a a0 (by omega)]
  rw [if_pos (by show a ≤ ((16777216 : Nat) : Int); omega)]
  rw [e2]
  simp [str_e, ej]
end KLaw
namespace KLaw
open PySem PySem.Spec PyProof.Rows L2 DL
def sp (w n : Nat) : Nat := (w - n % w) % w
theorem sp_lt (w n : Nat) (h : 0 < w) : sp w n < w := Nat.mod_lt _ h
theorem sp_i (w n : Nat) (h : 0 < w) : ((w : Int) - (n : Int) % (w : Int)) % (w : Int) = (sp w n : Nat) := by
  have : n % w < w := Nat.mod_lt _ h
  unfold sp
  push_cast [Int.ofNat_sub (Nat.le_of_lt this)]
  rfl
theorem sp_neg (w n : Nat) (h : 0 < w) : (-(n : Int)) % (w : Int) = (sp w n : Nat) := by
  rw [← sp_i w n h]
  rw [Int.sub_eq_add_neg, Int.add_comm, Int.add_emod_right]
  conv => lhs; rw [show -(n : Int) = 0 - n by omega]
  conv => rhs; rw [show -((n : Int) % w) = 0 - (n : Int) % w by omega]
  rw [Int.sub_emod_emod]
theorem sp_dvd (w n : Nat) (h : 0 < w) : (n + sp w n) % w = 0 := by
  unfold sp
  have h1 : n % w < w := Nat.mod_lt _ h
  rw [Nat.add_mod, Nat.mod_mod]
  by_cases hz : n % w = 0
  · rw [hz]; simp
  · rw [Nat.mod_eq_of_lt (a := w - n % w) (by omega), show n % w + (w - n % w) = w by omega, Nat.mod_self]
def whole (w : Nat) (bs : List Bool) : List Bool := bs ++ List.replicate (sp w bs.length) false
theorem whole_len (w : Nat) (bs : List Bool) : (whole w bs).length = bs.length + sp w bs.length := by simp [whole]
/-- how many words -/
def wn (w n : Nat) : Nat := (n + w - 1) / w
theorem wn_mul (w n : Nat) (h : 0 < w) (d : n % w = 0) : wn w n * w = n := by
  have e := Nat.div_add_mod n w
  rw [d, Nat.add_zero] at e
  unfold wn
  conv => lhs; rw [← e]
  rw [show w * (n / w) + w - 1 = (w - 1) + w * (n / w) by omega, Nat.add_mul_div_left _ _ h, Nat.div_eq_of_lt (by omega), Nat.zero_add, Nat.mul_comm]
  exact e
def val (bs : List Bool) : Nat := Bin.num (bs.map bc)
def chunk (w : Nat) (l : List Bool) (k : Nat) : List Bool := (l.drop (k * w)).take w
theorem chunk_len {w : Nat} {l : List Bool} {k : Nat} (h : k * w + w ≤ l.length) : (chunk w l k).length = w := by
  unfold chunk
  rw [List.length_take, List.length_drop]
  omega
theorem cut_chunk {w : Nat} {l : List Bool} {k : Nat} (h : k * w + w ≤ l.length)   : DL.cutD l (some (0 + (k : Nat) * (w : Int))) (some (0 + (k : Nat) * (w : Int) + w)) = chunk w l k := by
  have e1 : (0 + (k : Int) * (w : Int)) = ((k * w : Nat) : Int) := by push_cast; omega
  have e2 : (0 + (k : Int) * (w : Int) + w) = ((k * w + w : Nat) : Int) := by push_cast; omega
  rw [e2, e1]
  unfold DL.cutD chunk
  rw [HT.sIx_nat, HT.sIx_nat, Nat.min_eq_left (by omega), Nat.min_eq_left (by omega), show k * w + w - k * w = w by omega]
theorem bc_isB (b : Bool) : bc b = 48 ∨ bc b = 49 := by cases b <;> simp [bc]
theorem intB_ok (c : List Bool) (h : c ≠ []) (hl : c.length ≤ 640) : gIntB [.str (bitT c), .int 2] = some (.sh (.int (val c : Nat))) := by
  show (if (bitT c).cps.toList ≠ [] ∧ (bitT c).length ≤ 640 ∧ ((bitT c).cps.toList.all fun c => c == 48 || c == 49) = true then some (TV.sh (.int (Bin.num (bitT c).cps.toList : Nat))) else none) = _
  rw [bitT_list, bitT_len, if_pos ⟨by simpa using h, hl, by simp [bc_isB]⟩]
  rfl
def wordsN (w : Nat) (l : List Bool) : List Int := (List.range (wn w l.length)).map fun k => (val (chunk w l k) : Nat)
theorem val_foldl_lt : ∀ (l : List Bool) (a n : Nat), a < n → (l.map bc).foldl (fun a c => a * 2 + (c - 48)) a < n * 2 ^ l.length
  | [], a, n, h => by simpa using h
  | b :: l, a, n, h => by
    have := val_foldl_lt l (a * 2 + (bc b - 48)) (n * 2) (by cases b <;> simp [bc] <;> omega)
    rw [List.map_cons, List.foldl_cons, List.length_cons, Nat.pow_succ]
    rw [show n * (2 ^ l.length * 2) = n * 2 * 2 ^ l.length by rw [Nat.mul_comm (2 ^ l.length), Nat.mul_assoc]]
    exact this
theorem val_lt (l : List Bool) : val l < 2 ^ l.length := by
  have := val_foldl_lt l 0 1 (by omega)
  simpa [val, Bin.num] using this
theorem wordsN_wds (w : Nat) (l : List Bool) : Wds w (wordsN w l) := by
  intro x hx
  obtain ⟨k, hk, rfl⟩ := List.mem_map.mp hx
  refine ⟨by omega, ?_⟩
  have h := val_lt (chunk w l k)
  have h2 : (chunk w l k).length ≤ w := by unfold chunk; rw [List.length_take]; omega
  have h3 : 2 ^ (chunk w l k).length ≤ 2 ^ w := Nat.pow_le_pow_right (by omega) h2
  have : (2 : Int) ^ w = ((2 ^ w : Nat) : Int) := by push_cast; rfl
  omega
theorem wordsN_len (w : Nat) (l : List Bool) : (wordsN w l).length = wn w l.length := by simp [wordsN]
theorem rep1 (b : Bool) (n : Nat) : repS (bitT [b]) n = bitT (List.replicate n b) := by
  rw [bitT_rep]
  simp
theorem packed_ok (w : Nat) (h0 : 4 ≤ w) (h : w ≤ 16) (bs : List Bool) (hl : bs.length ≤ 100000) : F_packed_words [.int w, .str (bitT bs)] = .ok (.tup [.lst (dI (wordsN w (whole w bs))), .int (sp w bs.length : Nat)]) := by
  have hs := sp_lt w bs.length (by omega)
  have hwl := whole_len w bs
  have hm : wn w (whole w bs).length * w = (whole w bs).length := wn_mul w _ (by omega) (by rw [hwl]; exact sp_dvd w _ (by omega))
  have er := rng3_up (whole w bs).length w (by omega) (by omega) (by omega)
  have e0 : bs ++ List.replicate (sp w bs.length) false = whole w bs := rfl
  have key := lcF_map (vs := [4]) (fg := gSet 4) (ft := fYes) (fe := fFz (fCall gIntB (fCons (fFz (fSl gSl (fVar 3) (fPart (fVar 4)) (fPart (fFz (fBin gAdd (fVar 4) (fVar 0)))))) (fCons (fC (.int 2)) fNil))))
    (fun d => match d with | .int i => .int (val (chunk w (whole w bs) (i.toNat / w)) : Nat) | _ => .non)
    (Δ := ([.sh (.int w), .sh (.str (bitT bs)), .sh (.int (sp w bs.length : Nat)), .sh (.str (bitT (whole w bs))), .un], {})) ((List.range (((whole w bs).length + w - 1) / w)).map fun k => .int (0 + (k : Nat) * (w : Int))) (by
      intro x hx
      obtain ⟨k, hk, rfl⟩ := List.mem_map.mp hx
      have hk' := List.mem_range.mp hk
      have hle : k * w + w ≤ (whole w bs).length := by
        rw [← hm]
        have : (k + 1) * w ≤ wn w (whole w bs).length * w := Nat.mul_le_mul_right _ hk'
        rw [Nat.add_mul, Nat.one_mul] at this
        exact this
      have ec := cut_chunk hle
      have en : (0 + (k : Int) * (w : Int)).toNat / w = k := by
        rw [show (0 + (k : Int) * (w : Int)) = ((k * w : Nat) : Int) by push_cast; omega, Int.toNat_natCast, Nat.mul_div_cancel _ (by omega)]
      have hcl := chunk_len hle
      have ei := intB_ok (chunk w (whole w bs) k) (fun z => by rw [z] at hcl; simp at hcl; omega) (by omega)
      have hsz : (whole w bs).length ≤ sizeLine := by show _ ≤ 16777216; omega
      have en2 : D.int (val (chunk w (whole w bs) ((0 + (k : Int) * (w : Int)).toNat / w)) : Nat) = .int (val (chunk w (whole w bs) k) : Nat) := by rw [en]
      generalize (0 + (k : Int) * (w : Int)) = at_ at ec en2 ⊢
      simp [hsz, bitT_cut]
      simp [ec, ei]
      simpa using en2.symm)
  have e2 : ((List.range (((whole w bs).length + w - 1) / w)).map fun k => D.int (0 + (k : Nat) * (w : Int))).map (fun d => match d with | .int i => D.int (val (chunk w (whole w bs) (i.toNat / w)) : Nat) | _ => .non) = dI (wordsN w (whole w bs)) := by
    unfold dI wordsN wn
    rw [List.map_map, List.map_map]
    apply List.map_congr_left
    intro k hk
    show D.int (val (chunk w (whole w bs) ((0 + (k : Int) * (w : Int)).toNat / w)) : Nat) = _
    rw [show (0 + (k : Int) * (w : Int)) = ((k * w : Nat) : Int) by push_cast; omega, Int.toNat_natCast, Nat.mul_div_cancel _ (by omega)]
    rfl
  rw [e2] at key
  have hz : ((List.range (((whole w bs).length + w - 1) / w)).map fun k => D.int (0 + (k : Nat) * (w : Int))).length ≤ sizeLine := by
    rw [List.length_map, List.length_range]
    show _ ≤ 16777216
    have := Nat.div_le_self ((whole w bs).length + w - 1) w
    omega
  generalize ((List.range (((whole w bs).length + w - 1) / w)).map fun k => D.int (0 + (k : Nat) * (w : Int))) = L at er key hz
  have h5 := sp_neg w bs.length (by omega)
  have h6 : bs.length ≤ sizeLine := by show _ ≤ 16777216; omega
  have h7 : bs.length + sp w bs.length ≤ sizeLine := by show _ ≤ 16777216; omega
  have h8 : (whole w bs).length ≤ sizeLine := by rw [hwl]; exact h7
  have h9 : (0 : Int) < w := by omega
  have h10 : ((sp w bs.length : Nat) : Int) < 16777216 := by omega
  have h13 : -16777216 < ((sp w bs.length : Nat) : Int) := by omega
  have h11 : sp w bs.length ≤ sizeLine := by show _ ≤ 16777216; omega
  have h12 : (0 : Nat) < w := by omega
  simp [F_packed_words, N_packed_words, h5, h6, h7, h9, str_0, h10, h11, h12, h13, rep1, bitT_app, e0, h8, er, hz, key]
end KLaw
namespace KLaw
open PySem PySem.Spec PyProof.Rows L2 DL
theorem one_eq (b : Bool) : bitT [b] = bitT [true] ↔ b = true := by
  cases b
  · constructor
    · intro h
      have := congrArg (fun z => z.cps.toList) h
      simp [bc] at this
    · intro h; cases h
  · simp
theorem vw_in (s0 s1 s2 s3 s4 s5 : SV) (st : Strm) : ∀ (c : List Bool) (a : Nat) (s7 : SV), ∃ s', loopF (gSet 7) (fAsg (fBin gAdd (fFz (fBin gMul (fC (.int 2)) (fVar 6))) (fFz (fCall gInt (fCons (fFz (fBin gEq (fVar 7) (fC (.str "1")))) fNil)))) (gSet 6))
    (dB c) ([s0, s1, s2, s3, s4, s5, .sh (.int (a : Nat)), s7], st) = .ok (.nx, ([s0, s1, s2, s3, s4, s5, .sh (.int (((c.map bc).foldl (fun a c => a * 2 + (c - 48)) a : Nat) : Nat)), s'], st))
  | [], a, s7 => ⟨s7, by simp [loopF, dB]⟩
  | b :: c, a, s7 => by
    obtain ⟨s', h⟩ := vw_in s0 s1 s2 s3 s4 s5 st c (a * 2 + (bc b - 48)) (.sh (.str (bitT [b])))
    refine ⟨s', ?_⟩
    have e : (2 : Int) * (a : Nat) + (if b = true then 1 else 0) = ((a * 2 + (bc b - 48) : Nat) : Int) := by cases b <;> simp [bc] <;> omega
    rw [List.map_cons, List.foldl_cons, ← h]
    rw [show dB (b :: c) = .str (bitT [b]) :: dB c from rfl]
    simp [loopF, scal, str_1, one_eq, e]
theorem vw_out (w : Nat) (hw : 0 < w) (l : List Bool) (s1 s2 : SV) (st : Strm) (hs : l.length ≤ sizeLine) : ∀ (ks : List Nat) (acc : List Int) (s5 s6 s7 : SV), (∀ k ∈ ks, k * w + w ≤ l.length) → acc.length + ks.length ≤ sizeLine → ∃ s5' s6' s7', loopF (gSet 5) (fSeq (fAsg (fSh (fC (.int 0))) (gSet 6))
    (fSeq (fFor (fIter (fFz (fSl gSl (fVar 3) (fPart (fVar 5)) (fPart (fFz (fBin gAdd (fVar 5) (fVar 0))))))) (gSet 7)
    (fAsg (fBin gAdd (fFz (fBin gMul (fC (.int 2)) (fVar 6))) (fFz (fCall gInt (fCons (fFz (fBin gEq (fVar 7) (fC (.str "1")))) fNil)))) (gSet 6)))
    (fDrop (fApp 4 (fVar 6))))) (ks.map fun k => .int (0 + (k : Nat) * (w : Int))) ([.sh (.int w), s1, s2, .sh (.str (bitT l)), .ow (.lst (dI acc)), s5, s6, s7], st) =
      .ok (.nx, ([.sh (.int w), s1, s2, .sh (.str (bitT l)), .ow (.lst (dI (acc ++ ks.map fun k => ((val (chunk w l k) : Nat) : Int)))), s5', s6', s7'], st))
  | [], acc, s5, s6, s7, _, _ => ⟨s5, s6, s7, by simp [loopF]⟩
  | k :: ks, acc, s5, s6, s7, h, hl => by
    rw [List.length_cons] at hl
    have hk := h k List.mem_cons_self
    have ec := cut_chunk hk
    obtain ⟨t, e1⟩ := vw_in (.sh (.int w)) s1 s2 (.sh (.str (bitT l))) (.ow (.lst (dI acc))) (.sh (.int (0 + (k : Nat) * (w : Int)))) st (chunk w l k) 0 s7
    obtain ⟨s5', s6', s7', e2⟩ := vw_out w hw l s1 s2 st hs ks (acc ++ [((val (chunk w l k) : Nat) : Int)]) (.sh (.int (0 + (k : Nat) * (w : Int)))) (.sh (.int (val (chunk w l k) : Nat))) t (fun x hx => h x (List.mem_cons_of_mem _ hx)) (by rw [List.length_append]; simp; omega)
    refine ⟨s5', s6', s7', ?_⟩
    have ev : ((chunk w l k).map bc).foldl (fun a c => a * 2 + (c - 48)) 0 = val (chunk w l k) := rfl
    rw [ev] at e1
    rw [List.map_cons]
    have e3 : (acc ++ [((val (chunk w l k) : Nat) : Int)]) ++ ks.map (fun k => ((val (chunk w l k) : Nat) : Int)) = acc ++ (k :: ks).map (fun k => ((val (chunk w l k) : Nat) : Int)) := by simp
    rw [e3] at e2
    generalize (0 + (k : Int) * (w : Int)) = at_ at ec e1 e2 ⊢
    rw [loopF, ← e2]
    have hlt : acc.length < sizeLine := by omega
    rw [show (D.int ((0 : Nat) : Int)) = .int 0 from rfl] at e1
    simp [hs, bitT_cut, ec, e1, hlt]
    rw [show [D.int ((val (chunk w l k) : Nat) : Int)] = dI [((val (chunk w l k) : Nat) : Int)] from rfl, dI_app]
theorem vwordsof_ok (w : Nat) (h0 : 4 ≤ w) (h : w ≤ 16) (bs : List Bool) (hl : bs.length ≤ 100000) : F__law_vwordsof [.int w, .str (bitT bs)] = .ok (.tup [.lst (dI (wordsN w (whole w bs))), .int (sp w bs.length : Nat)]) := by
  have hs := sp_lt w bs.length (by omega)
  have hwl := whole_len w bs
  have hm : wn w (whole w bs).length * w = (whole w bs).length := wn_mul w _ (by omega) (by rw [hwl]; exact sp_dvd w _ (by omega))
  have er := rng3_up (whole w bs).length w (by omega) (by omega) (by omega)
  have e0 : bs ++ List.replicate (sp w bs.length) false = whole w bs := rfl
  have hws : wn w (whole w bs).length ≤ (whole w bs).length + w := by
    have := Nat.div_le_self ((whole w bs).length + w - 1) w
    unfold wn
    omega
  obtain ⟨s5, s6, s7, e1⟩ := vw_out w (by omega) (whole w bs) (.sh (.str (bitT bs))) (.sh (.int (sp w bs.length : Nat))) {} (by show _ ≤ 16777216; omega) (List.range (wn w (whole w bs).length)) [] .un .un .un (by
    intro k hk
    have hk' := List.mem_range.mp hk
    have : (k + 1) * w ≤ wn w (whole w bs).length * w := Nat.mul_le_mul_right _ hk'
    rw [Nat.add_mul, Nat.one_mul] at this
    omega) (by
    rw [List.length_range]
    show 0 + _ ≤ 16777216
    omega)
  rw [show ((List.range (wn w (whole w bs).length)).map fun k => ((val (chunk w (whole w bs) k) : Nat) : Int)) = wordsN w (whole w bs) from rfl, List.nil_append] at e1
  rw [show dI [] = [] from rfl] at e1
  rw [show ((whole w bs).length + w - 1) / w = wn w (whole w bs).length from rfl] at er
  generalize ((List.range (wn w (whole w bs).length)).map fun k => D.int (0 + (k : Nat) * (w : Int))) = L at er e1
  have h5 := sp_i w bs.length (by omega)
  have h6 : bs.length ≤ sizeLine := by show _ ≤ 16777216; omega
  have h7 : bs.length + sp w bs.length ≤ sizeLine := by show _ ≤ 16777216; omega
  have h8 : (whole w bs).length ≤ sizeLine := by rw [hwl]; exact h7
  have h9 : (0 : Int) < w := by omega
  have h10 : ((sp w bs.length : Nat) : Int) < 16777216 := by omega
  have h13 : -16777216 < ((sp w bs.length : Nat) : Int) := by omega
  have h11 : sp w bs.length ≤ sizeLine := by show _ ≤ 16777216; omega
  have h12 : (0 : Nat) < w := by omega
  simp [F__law_vwordsof, N__law_vwordsof, h5, h6, h7, h9, str_0, h10, h11, h12, h13, rep1, bitT_app, e0, h8, er]
  simp [e1]
/-- the image of bits -/
def wsOf (w : Nat) (bs : List Bool) : List Int := wordsN w (whole w bs)
def bodyI (w : Nat) (v : Int) (bs : List Bool) : List Int := v :: ((wsOf w bs).length : Nat) :: (sp w bs.length : Nat) :: wsOf w bs
def img (w : Nat) (v : Int) (bs : List Bool) : List Int := v :: ((wsOf w bs).length : Nat) :: (sp w bs.length : Nat) :: ((bodyI w v bs).sum % (2 ^ w - 1)) :: (wsum (bodyI w v bs) % (2 ^ w - 1)) :: wsOf w bs
/-- what the law takes -/
structure Fit (w : Nat) (v : Int) (bs : List Bool) : Prop where
  w0 : 4 ≤ w
  w1 : w ≤ 16
  v0 : 0 ≤ v
  v1 : v < 2 ^ w - 1
  bl : bs.length ≤ 100000
  many : ((wsOf w bs).length : Int) < 2 ^ w - 1
theorem Fit.mod {w : Nat} {v : Int} {bs : List Bool} (f : Fit w v bs) (i : Int) : 0 ≤ i % (2 ^ w - 1) ∧ i % (2 ^ w - 1) < 2 ^ w - 1 := by
  have := two_pow_pos w (by have := f.w0; omega)
  exact ⟨Int.emod_nonneg _ (by omega), Int.emod_lt_of_pos _ this⟩
theorem Fit.spare {w : Nat} {v : Int} {bs : List Bool} (f : Fit w v bs) : ((sp w bs.length : Nat) : Int) < w ∧ (w : Int) < 2 ^ w - 1 := by
  have h0 := f.w0
  have hs := sp_lt w bs.length (by omega)
  have : ∀ w : Fin 17, 4 ≤ w.val → (w.val : Int) < 2 ^ w.val - 1 := by decide
  exact ⟨by omega, this ⟨w, by have := f.w1; omega⟩ h0⟩
theorem Fit.body {w : Nat} {v : Int} {bs : List Bool} (f : Fit w v bs) : Wds w (bodyI w v bs) := by
  intro x hx
  have h1 := f.spare
  have h2 := f.v0
  have h3 := f.v1
  have h4 := f.many
  simp only [bodyI, List.mem_cons] at hx
  rcases hx with rfl | rfl | rfl | hx
  · exact ⟨h2, by omega⟩
  · exact ⟨by omega, by omega⟩
  · exact ⟨by omega, by omega⟩
  · exact wordsN_wds w _ x hx
theorem Fit.img {w : Nat} {v : Int} {bs : List Bool} (f : Fit w v bs) : Wds w (img w v bs) := by
  intro x hx
  have h1 := f.spare
  have h2 := f.v0
  have h3 := f.v1
  have h4 := f.many
  simp only [KLaw.img, List.mem_cons] at hx
  rcases hx with rfl | rfl | rfl | rfl | rfl | hx
  · exact ⟨h2, by omega⟩
  · exact ⟨by omega, by omega⟩
  · exact ⟨by omega, by omega⟩
  · have := f.mod (bodyI w v bs).sum; exact ⟨this.1, by omega⟩
  · have := f.mod (wsum (bodyI w v bs)); exact ⟨this.1, by omega⟩
  · exact wordsN_wds w _ x hx
theorem Fit.len {w : Nat} {v : Int} {bs : List Bool} (f : Fit w v bs) : (wsOf w bs).length + 8 ≤ sizeLine := by
  have h4 := f.many
  have := pow16 f.w1
  show _ ≤ 16777216
  omega
theorem vimage_ok {w : Nat} {v : Int} {bs : List Bool} (f : Fit w v bs) : F__law_vimage [.int w, .int v, .str (bitT bs)] = .ok (.lst (dI (img w v bs))) := by
  have e1 := vwordsof_ok w f.w0 f.w1 bs f.bl
  have hl := f.len
  have e2 := vsums_eq w (by have := f.w0; omega) (by have := f.w1; omega) (bodyI w v bs) (f.body.small f.w1) (by simp [bodyI]; omega)
  have h1 : (wsOf w bs).length + 1 + 1 + 1 ≤ sizeLine := by omega
  have h2 : (wsOf w bs).length + 1 + 1 + 1 + 1 + 1 ≤ sizeLine := by omega
  have h3 : 3 + (wsOf w bs).length ≤ sizeLine := by omega
  have h4 : 5 + (wsOf w bs).length ≤ sizeLine := by omega
  rw [show wordsN w (whole w bs) = wsOf w bs from rfl] at e1
  simp only [bodyI, dI_cons] at e2
  simp [F__law_vimage, N__law_vimage, e1, h3, h4, e2, sumsD, img, bodyI, dI_cons]
theorem made_ok {w : Nat} {v : Int} {bs : List Bool} (f : Fit w v bs) : F_made [.int w, .int v, .lst (dI (wsOf w bs)), .int (sp w bs.length : Nat)] = .ok (.lst (dI (img w v bs))) := by
  have hl := f.len
  have e2 := sums_by_eq w (by have := f.w0; omega) (by have := f.w1; omega) (bodyI w v bs)
  have h1 : (wsOf w bs).length + 1 + 1 + 1 ≤ sizeLine := by omega
  have h2 : (wsOf w bs).length + 1 + 1 + 1 + 1 + 1 ≤ sizeLine := by omega
  simp only [bodyI, dI_cons] at e2
  simp [F_made, N_made, h1, h2, e2, sumsD, img, bodyI, dI_cons]
end KLaw
namespace KLaw
open PySem PySem.Spec PyProof.Rows L2 DL
theorem need_version_ok (w : Nat) (h : w < 1000) (v : Int) (h0 : 0 ≤ v) (h1 : v < 2 ^ w - 1) : F_need_version [.int w, .int v] = .ok .non := by
  simp [F_need_version, N_need_version, ones_eq w h, is_below_int v _ h0 h1]
theorem need_bits_ok (bs : List Bool) (hl : bs.length ≤ 100000) : F_need_bits [.str (bitT bs)] = .ok .non := by
  have key := lcF_map (vs := [1]) (fg := gSet 1) (ft := fYes) (fe := fFz (fBin gIn (fVar 1) (fC (.str "01"))))
    (fun _ => .bl true) (Δ := ([.sh (.str (bitT bs)), .un], {})) (dB bs) (by
      intro x hx
      obtain ⟨b, hb, rfl⟩ := dB_mem hx
      cases b <;> rfl)
  have h6 : bs.length ≤ sizeLine := by show _ ≤ 16777216; omega
  have e : F_is_bits [.str (bitT bs)] = .ok (.bl true) := by
    simp [F_is_bits, N_is_bits, h6]
    rw [key]
    simp [all_bl]
  simp [F_need_bits, N_need_bits, e]
theorem words_of_ok (w : Nat) (h0 : 4 ≤ w) (h : w ≤ 16) (bs : List Bool) (hl : bs.length ≤ 100000) : F_words_of [.int w, .str (bitT bs)] = .ok (.tup [.lst (dI (wsOf w bs)), .int (sp w bs.length : Nat)]) := by
  have e1 := need_width_ok w h0 h
  have e2 := need_bits_ok bs hl
  have e3 := packed_ok w h0 h bs hl
  simp [F_words_of, N_words_of, e1, e2, e3, wsOf]
theorem image_of_ok {w : Nat} {v : Int} {bs : List Bool} (f : Fit w v bs) : F_image_of [.int w, .int v, .str (bitT bs)] = .ok (.lst (dI (img w v bs))) := by
  have e1 := need_width_ok w f.w0 f.w1
  have e2 := need_version_ok w (by have := f.w1; omega) v f.v0 f.v1
  have e3 := need_bits_ok bs f.bl
  have e4 := packed_ok w f.w0 f.w1 bs f.bl
  have e5 := ones_eq w (by have := f.w1; omega)
  have e6 := made_ok f
  have h := f.many
  have hd : decide ((2 : Int) ^ w - 1 ≤ ((wsOf w bs).length : Nat)) = false := by simp; omega
  rw [show wordsN w (whole w bs) = wsOf w bs from rfl] at e4
  simp [F_image_of, N_image_of, e1, e2, e3, e4, e5, e6, hd]
/-! ## why a list is none -/
def whyD (w : Nat) : List Int → D
  | v :: m :: s :: a :: b :: body =>
    if v = 2 ^ w - 1 then .str "version" else
    if m ≠ (body.length : Nat) ∨ m = 2 ^ w - 1 then .str "many" else
    if (w : Int) ≤ s ∨ m = 0 ∧ 0 < s then .str "spare" else
    if body ≠ [] ∧ body.getLastD 0 % 2 ^ s.toNat ≠ 0 then .str "rest" else
    if a = (v :: m :: s :: body).sum % (2 ^ w - 1) ∧ b = wsum (v :: m :: s :: body) % (2 ^ w - 1) then .non else .str "sums"
  | _ => .str "list"
theorem band_low (x s : Nat) : Builtin.bitAnd (x : Int) (2 ^ s - 1) = (x : Int) % 2 ^ s := by
  have e : (2 : Int) ^ s - 1 = ((2 ^ s - 1 : Nat) : Int) := by
    have : 1 ≤ 2 ^ s := Nat.one_le_two_pow
    push_cast [Int.ofNat_sub this]
    rfl
  rw [e, PySem.W.os_band, Nat.and_two_pow_sub_one_eq_mod]
  push_cast
  rfl
theorem last_at (x : Int) (l : List Int) : atI (dI (x :: l)) (-1) = some (.int ((x :: l).getLastD 0)) := by
  unfold atI ixN
  rw [if_neg (by omega), if_pos (by simp; omega), Option.bind_some, dI_get]
  have : ((-1 : Int) + ((dI (x :: l)).length : Nat)).toNat = l.length := by rw [dI_len, List.length_cons]; omega
  rw [this]
  have : (x :: l)[l.length]? = (x :: l).getLast? := by rw [List.getLast?_eq_getElem?]; simp
  rw [this]
  cases h : (x :: l).getLast? with
  | none => simp at h
  | some y => simp [List.getLastD_eq_getLast?, h]
theorem shaped_pair (a b : Int) : SeqAt.shaped (D.py (.tup [.int a, .int b])) = true := rfl
theorem eqv_pair (a b c d : Int) : PyData.eqv (D.py (.tup [.int a, .int b])) (D.py (.tup [.int c, .int d])) = (a == c && b == d) := by
  show (a == c && (b == d && true)) = _
  rw [Bool.and_true]
theorem why_short (w : Nat) : ∀ (ws : List Int), ws.length < 5 → whyD w ws = .str "list"
  | [], _ => rfl
  | [_], _ => rfl
  | [_, _], _ => rfl
  | [_, _, _], _ => rfl
  | [_, _, _, _], _ => rfl
  | _ :: _ :: _ :: _ :: _ :: _, h => by simp at h; omega
theorem five : ∀ (ws : List Int), ¬ ws.length < 5 → ∃ v m s a b body, ws = v :: m :: s :: a :: b :: body
  | [], h => by simp at h
  | [_], h => by simp at h
  | [_, _], h => by simp at h
  | [_, _, _], h => by simp at h
  | [_, _, _, _], h => by simp at h
  | v :: m :: s :: a :: b :: body, _ => ⟨v, m, s, a, b, body, rfl⟩
theorem last_mem (x : Int) (l : List Int) : (x :: l).getLastD 0 ∈ x :: l := by
  rw [List.getLastD_eq_getLast?]
  cases h : (x :: l).getLast? with
  | none => simp at h
  | some y => exact List.mem_of_getLast? h
theorem why_ok (w : Nat) (h0 : 4 ≤ w) (h : w ≤ 16) (ws : List Int) (hw : Wds w ws) (hl : ws.length ≤ sizeLine) {d : D} (hd : LT (dI ws) d) : F_why_not [.int w, d] = .ok (whyD w ws) := by
  have ea := are_words_ok w (by omega) ws hw hl hd
  have eo := ones_eq w (by omega)
  by_cases hlt : ws.length < 5
  · have hlt' : (ws.length : Int) < 5 := by omega
    rcases hd with rfl | rfl <;> simp [F_why_not, N_why_not, ea, hlt', why_short w ws hlt]
  · obtain ⟨v, m, s, a, b, body, rfl⟩ := five ws hlt
    have es := sums_by_eq w (by omega) (by omega) (v :: m :: s :: body)
    obtain ⟨sn, rfl⟩ := Int.eq_ofNat_of_zero_le (hw s (by simp)).1
    simp only [dI_cons] at hd ea es
    have hn : ¬ ((body.length : Int) + 1 + 1 + 1 + 1 + 1 < 5) := by omega
    have hb : body.length + 1 + 1 + 1 ≤ sizeLine := by simp at hl; omega
    have ED : d = .lst (D.int v :: D.int m :: D.int (sn : Int) :: D.int a :: D.int b :: dI body) ∨ d = .tup (D.int v :: D.int m :: D.int (sn : Int) :: D.int a :: D.int b :: dI body) := hd
    clear hd
    have hlast : ∀ x rest, body = x :: rest → 0 ≤ (x :: rest).getLastD 0 := fun x rest e => (hw _ (by subst e; have := last_mem x rest; simp only [List.mem_cons] at this ⊢; exact .inr (.inr (.inr (.inr (.inr this)))))).1
    clear hw hl hlt
    rw [show whyD w (v :: m :: (sn : Int) :: a :: b :: body) = (if v = 2 ^ w - 1 then .str "version" else
      if m ≠ (body.length : Nat) ∨ m = 2 ^ w - 1 then .str "many" else
      if (w : Int) ≤ (sn : Int) ∨ m = 0 ∧ 0 < (sn : Int) then .str "spare" else
      if body ≠ [] ∧ body.getLastD 0 % 2 ^ sn ≠ 0 then .str "rest" else
      if a = (v :: m :: (sn : Int) :: body).sum % (2 ^ w - 1) ∧ b = wsum (v :: m :: (sn : Int) :: body) % (2 ^ w - 1) then .non else .str "sums") from rfl]
    unfold sumsD at es
    generalize (v :: m :: (sn : Int) :: body).sum % (2 ^ w - 1) = X at es ⊢
    generalize wsum (v :: m :: (sn : Int) :: body) % (2 ^ w - 1) = Y at es ⊢
    generalize (2 : Int) ^ w - 1 = O at eo ⊢
    by_cases c1 : v = O
    · subst c1
      rcases ED with rfl | rfl <;> simp [F_why_not, N_why_not, ea, cut5, cut5', eo, scal, hn, chk_T]
    by_cases c2 : m = (body.length : Nat)
    case neg => rcases ED with rfl | rfl <;> simp [F_why_not, N_why_not, ea, cut5, cut5', eo, scal, hn, c1, c2]
    subst c2
    by_cases c3 : ((body.length : Nat) : Int) = O
    · subst c3
      rcases ED with rfl | rfl <;> simp [F_why_not, N_why_not, ea, cut5, cut5', eo, scal, hn, c1]
    by_cases c4 : w ≤ sn
    · rcases ED with rfl | rfl <;> simp [F_why_not, N_why_not, ea, cut5, cut5', eo, scal, hn, c1, c3, c4]
    have hs1 : (sn : Int) ≤ 1000000 := by omega
    by_cases hbd : body = []
    · subst hbd
      rw [show dI [] = [] from rfl] at es ED
      rw [List.length_nil, show ((0 : Nat) : Int) = 0 from rfl] at ED
      rw [List.length_nil] at c3 ⊢
      rw [List.length_nil, show ((0 : Nat) : Int) = 0 from rfl] at es
      rw [show ((0 : Nat) : Int) = 0 from rfl] at c3
      clear hb hn hlast
      have hn : ¬ ((0 : Int) + 1 + 1 + 1 + 1 + 1 < 5) := by omega
      by_cases c6 : 0 < sn
      · rcases ED with rfl | rfl <;> simp [F_why_not, N_why_not, ea, cut5, cut5', eo, scal, hn, c1, c3, c4, c6]
      by_cases c7 : a = X
      · subst c7
        by_cases c8 : b = Y
        · subst c8
          rcases ED with rfl | rfl <;> simp [F_why_not, N_why_not, ea, cut5, cut5', eo, scal, hn, c1, c3, c4, c6, es, shaped_pair, eqv_pair]
        · rcases ED with rfl | rfl <;> simp [F_why_not, N_why_not, ea, cut5, cut5', eo, scal, hn, c1, c3, c4, c6, es, shaped_pair, eqv_pair, c8, beq_eq_false_iff_ne.mpr c8]
      · rcases ED with rfl | rfl <;> simp [F_why_not, N_why_not, ea, cut5, cut5', eo, scal, hn, c1, c3, c4, c6, es, shaped_pair, eqv_pair, c7, beq_eq_false_iff_ne.mpr c7]
    · have hla : atI (dI body) (-1) = some (.int (body.getLastD 0)) := by
        cases body with
        | nil => exact absurd rfl hbd
        | cons x rest => exact last_at x rest
      obtain ⟨xn, hx⟩ := Int.eq_ofNat_of_zero_le (show 0 ≤ body.getLastD 0 from by
        cases body with
        | nil => exact absurd rfl hbd
        | cons x rest => exact hlast x rest rfl)
      have hbl := band_low xn sn
      have hbe : body.isEmpty = false := by cases body with
        | nil => exact absurd rfl hbd
        | cons x rest => rfl
      rw [hx] at hla ⊢
      by_cases c6 : (xn : Int) % 2 ^ sn = 0
      · by_cases c7 : a = X
        · subst c7
          by_cases c8 : b = Y
          · subst c8
            rcases ED with rfl | rfl <;> simp [F_why_not, N_why_not, ea, cut5, cut5', eo, scal, hn, c1, c3, c4, c6, hla, hbl, hs1, hb, hbd, hbe, dI_emp, es, shaped_pair, eqv_pair]
          · rcases ED with rfl | rfl <;> simp [F_why_not, N_why_not, ea, cut5, cut5', eo, scal, hn, c1, c3, c4, c6, hla, hbl, hs1, hb, hbd, hbe, dI_emp, es, shaped_pair, eqv_pair, c8, beq_eq_false_iff_ne.mpr c8]
        · rcases ED with rfl | rfl <;> simp [F_why_not, N_why_not, ea, cut5, cut5', eo, scal, hn, c1, c3, c4, c6, hla, hbl, hs1, hb, hbd, hbe, dI_emp, es, shaped_pair, eqv_pair, c7, beq_eq_false_iff_ne.mpr c7]
      · rcases ED with rfl | rfl <;> simp [F_why_not, N_why_not, ea, cut5, cut5', eo, scal, hn, c1, c3, c4, c6, hla, hbl, hs1, hb, hbd, hbe, dI_emp, bne_iff_ne.mpr c6]
end KLaw
namespace KLaw
open PySem PySem.Spec PyProof.Rows L2 DL
theorem bit_shr (x p : Nat) : (Builtin.bitAnd ((x : Int) / 2 ^ p) 1 != 0) = x.testBit p := by
  have e : (x : Int) / 2 ^ p = ((x / 2 ^ p : Nat) : Int) := by push_cast; rfl
  rw [e, bitAnd_m1, Nat.testBit_eq_decide_div_mod_eq]
  have h2 : x / 2 ^ p % 2 < 2 := Nat.mod_lt _ (by omega)
  by_cases h : x / 2 ^ p % 2 = 1
  · rw [decide_eq_true h, bne_iff_ne]; omega
  · rw [decide_eq_false h, bne_eq_false_iff_eq]; omega
theorem bit_and (x p : Nat) : (Builtin.bitAnd (x : Int) (2 ^ p) != 0) = x.testBit p := by
  have e : (2 : Int) ^ p = ((2 ^ p : Nat) : Int) := by push_cast; rfl
  rw [e, PySem.W.os_band]
  cases h : x.testBit p
  · rw [bne_eq_false_iff_eq]
    have : x &&& 2 ^ p = 0 := by
      apply Nat.eq_of_testBit_eq
      intro i
      rw [Nat.testBit_and, Nat.testBit_two_pow, Nat.zero_testBit]
      by_cases hi : p = i
      · subst hi; rw [h]; rfl
      · simp [hi]
    rw [this]
    rfl
  · rw [bne_iff_ne]
    intro z
    have z' : x &&& 2 ^ p = 0 := by omega
    have := congrArg (fun y => y.testBit p) z'
    simp [Nat.testBit_and, h, Nat.testBit_two_pow] at this
/-- the bits of a word, the greatest ahead -/
def sigs (w : Nat) (x : Int) : List Bool := (List.range w).map fun k => x.toNat.testBit (w - 1 - k)
def allS (w : Nat) (ws : List Int) : List Bool := ws.flatMap (sigs w)
theorem sigs_len (w : Nat) (x : Int) : (sigs w x).length = w := by simp [sigs]
theorem allS_len (w : Nat) : ∀ (ws : List Int), (allS w ws).length = ws.length * w
  | [] => by simp [allS]
  | x :: ws => by
    have := allS_len w ws
    unfold allS at this ⊢
    rw [List.flatMap_cons, List.length_append, this, sigs_len, List.length_cons, Nat.succ_mul, Nat.add_comm]
def cutS_ (w : Nat) (ws : List Int) (sp : Int) : List Bool := DL.cutD (allS w ws) none (some (((allS w ws).length : Nat) - sp))
theorem dB_flat (w : Nat) : ∀ (ws : List Int), (dI ws).flatMap (fun d => match d with | .int i => dB (sigs w i) | _ => []) = dB (allS w ws)
  | [] => rfl
  | x :: ws => by
    rw [dI_cons, List.flatMap_cons, dB_flat w ws]
    show dB (sigs w x) ++ dB (allS w ws) = _
    rw [dB_app]
    rfl
theorem bits_in_ok (w : Nat) (h0 : 4 ≤ w) (h : w ≤ 16) (ws : List Int) (hw : Wds w ws) (hl : ws.length ≤ 70000) {d : D} (hd : LT (dI ws) d) (s : Int) : F_bits_in [.int w, d, .int s] = .ok (.str (bitT (cutS_ w ws s))) := by
  have er := rng3_down w (by omega)
  have key := lc2F_map (vs := [4, 5]) (vs1 := [5]) (fg := gSet 4) (ft := fYes) (fi1 := fRng D.rng3 (fCons (fFz (fBin gSub (fVar 0) (fC (.int 1)))) (fCons (fFz (fUn gNeg (fC (.int 1)))) (fCons (fFz (fUn gNeg (fC (.int 1)))) fNil)))) (fg1 := gSet 5) (ft1 := fYes)
    (fe := fIf (fTru (fFz (fBin gBand (fFz (fBin gShr (fVar 4) (fVar 5))) (fC (.int 1))))) (fC (.str "1")) (fC (.str "0")))
    (fun d => match d with | .int i => dB (sigs w i) | _ => []) (Δ := ([.sh (.int w), .sh d, .sh (.int s), .un, .un, .un], {})) (dI ws) (by
      intro y hy
      obtain ⟨x, hx, rfl⟩ := dI_mem hy
      obtain ⟨xn, rfl⟩ := Int.eq_ofNat_of_zero_le (hw x hx).1
      have k2 := lcF_map (vs := [5]) (fg := gSet 5) (ft := fYes) (fe := fIf (fTru (fFz (fBin gBand (fFz (fBin gShr (fVar 4) (fVar 5))) (fC (.int 1))))) (fC (.str "1")) (fC (.str "0")))
        (fun d => match d with | .int i => .str (bitT [xn.testBit i.toNat]) | _ => .non) (Δ := ([.sh (.int w), .sh d, .sh (.int s), .un, .sh (.int xn), .un], {})) ((List.range w).map fun k => .int ((w : Int) - 1 + (k : Nat) * (-1))) (by
          intro z hz
          obtain ⟨k, hk, rfl⟩ := List.mem_map.mp hz
          have hk' := List.mem_range.mp hk
          obtain ⟨p, hp⟩ := Int.eq_ofNat_of_zero_le (show 0 ≤ (w : Int) - 1 + (k : Nat) * (-1) by omega)
          rw [hp]
          have := bit_shr xn p
          cases hb : xn.testBit p <;> simp [bit_shr, hb, str_0, str_1])
      have e2 : ((List.range w).map fun k => D.int ((w : Int) - 1 + (k : Nat) * (-1))).map (fun d => match d with | .int i => .str (bitT [xn.testBit i.toNat]) | _ => .non) = dB (sigs w (xn : Int)) := by
        unfold sigs dB
        rw [List.map_map, List.map_map]
        apply List.map_congr_left
        intro k hk
        have hk' := List.mem_range.mp hk
        show D.str (bitT [xn.testBit ((w : Int) - 1 + (k : Nat) * (-1)).toNat]) = .str (bitT [(xn : Int).toNat.testBit (w - 1 - k)])
        rw [Int.toNat_natCast, show ((w : Int) - 1 + (k : Nat) * (-1)).toNat = w - 1 - k by omega]
      rw [e2] at k2
      generalize ((List.range w).map fun k => D.int ((w : Int) - 1 + (k : Nat) * (-1))) = L at er k2
      simp [er, k2])
  rw [dB_flat] at key
  have hz : (allS w ws).length ≤ sizeLine := by
    rw [allS_len]
    show _ ≤ 16777216
    have : ws.length * w ≤ 70000 * 16 := Nat.mul_le_mul hl h
    omega
  have hj := join_ok (cutS_ w ws s) (by
    have : (cutS_ w ws s).length ≤ (allS w ws).length := by
      unfold cutS_ DL.cutD
      rw [List.length_take, List.length_drop]
      omega
    rw [allS_len] at this
    have : ws.length * w ≤ 70000 * 16 := Nat.mul_le_mul hl h
    omega)
  unfold cutS_ at hj ⊢
  rcases hd with rfl | rfl <;> simp [F_bits_in, N_bits_in, key, hz, str_e, hj]
end KLaw
namespace KLaw
open PySem PySem.Spec PyProof.Rows L2 DL
theorem at0 {α : Type} (x : α) (l : List α) : atI (x :: l) 0 = some x := atI_nat (j := 0) rfl
theorem at1 {α : Type} (x y : α) (l : List α) : atI (x :: y :: l) 1 = some y := atI_nat (j := 1) rfl
theorem at2 {α : Type} (x y z : α) (l : List α) : atI (x :: y :: z :: l) 2 = some z := atI_nat (j := 2) rfl
theorem at3 {α : Type} (x y z u : α) (l : List α) : atI (x :: y :: z :: u :: l) 3 = some u := atI_nat (j := 3) rfl
theorem at4 {α : Type} (x y z u v : α) (l : List α) : atI (x :: y :: z :: u :: v :: l) 4 = some v := atI_nat (j := 4) rfl
theorem vs_in (w xn : Nat) (h : w ≤ 16) (s1 s2 : SV) (st : Strm) : ∀ (ks : List Nat) (acc : List Bool) (s5 : SV), (∀ k ∈ ks, k < w) → acc.length + ks.length ≤ sizeLine → ∃ s', loopF (gSet 5) (fDrop (fApp 3 (fIf (fTru (fFz (fBin gBand (fVar 4) (fCallP 1 F__law_vpow (fCons (fVar 5) fNil))))) (fC (.str "1")) (fC (.str "0")))))
    (ks.map fun k => .int ((w : Int) - 1 + (k : Nat) * (-1))) ([.sh (.int w), s1, s2, .ow (.lst (dB acc)), .sh (.int xn), s5], st) = .ok (.nx, ([.sh (.int w), s1, s2, .ow (.lst (dB (acc ++ ks.map fun k => xn.testBit (w - 1 - k)))), .sh (.int xn), s'], st))
  | [], acc, s5, _, _ => ⟨s5, by simp [loopF]⟩
  | k :: ks, acc, s5, hk, hl => by
    rw [List.length_cons] at hl
    have hk' := hk k List.mem_cons_self
    obtain ⟨s', e⟩ := vs_in w xn h s1 s2 st ks (acc ++ [xn.testBit (w - 1 - k)]) (.sh (.int ((w : Int) - 1 + (k : Nat) * (-1)))) (fun x hx => hk x (List.mem_cons_of_mem _ hx)) (by rw [List.length_append]; simp; omega)
    refine ⟨s', ?_⟩
    have e3 : (acc ++ [xn.testBit (w - 1 - k)]) ++ ks.map (fun k => xn.testBit (w - 1 - k)) = acc ++ (k :: ks).map (fun k => xn.testBit (w - 1 - k)) := by simp
    rw [e3] at e
    have hp : (w : Int) - 1 + (k : Nat) * (-1) = ((w - 1 - k : Nat) : Int) := by omega
    have hlt : acc.length < sizeLine := by omega
    have ev := vpow_eq (w - 1 - k) (by omega)
    rw [List.map_cons, loopF, ← e, hp]
    generalize w - 1 - k = p at ev ⊢
    have hb := bit_and xn p
    have ed : ∀ b, dB acc ++ [D.str (bitT [b])] = dB (acc ++ [b]) := fun b => dB_app acc [b]
    cases hb2 : xn.testBit p <;> simp [ev, hb, hb2, hlt, str_0, str_1, ed]
theorem vs_out (w : Nat) (h0 : 1 ≤ w) (h : w ≤ 16) (s1 s2 : SV) (st : Strm) : ∀ (ws : List Int) (acc : List Bool) (s4 s5 : SV), Wds w ws → acc.length + ws.length * w ≤ sizeLine → ∃ s4' s5', loopF (gSet 4) (fFor (fRng D.rng3 (fCons (fFz (fBin gSub (fVar 0) (fC (.int 1)))) (fCons (fFz (fUn gNeg (fC (.int 1)))) (fCons (fFz (fUn gNeg (fC (.int 1)))) fNil)))) (gSet 5)
    (fDrop (fApp 3 (fIf (fTru (fFz (fBin gBand (fVar 4) (fCallP 1 F__law_vpow (fCons (fVar 5) fNil))))) (fC (.str "1")) (fC (.str "0"))))))
    (dI ws) ([.sh (.int w), s1, s2, .ow (.lst (dB acc)), s4, s5], st) = .ok (.nx, ([.sh (.int w), s1, s2, .ow (.lst (dB (acc ++ allS w ws))), s4', s5'], st))
  | [], acc, s4, s5, _, _ => ⟨s4, s5, by simp [loopF, dI, allS]⟩
  | x :: ws, acc, s4, s5, hw, hl => by
    rw [List.length_cons, Nat.succ_mul] at hl
    obtain ⟨xn, rfl⟩ := Int.eq_ofNat_of_zero_le (hw x List.mem_cons_self).1
    obtain ⟨s', e1⟩ := vs_in w xn h s1 s2 st (List.range w) acc s5 (fun k hk => List.mem_range.mp hk) (by rw [List.length_range]; omega)
    rw [show (List.range w).map (fun k => xn.testBit (w - 1 - k)) = sigs w (xn : Int) from rfl] at e1
    obtain ⟨s4', s5', e2⟩ := vs_out w h0 h s1 s2 st ws (acc ++ sigs w (xn : Int)) (.sh (.int xn)) s' (fun y hy => hw y (List.mem_cons_of_mem _ hy)) (by rw [List.length_append, sigs_len]; omega)
    refine ⟨s4', s5', ?_⟩
    have e3 : (acc ++ sigs w (xn : Int)) ++ allS w ws = acc ++ allS w ((xn : Int) :: ws) := by simp [allS]
    rw [e3] at e2
    have er := rng3_down w (by omega)
    generalize ((List.range w).map fun k => D.int ((w : Int) - 1 + (k : Nat) * (-1))) = L at er e1
    rw [dI_cons, loopF, ← e2]
    simp [er, e1]
theorem cutS_len (w : Nat) (ws : List Int) (s : Int) : (cutS_ w ws s).length ≤ ws.length * w := by
  have : (cutS_ w ws s).length ≤ (allS w ws).length := by
    unfold cutS_ DL.cutD
    rw [List.length_take, List.length_drop]
    omega
  rw [allS_len] at this
  exact this
theorem vsigns_ok (w : Nat) (h0 : 1 ≤ w) (h : w ≤ 16) (ws : List Int) (hw : Wds w ws) (hl : ws.length ≤ 70000) (s : Int) : F__law_vsigns [.int w, .lst (dI ws), .int s] = .ok (.str (bitT (cutS_ w ws s))) := by
  have hm : ws.length * w ≤ 70000 * 16 := Nat.mul_le_mul hl h
  obtain ⟨s4, s5, e⟩ := vs_out w h0 h (.sh (.lst (dI ws))) (.sh (.int s)) {} ws [] .un .un hw (by show 0 + _ ≤ 16777216; omega)
  rw [show dB [] = [] from rfl, List.nil_append] at e
  have hj := join_ok (cutS_ w ws s) (by have := cutS_len w ws s; omega)
  have hz : (allS w ws).length ≤ sizeLine := by
    rw [allS_len]
    show _ ≤ 16777216
    omega
  unfold cutS_ at hj ⊢
  simp [F__law_vsigns, N__law_vsigns, e, hz, str_e, hj]
/-- what is told of a list -/
def whyT (w : Nat) (ws : List Int) : D := match whyD w ws with
  | .non => .tup [.str "image", .int (ws.headD 0), .str (bitT (cutS_ w (ws.drop 5) (ws.getD 2 0)))]
  | x => .tup [.str "not", x]
theorem whyD_cases (w : Nat) (ws : List Int) : whyD w ws = .non ∧ (∃ v m s a b body, ws = v :: m :: s :: a :: b :: body) ∨ ∃ z, whyD w ws = .str z := by
  by_cases h : ws.length < 5
  · exact .inr ⟨_, why_short w ws h⟩
  · obtain ⟨v, m, s, a, b, body, rfl⟩ := five ws h
    unfold whyD
    repeat' split
    all_goals first | exact .inr ⟨_, rfl⟩ | exact .inl ⟨rfl, v, m, s, a, b, body, rfl⟩
theorem image_or_why_ok (w : Nat) (h0 : 4 ≤ w) (h : w ≤ 16) (ws : List Int) (hw : Wds w ws) (hl : ws.length ≤ 70000) {d : D} (hd : LT (dI ws) d) : F_image_or_why [.int w, d] = .ok (whyT w ws) := by
  have e1 := need_width_ok w h0 h
  have e2 := why_ok w h0 h ws hw (by show _ ≤ 16777216; omega) hd
  rcases whyD_cases w ws with ⟨hn, v, m, s, a, b, body, rfl⟩ | ⟨z, hz⟩
  · have hb : Wds w body := fun x hx => hw x (by simp [hx])
    simp at hl
    have e3 : F_bits_in [.int w, .lst (dI body), .int s] = .ok (.str (bitT (cutS_ w body s))) := bits_in_ok w h0 h body hb (by omega) (.inl rfl) s
    have e4 : F_bits_in [.int w, .tup (dI body), .int s] = .ok (.str (bitT (cutS_ w body s))) := bits_in_ok w h0 h body hb (by omega) (.inr rfl) s
    unfold whyT
    simp only [dI_cons] at hd e2
    rcases hd with rfl | rfl <;> simp [F_image_or_why, N_image_or_why, e1, e2, hn, cut5', e3, e4, at0, at2]
  · unfold whyT
    rcases hd with rfl | rfl <;> simp [F_image_or_why, N_image_or_why, e1, e2, hz]
theorem vwhy_ok (w : Nat) (h0 : 4 ≤ w) (h : w ≤ 16) (ws : List Int) (hw : Wds w ws) (hl : ws.length ≤ 70000) : F__law_vwhy [.int w, .lst (dI ws)] = .ok (whyT w ws) := by
  have eo := vpow_eq w (by omega)
  by_cases hlt : ws.length < 5
  · have hlt' : (ws.length : Int) < 5 := by omega
    simp [F__law_vwhy, N__law_vwhy, eo, hlt', why_short w ws hlt, whyT]
  · obtain ⟨v, m, s, a, b, body, rfl⟩ := five ws hlt
    have hbw : Wds w body := fun x hx => hw x (by simp [hx])
    have es := vsums_eq w (by omega) (by omega) (v :: m :: s :: body) (Wds.small h fun x hx => hw x (by simp only [List.mem_cons] at hx ⊢; rcases hx with e | e | e | e <;> simp [e])) (by simp at hl ⊢; show _ ≤ 16777216; omega)
    obtain ⟨sn, rfl⟩ := Int.eq_ofNat_of_zero_le (hw s (by simp)).1
    have eb := vsigns_ok w (by omega) h body hbw (by simp at hl; omega) (sn : Int)
    simp only [dI_cons] at es ⊢
    have hn : ¬ ((body.length : Int) + 1 + 1 + 1 + 1 + 1 < 5) := by omega
    have hb : 3 + body.length ≤ sizeLine := by simp at hl; show _ ≤ 16777216; omega
    have hlast : ∀ x rest, body = x :: rest → 0 ≤ (x :: rest).getLastD 0 := fun x rest e => (hw _ (by subst e; have := last_mem x rest; simp only [List.mem_cons] at this ⊢; exact .inr (.inr (.inr (.inr (.inr this)))))).1
    clear hw hl hlt
    rw [show whyT w (v :: m :: (sn : Int) :: a :: b :: body) = (match (if v = 2 ^ w - 1 then D.str "version" else
      if m ≠ (body.length : Nat) ∨ m = 2 ^ w - 1 then D.str "many" else
      if (w : Int) ≤ (sn : Int) ∨ m = 0 ∧ 0 < (sn : Int) then D.str "spare" else
      if body ≠ [] ∧ body.getLastD 0 % 2 ^ sn ≠ 0 then D.str "rest" else
      if a = (v :: m :: (sn : Int) :: body).sum % (2 ^ w - 1) ∧ b = wsum (v :: m :: (sn : Int) :: body) % (2 ^ w - 1) then D.non else D.str "sums") with
        | .non => .tup [.str "image", .int v, .str (bitT (cutS_ w body (sn : Int)))]
        | x => .tup [.str "not", x]) from rfl]
    unfold sumsD at es
    generalize (v :: m :: (sn : Int) :: body).sum % (2 ^ w - 1) = X at es ⊢
    generalize wsum (v :: m :: (sn : Int) :: body) % (2 ^ w - 1) = Y at es ⊢
    have eO : ∃ O P : Int, F__law_vpow [.int w] = .ok (.int P) ∧ P - 1 = O ∧ 2 ^ w - 1 = O := ⟨_, _, eo, rfl, rfl⟩
    obtain ⟨O, P, eo, eP, eO⟩ := eO
    rw [eO]
    clear eO
    by_cases c1 : v = O
    · subst c1
      simp [F__law_vwhy, N__law_vwhy, eo, eP, cut5', cut3, at0, at1, at2, at3, at4, scal, hn, chk_T]
    by_cases c2 : m = (body.length : Nat)
    case neg => simp [F__law_vwhy, N__law_vwhy, eo, eP, cut5', cut3, at0, at1, at2, at3, at4, scal, hn, c1, c2]
    subst c2
    by_cases c3 : ((body.length : Nat) : Int) = O
    · subst c3
      simp [F__law_vwhy, N__law_vwhy, eo, eP, cut5', cut3, at0, at1, at2, at3, at4, scal, hn, c1]
    by_cases c4 : w ≤ sn
    · simp [F__law_vwhy, N__law_vwhy, eo, eP, cut5', cut3, at0, at1, at2, at3, at4, scal, hn, c1, c3, c4]
    have ep := vpow_eq sn (by omega)
    have hp : (0 : Int) < 2 ^ sn := by
      have : (2 : Int) ^ sn = ((2 ^ sn : Nat) : Int) := by push_cast; rfl
      have := Nat.two_pow_pos sn
      omega
    by_cases hbd : body = []
    · subst hbd
      rw [List.length_nil] at c3 ⊢
      rw [show dI [] = [] from rfl] at es eb ⊢
      rw [List.length_nil, show ((0 : Nat) : Int) = 0 from rfl] at es
      rw [show ((0 : Nat) : Int) = 0 from rfl] at c3 ⊢
      clear hb hn hlast
      have hn : ¬ ((0 : Int) + 1 + 1 + 1 + 1 + 1 < 5) := by omega
      by_cases c6 : 0 < sn
      · have c6' : ¬ sn = 0 := by omega
        simp [F__law_vwhy, N__law_vwhy, eo, eP, cut5', cut3, at0, at1, at2, at3, at4, scal, hn, c1, c3, c4, c6, c6']
      have c6' : sn = 0 := by omega
      subst c6'
      have hw0 : ¬ w = 0 := by omega
      rw [show ((0 : Nat) : Int) = 0 from rfl] at *
      by_cases c7 : a = X
      · subst c7
        by_cases c8 : b = Y
        · subst c8
          simp [F__law_vwhy, N__law_vwhy, eo, eP, cut5', cut3, at0, at1, at2, at3, at4, scal, hn, c1, c3, c4, hw0, es, shaped_pair, eqv_pair, eb]
        · simp [F__law_vwhy, N__law_vwhy, eo, eP, cut5', cut3, at0, at1, at2, at3, at4, scal, hn, c1, c3, c4, hw0, es, shaped_pair, eqv_pair, c8, beq_eq_false_iff_ne.mpr c8]
      · simp [F__law_vwhy, N__law_vwhy, eo, eP, cut5', cut3, at0, at1, at2, at3, at4, scal, hn, c1, c3, c4, hw0, es, shaped_pair, eqv_pair, c7, beq_eq_false_iff_ne.mpr c7]
    · have hla : atI (dI body) (-1) = some (.int (body.getLastD 0)) := by
        cases body with
        | nil => exact absurd rfl hbd
        | cons x rest => exact last_at x rest
      have hbp : 0 < body.length := by
        cases body with
        | nil => exact absurd rfl hbd
        | cons x rest => rw [List.length_cons]; omega
      clear hlast
      generalize body.getLastD 0 = la at hla ⊢
      by_cases c6 : la % 2 ^ sn = 0
      · by_cases c7 : a = X
        · subst c7
          by_cases c8 : b = Y
          · subst c8
            simp [F__law_vwhy, N__law_vwhy, eo, eP, cut5', cut3, at0, at1, at2, at3, at4, scal, hn, c1, c3, c4, c6, hla, hp, hbp, ep, hb, hbd, es, shaped_pair, eqv_pair, eb]
          · simp [F__law_vwhy, N__law_vwhy, eo, eP, cut5', cut3, at0, at1, at2, at3, at4, scal, hn, c1, c3, c4, c6, hla, hp, hbp, ep, hb, hbd, es, shaped_pair, eqv_pair, c8, beq_eq_false_iff_ne.mpr c8]
        · simp [F__law_vwhy, N__law_vwhy, eo, eP, cut5', cut3, at0, at1, at2, at3, at4, scal, hn, c1, c3, c4, c6, hla, hp, hbp, ep, hb, hbd, es, shaped_pair, eqv_pair, c7, beq_eq_false_iff_ne.mpr c7]
      · simp [F__law_vwhy, N__law_vwhy, eo, eP, cut5', cut3, at0, at1, at2, at3, at4, scal, hn, c1, c3, c4, c6, hla, hp, hbp, ep, hb, hbd]
end KLaw
namespace KLaw
open PySem PySem.Spec PyProof.Rows L2 DL
def valR : List Bool → Nat
  | [] => 0
  | b :: r => valR r * 2 + (bc b - 48)
theorem val_snoc (c : List Bool) (b : Bool) : val (c ++ [b]) = val c * 2 + (bc b - 48) := by
  simp [val, Bin.num]
theorem val_rev : ∀ r : List Bool, val r.reverse = valR r
  | [] => rfl
  | b :: r => by rw [List.reverse_cons, val_snoc, val_rev r]; rfl
theorem valR_bit : ∀ (r : List Bool) (j : Nat), (valR r).testBit j = r[j]?.getD false
  | [], j => by simp [valR]
  | b :: r, 0 => by
    rw [Nat.testBit_zero]
    cases b <;> simp [valR, bc] <;> omega
  | b :: r, j + 1 => by
    rw [Nat.testBit_succ, List.getElem?_cons_succ, ← valR_bit r j]
    congr 1
    cases b <;> simp [valR, bc] <;> omega
theorem val_bit (c : List Bool) (j : Nat) : (val c).testBit j = c.reverse[j]?.getD false := by
  rw [← valR_bit, ← val_rev, List.reverse_reverse]
theorem sigs_val (w : Nat) (c : List Bool) (h : c.length = w) : sigs w (val c : Nat) = c := by
  apply List.ext_getElem
  · simp [sigs, h]
  · intro k h1 h2
    simp only [sigs, List.getElem_map, List.getElem_range, Int.toNat_natCast, val_bit]
    rw [List.getElem?_reverse (by omega)]
    rw [show c.length - 1 - (w - 1 - k) = k by omega, List.getElem?_eq_getElem h2]
    rfl
theorem chunks (w : Nat) (l : List Bool) : ∀ n, (List.range n).flatMap (chunk w l) = l.take (n * w)
  | 0 => by simp
  | n + 1 => by
    rw [List.range_succ, List.flatMap_append, chunks w l n, Nat.succ_mul, List.take_add]
    simp [chunk]
theorem allS_words (w : Nat) (h : 0 < w) (l : List Bool) (hm : l.length % w = 0) : allS w (wordsN w l) = l := by
  have e := wn_mul w l.length h hm
  unfold allS wordsN
  rw [List.flatMap_map]
  have : (List.range (wn w l.length)).flatMap (fun k => sigs w ((val (chunk w l k) : Nat) : Int)) = (List.range (wn w l.length)).flatMap (chunk w l) := by
    rw [List.flatMap_def, List.flatMap_def]
    congr 1
    apply List.map_congr_left
    intro k hk
    have hk' := List.mem_range.mp hk
    apply sigs_val
    apply chunk_len
    have : (k + 1) * w ≤ wn w l.length * w := Nat.mul_le_mul_right _ hk'
    rw [Nat.add_mul, Nat.one_mul] at this
    omega
  rw [this, chunks, e, List.take_length]
theorem whole_mod (w : Nat) (h : 0 < w) (bs : List Bool) : (whole w bs).length % w = 0 := by
  rw [whole_len]
  exact sp_dvd w _ h
theorem img_bits (w : Nat) (h : 0 < w) (bs : List Bool) : cutS_ w (wsOf w bs) (sp w bs.length : Nat) = bs := by
  unfold cutS_ wsOf
  rw [allS_words w h _ (whole_mod w h bs), whole_len, show ((bs.length + sp w bs.length : Nat) : Int) - (sp w bs.length : Nat) = (bs.length : Nat) by omega, cut_to _ _ (by rw [whole_len]; omega)]
  simp [whole]
theorem last_low (w : Nat) (h : 0 < w) (bs : List Bool) (hb : wsOf w bs ≠ []) : (wsOf w bs).getLastD 0 % 2 ^ (sp w bs.length) = 0 := by
  have e := wn_mul w _ h (whole_mod w h bs)
  have hs := sp_lt w bs.length h
  unfold wsOf wordsN at hb ⊢
  cases hn : wn w (whole w bs).length with
  | zero => rw [hn] at hb; simp at hb
  | succ n =>
    rw [hn] at e
    rw [List.range_succ, List.map_append]
    simp only [List.map_cons, List.map_nil, List.getLastD_concat]
    have hl : val (chunk w (whole w bs) n) % 2 ^ (sp w bs.length) = 0 := by
      apply Nat.eq_of_testBit_eq
      intro j
      rw [Nat.testBit_mod_two_pow, Nat.zero_testBit, val_bit]
      by_cases hj : j < sp w bs.length
      · rw [decide_eq_true hj, Bool.true_and]
        have ec : chunk w (whole w bs) n = (whole w bs).drop (n * w) := by
          unfold chunk
          apply List.take_of_length_le
          rw [List.length_drop, ← e, Nat.succ_mul]
          omega
        rw [ec]
        have : ((whole w bs).drop (n * w)).reverse = (whole w bs).reverse.take ((whole w bs).length - n * w) := by
          rw [List.reverse_drop]
        rw [this, List.getElem?_take]
        rw [if_pos (by rw [← e, Nat.succ_mul]; omega)]
        unfold whole
        rw [List.reverse_append, List.reverse_replicate, List.getElem?_append_left (by simpa using hj)]
        simp [hj]
      · rw [decide_eq_false hj, Bool.false_and]
    have : ((val (chunk w (whole w bs) n) : Nat) : Int) % 2 ^ (sp w bs.length) = ((val (chunk w (whole w bs) n) % 2 ^ (sp w bs.length) : Nat) : Int) := by push_cast; rfl
    rw [this, hl]
    rfl
theorem img_why {w : Nat} {v : Int} {bs : List Bool} (f : Fit w v bs) : whyD w (img w v bs) = .non := by
  have h1 := f.v1
  have h2 := f.many
  have h3 := f.spare
  have h0 := f.w0
  unfold whyD img
  dsimp only
  rw [if_neg (by omega), if_neg (by simp; omega), if_neg, if_neg, if_pos ⟨rfl, rfl⟩]
  · rintro ⟨hb, hl⟩
    exact hl (by rw [Int.toNat_natCast]; exact last_low w (by omega) bs hb)
  · rintro (z | ⟨z1, z2⟩)
    · omega
    · have e : (wsOf w bs).length = 0 := by omega
      unfold wsOf at e
      rw [wordsN_len] at e
      have em := wn_mul w _ (by omega) (whole_mod w (by omega) bs)
      rw [e, Nat.zero_mul, whole_len] at em
      omega
theorem img_whyT {w : Nat} {v : Int} {bs : List Bool} (f : Fit w v bs) : whyT w (img w v bs) = .tup [.str "image", .int v, .str (bitT bs)] := by
  unfold whyT
  rw [img_why f]
  show D.tup [.str "image", .int v, .str (bitT (cutS_ w (wsOf w bs) (sp w bs.length : Nat)))] = _
  rw [img_bits w (by have := f.w0; omega)]
theorem Fit.ver {w : Nat} {v v' : Int} {bs : List Bool} (f : Fit w v bs) (h0 : 0 ≤ v') (h1 : v' < 2 ^ w - 1) : Fit w v' bs := ⟨f.w0, f.w1, h0, h1, f.bl, f.many⟩
theorem img_len {w : Nat} {v : Int} {bs : List Bool} : (img w v bs).length = (wsOf w bs).length + 5 := by simp [img]
theorem Fit.len70 {w : Nat} {v : Int} {bs : List Bool} (f : Fit w v bs) : (KLaw.img w v bs).length ≤ 70000 := by
  rw [img_len]
  have h4 := f.many
  have := pow16 f.w1
  omega
theorem with_version_ok {w : Nat} {v v' : Int} {bs : List Bool} (f : Fit w v bs) (h0 : 0 ≤ v') (h1 : v' < 2 ^ w - 1) {d : D} (hd : LT (dI (img w v bs)) d) : F_with_version [.int w, d, .int v'] = .ok (.lst (dI (img w v' bs))) := by
  have e1 := need_width_ok w f.w0 f.w1
  have e2 := why_ok w f.w0 f.w1 (img w v bs) f.img (by have := f.len70; show _ ≤ 16777216; omega) hd
  have e3 := need_version_ok w (by have := f.w1; omega) v' h0 h1
  have e4 := made_ok (f.ver h0 h1)
  rw [img_why f] at e2
  simp only [img, dI_cons] at hd e2 e4 ⊢
  rcases hd with rfl | rfl <;> simp [F_with_version, N_with_version, e1, e2, e3, e4, cut5', at2]
/-! ## the sums -/
theorem wsum_app : ∀ (a b : List Int), wsum (a ++ b) = wsum a + b.length * a.sum + wsum b
  | [], b => by simp [wsum]
  | x :: a, b => by
    rw [List.cons_append]
    show ((a ++ b).length + 1 : Int) * x + wsum (a ++ b) = ((a.length : Int) + 1) * x + wsum a + b.length * (x :: a).sum + wsum b
    rw [wsum_app a b, List.sum_cons, List.length_append]
    push_cast
    rw [Int.mul_add, Int.add_mul, Int.add_mul, Int.add_mul]
    omega
theorem sum_rep (x : Int) : ∀ n : Nat, (List.replicate n x).sum = n * x
  | 0 => by simp
  | n + 1 => by rw [List.replicate_succ, List.sum_cons, sum_rep x n]; push_cast; rw [Int.add_mul]; omega
theorem wsum_rep0 : ∀ n : Nat, wsum (List.replicate n 0) = 0
  | 0 => rfl
  | n + 1 => by
    rw [List.replicate_succ]
    show ((List.replicate n (0 : Int)).length + 1 : Int) * 0 + wsum (List.replicate n 0) = 0
    rw [wsum_rep0 n]; simp
theorem wsum_rep (x : Int) : ∀ n : Nat, ∃ c : Int, wsum (List.replicate n x) = c * x
  | 0 => ⟨0, by simp [wsum]⟩
  | n + 1 => by
    obtain ⟨c, e⟩ := wsum_rep x n
    refine ⟨((List.replicate n x).length + 1 : Int) + c, ?_⟩
    rw [List.replicate_succ]
    show ((List.replicate n x).length + 1 : Int) * x + wsum (List.replicate n x) = _
    rw [e, Int.add_mul _ c x]
theorem wsum_rev : ∀ l : List Int, wsum l + wsum l.reverse = (l.length + 1) * l.sum
  | [] => by simp [wsum]
  | x :: l => by
    have ih := wsum_rev l
    rw [List.reverse_cons, wsum_app]
    show ((l.length : Int) + 1) * x + wsum l + (wsum l.reverse + ([x] : List Int).length * l.reverse.sum + wsum [x]) = _
    have e1 : l.reverse.sum = l.sum := by simp
    have e2 : wsum [x] = x := by simp [wsum]
    rw [e1, e2, List.sum_cons, List.length_cons]
    simp only [List.length_cons, List.length_nil]
    push_cast
    rw [Int.one_mul]
    have e4 : ((l.length : Int) + 1 + 1) * (x + l.sum) = (l.length + 1) * x + x + ((l.length + 1) * l.sum + l.sum) := by
      rw [Int.add_mul, Int.mul_add, Int.one_mul]
      omega
    rw [e4, ← ih]
    omega
end KLaw
namespace KLaw
open PySem PySem.Spec PyProof.Rows L2 DL
def Q0 : DS → R (Fl × DS) := (fAsg (fBin gAdd (fC (.int 4)) (fCallS 1 1 F__law_below (fCons (fC (.int 13)) fNil))) (gSet 3))
def Q1 : DS → R (Fl × DS) := (fPar [4, 5] (fConsO (fBin gSub (fCallP 1 F__law_vpow (fCons (fVar 3) fNil)) (fC (.int 1))) (fConsO (fLst fNil) fNilO)))
def Q2 : DS → R (Fl × DS) := (fFor (fRng D.rng1 (fCons (fFz (fBin gAdd (fC (.int 1)) (fCallS 1 1 F__law_below (fCons (fC (.int 6)) fNil)))) fNil)) (gSet 6) (fAsg (fBin gAdd (fVar 5) (fFz (fBin gMul (fFz (fLst (fCons (fCallS 1 1 F__law_vword (fCons (fVar 3) fNil)) fNil))) (fCallS 1 1 F__law_pick (fCons (fFz (fLst (fCons (fC (.int 1)) (fCons (fC (.int 1)) (fCons (fC (.int 3)) (fCons (fC (.int 40)) (fCons (fC (.int 700)) fNil))))))) fNil))))) (gSet 5)))
def Q3 : DS → R (Fl × DS) := (fAsg (fSh (fCallP 2 F__law_vsums (fCons (fVar 3) (fCons (fVar 5) fNil)))) (gSet 7))
def Q4 : DS → R (Fl × DS) := (fIf (fOr (fNot (fTru (fCallP 2 (F__law_same 20) (fCons (fCallP 2 F_sums_of (fCons (fVar 3) (fCons (fCallS 1 1 (F__law_loose 20) (fCons (fVar 5) fNil)) fNil))) (fCons (fVar 7) fNil))))) (fBool (fBin gIn (fVar 4) (fVar 7)))) (fRet (fC (.bl false))) fNext)
def Q5 : DS → R (Fl × DS) := (fAsg (fSh (fCallS 1 1 F__law_below (fCons (fC (.int 60)) fNil))) (gSet 8))
def Q6 : DS → R (Fl × DS) := (fAsg (fSh (fCallP 2 F_sums_of (fCons (fVar 3) (fCons (fFz (fBin gAdd (fVar 5) (fFz (fBin gMul (fFz (fLst (fCons (fC (.int 0)) fNil))) (fVar 8))))) fNil)))) (gSet 9))
def Q7 : DS → R (Fl × DS) := (fIf (fNot (fTru (fCallP 2 (F__law_same 20) (fCons (fFz (fLst (fCons (fVar 9) (fCons (fCallP 2 F_sums_of (fCons (fVar 3) (fCons (fFz (fBin gAdd (fVar 5) (fFz (fBin gMul (fFz (fLst (fCons (fVar 4) fNil))) (fVar 8))))) fNil))) fNil)))) (fCons (fFz (fBin gMul (fFz (fLst (fCons (fTup (fCons (fFz (fBin gIx (fVar 7) (fC (.int 0)))) (fCons (fFz (fBin gMod (fFz (fBin gAdd (fFz (fBin gIx (fVar 7) (fC (.int 1)))) (fFz (fBin gMul (fVar 8) (fFz (fBin gIx (fVar 7) (fC (.int 0)))))))) (fVar 4))) fNil))) fNil))) (fC (.int 2)))) fNil))))) (fRet (fC (.bl false))) fNext)
def Q8 : DS → R (Fl × DS) := (fAsg (fRev (fVar 5)) (gSet 10))
def Q9 : DS → R (Fl × DS) := (fPar [11, 12] (fConsO (fSh (fCallP 2 F_sums_of (fCons (fVar 3) (fCons (fVar 10) fNil)))) (fConsO (fBin gMod (fFz (fBin gAdd (fFz (fBin gIx (fVar 7) (fC (.int 1)))) (fFz (fBin gIx (fCallP 2 F_sums_of (fCons (fVar 3) (fCons (fVar 10) fNil))) (fC (.int 1)))))) (fVar 4)) fNilO)))
def Q10 : DS → R (Fl × DS) := (fIf (fOr (fBool (fBin gNe (fFz (fBin gIx (fVar 11) (fC (.int 0)))) (fFz (fBin gIx (fVar 7) (fC (.int 0)))))) (fBool (fBin gNe (fVar 12) (fFz (fBin gMod (fFz (fBin gMul (fFz (fBin gAdd (fFz (fCall gLen (fCons (fVar 5) fNil))) (fC (.int 1)))) (fFz (fCall gSum (fCons (fVar 5) fNil))))) (fVar 4)))))) (fRet (fC (.bl false))) fNext)
def Q11 : DS → R (Fl × DS) := (fAsg (fBin gMul (fCallS 1 1 F__law_vdrawbits (fCons (fC (.int 30)) fNil)) (fCallS 1 1 F__law_pick (fCons (fFz (fLst (fCons (fC (.int 1)) (fCons (fC (.int 2)) (fCons (fC (.int 90)) fNil))))) fNil))) (gSet 13))
def Q12 : DS → R (Fl × DS) := (fIf (fBool (fBin gGt (fFz (fBin gAdd (fFz (fBin gFdiv (fFz (fCall gLen (fCons (fVar 13) fNil))) (fVar 3))) (fC (.int 6)))) (fFz (fCall gMin (fCons (fVar 4) (fCons (fC (.int 5000)) fNil)))))) (fAsg (fSl gSl (fVar 13) fNoP (fPart (fVar 3))) (gSet 13)) fNext)
def Q13 : DS → R (Fl × DS) := (fAsg (fSh (fCallP 3 F__law_vimage (fCons (fVar 3) (fCons (fCallS 1 1 F__law_below (fCons (fVar 4) fNil)) (fCons (fVar 13) fNil))))) (gSet 14))
def Q14 : DS → R (Fl × DS) := (fAsg (fSh (fCallP 3 F_image_of (fCons (fVar 3) (fCons (fFz (fBin gIx (fVar 14) (fC (.int 0)))) (fCons (fCallP 1 (F__law_copied 20) (fCons (fVar 13) fNil)) fNil))))) (gSet 15))
def Q15 : DS → R (Fl × DS) := (fIf (fNot (fTru (fCallP 2 (F__law_same 20) (fCons (fFz (fLst (fCons (fVar 15) (fCons (fCallP 2 F_image_or_why (fCons (fVar 3) (fCons (fCallS 1 1 (F__law_loose 20) (fCons (fVar 14) fNil)) fNil))) (fCons (fCallP 2 F_words_of (fCons (fVar 3) (fCons (fCallP 1 (F__law_copied 20) (fCons (fVar 13) fNil)) fNil))) fNil))))) (fCons (fFz (fLst (fCons (fVar 14) (fCons (fTup (fCons (fC (.str "image")) (fCons (fFz (fBin gIx (fVar 14) (fC (.int 0)))) (fCons (fVar 13) fNil)))) (fCons (fCallP 2 F__law_vwordsof (fCons (fVar 3) (fCons (fVar 13) fNil))) fNil))))) fNil))))) (fRet (fC (.bl false))) fNext)
def Q16 : DS → R (Fl × DS) := (fAsg (fSh (fCallS 1 1 F__law_below (fCons (fVar 4) fNil))) (gSet 16))
def Q17 : DS → R (Fl × DS) := (fAsg (fSh (fCallP 3 F_with_version (fCons (fVar 3) (fCons (fCallS 1 1 (F__law_loose 20) (fCons (fVar 14) fNil)) (fCons (fVar 16) fNil))))) (gSet 17))
def Q18 : DS → R (Fl × DS) := (fIf (fNot (fTru (fCallP 2 (F__law_same 20) (fCons (fFz (fLst (fCons (fVar 17) (fCons (fCallP 2 F_image_or_why (fCons (fVar 3) (fCons (fCallP 1 (F__law_copied 20) (fCons (fVar 17) fNil)) fNil))) fNil)))) (fCons (fFz (fLst (fCons (fCallP 3 F__law_vimage (fCons (fVar 3) (fCons (fVar 16) (fCons (fVar 13) fNil)))) (fCons (fTup (fCons (fC (.str "image")) (fCons (fVar 16) (fCons (fVar 13) fNil)))) fNil)))) fNil))))) (fRet (fC (.bl false))) fNext)
def Q19 : DS → R (Fl × DS) := (fIf (fAnd (fBool (fBin gLt (fFz (fCall gLen (fCons (fVar 5) fNil))) (fC (.int 999)))) (fNot (fTru (fCallP 2 (F__law_same 20) (fCons (fCallP 2 F_image_or_why (fCons (fVar 3) (fCons (fCallP 1 (F__law_copied 20) (fCons (fVar 5) fNil)) fNil))) (fCons (fCallP 2 F__law_vwhy (fCons (fVar 3) (fCons (fVar 5) fNil))) fNil)))))) (fRet (fC (.bl false))) fNext)
def turnF : DS → R (Fl × DS) := fSeq Q0 (fSeq Q1 (fSeq Q2 (fSeq Q3 (fSeq Q4 (fSeq Q5 (fSeq Q6 (fSeq Q7 (fSeq Q8 (fSeq Q9 (fSeq Q10 (fSeq Q11 (fSeq Q12 (fSeq Q13 (fSeq Q14 (fSeq Q15 (fSeq Q16 (fSeq Q17 (fSeq Q18 (Q19)))))))))))))))))))
theorem law_split : F_law = fSeq (fFor (fRng D.rng1 (fCons (fC (.int 4)) fNil)) (gSet 2) turnF) (fRet (fC (.bl true))) := rfl
theorem fSeq_nx {f g : DS → R (Fl × DS)} {Δ Δ' : DS} (h : f Δ = .ok (.nx, Δ')) : fSeq f g Δ = g Δ' := by
  show (f Δ >>= _) = _
  rw [h]
  rfl
theorem dI_repl (n : Nat) (x : Int) : List.replicate n (D.int x) = dI (List.replicate n x) := by simp [dI]
theorem sum_in : ∀ c : D, c ∈ [D.int 1, .int 1, .int 3, .int 40, .int 700] → ∃ n : Nat, c = .int (n : Int) ∧ n ≤ 700 := by
  intro c h
  simp at h
  rcases h with rfl | rfl | rfl | rfl
  · exact ⟨1, rfl, by omega⟩
  · exact ⟨3, rfl, by omega⟩
  · exact ⟨40, rfl, by omega⟩
  · exact ⟨700, rfl, by omega⟩
theorem looks (w : Nat) (h0 : 4 ≤ w) (h : w ≤ 16) (s0 s2 s4 s7 s8 s9 s10 s11 s12 s13 s14 s15 s16 s17 : SV) (k : Nat) : ∀ (L : List D) (ws : List Int) (s6 : SV) (st : Strm), Wds w ws → ws.length + L.length * 700 ≤ 5000 → Bud (L.length * 5 + k) st →
    ∃ ws' s6' st', loopF (gSet 6) (fAsg (fBin gAdd (fVar 5) (fFz (fBin gMul (fFz (fLst (fCons (fCallS 1 1 F__law_vword (fCons (fVar 3) fNil)) fNil))) (fCallS 1 1 F__law_pick (fCons (fFz (fLst (fCons (fC (.int 1)) (fCons (fC (.int 1)) (fCons (fC (.int 3)) (fCons (fC (.int 40)) (fCons (fC (.int 700)) fNil))))))) fNil))))) (gSet 5)) L ([s0, .stm, s2, .sh (.int w), s4, .ow (.lst (dI ws)), s6, s7, s8, s9, s10, s11, s12, s13, s14, s15, s16, s17], st) = .ok (.nx, ([s0, .stm, s2, .sh (.int w), s4, .ow (.lst (dI ws')), s6', s7, s8, s9, s10, s11, s12, s13, s14, s15, s16, s17], st')) ∧ Wds w ws' ∧ ws'.length ≤ ws.length + L.length * 700 ∧ Bud k st'
  | [], ws, s6, st, hw, hl, hb => ⟨ws, s6, st, by simp [loopF], hw, by simp, by simpa using hb⟩
  | d :: L, ws, s6, st, hw, hl, hb => by
    rw [List.length_cons, Nat.succ_mul] at hl hb
    obtain ⟨x, st1, e1, x0, x1, b1⟩ := vword_ok w h0 h (1 + (L.length * 5 + k)) st (hb.le (by omega))
    obtain ⟨c, st2, e2, hc, b2⟩ := pick_ok [.int 1, .int 1, .int 3, .int 40, .int 700] (by simp) (by simp) (L.length * 5 + k) st1 b1
    obtain ⟨n, rfl, hn⟩ := sum_in c hc
    obtain ⟨ws', s6', st', e3, w3, l3, b3⟩ := looks w h0 h s0 s2 s4 s7 s8 s9 s10 s11 s12 s13 s14 s15 s16 s17 k L (ws ++ List.replicate n x) (.sh d) st2 (by
      intro y hy
      rcases List.mem_append.mp hy with hy | hy
      · exact hw y hy
      · rw [List.eq_of_mem_replicate hy]; exact ⟨x0, x1⟩) (by simp; omega) b2
    refine ⟨ws', s6', st', ?_, w3, by simp at l3; simp; omega, b3⟩
    rw [loopF, ← e3]
    have n1 : (n : Int) < 16777216 := by omega
    have n2 : -16777216 < (n : Int) := by omega
    have n3 : n ≤ sizeLine := by show _ ≤ 16777216; omega
    have n4 : ws.length + n ≤ sizeLine := by show _ ≤ 16777216; omega
    simp [e1, e2, n1, n2, n3, n4, dI_repl]
end KLaw
namespace KLaw
open PySem PySem.Spec PyProof.Rows L2 DL
theorem pl_tup {n : Nat} (a b : D) (ha : Pl n a) (hb : Pl n b) : Pl (n + 1) (.tup [a, b]) := .tup (by simp) (by
  intro d hd
  simp at hd
  rcases hd with rfl | rfl
  · exact ha
  · exact hb)
theorem pl_lst {n : Nat} (a b : D) (ha : Pl n a) (hb : Pl n b) : Pl (n + 1) (.lst [a, b]) := .lst (by simp) (by
  intro d hd
  simp at hd
  rcases hd with rfl | rfl
  · exact ha
  · exact hb)
theorem pl_dI {n : Nat} (l : List Int) (h : l.length ≤ 100000) : Pl (n + 1) (.lst (dI l)) := .lst (by rw [dI_len]; show _ ≤ 16777216; omega) (by
  intro d hd
  obtain ⟨i, _, rfl⟩ := dI_mem hd
  exact .int i)
theorem in_no (O A B : Int) (h1 : A < O) (h2 : B < O) : inV (V.int O) [V.int A, V.int B] = false := by
  unfold inV
  have e1 : (A == O) = false := beq_eq_false_iff_ne.mpr (by omega)
  have e2 : (B == O) = false := beq_eq_false_iff_ne.mpr (by omega)
  show ((A == O) || ((B == O) || false)) = false
  rw [e1, e2]
  rfl
theorem turn_a (s0 s2 s3 s4 s5 s6 s7 s8 s9 s10 s11 s12 s13 s14 s15 s16 s17 : SV) (k : Nat) (st : Strm) (hb : Bud (70 + k) st) : ∃ (w : Nat) (ws : List Int) (s2' s6' s7' s8' s9' s10' s11' s12' s13' s14' s15' s16' s17' : SV) (st' : Strm), 4 ≤ w ∧ w ≤ 16 ∧ Wds w ws ∧ ws.length ≤ 4200 ∧ Bud (k + 36) st' ∧
    turnF ([s0, .stm, s2, s3, s4, s5, s6, s7, s8, s9, s10, s11, s12, s13, s14, s15, s16, s17], st) = (fSeq Q11 (fSeq Q12 (fSeq Q13 (fSeq Q14 (fSeq Q15 (fSeq Q16 (fSeq Q17 (fSeq Q18 Q19)))))))) ([s0, .stm, s2', .sh (.int w), .sh (.int (2 ^ w - 1)), .sh (.lst (dI ws)), s6', s7', s8', s9', s10', s11', s12', s13', s14', s15', s16', s17'], st') := by
  obtain ⟨i, st1, d1, i0, i1, b1⟩ := below_bud (many := 13) (k := 69 + k) (st := st) (by omega) (by omega) (hb.le (by omega))
  obtain ⟨w, hw⟩ := Int.eq_ofNat_of_zero_le (show 0 ≤ 4 + i by omega)
  have h0 : 4 ≤ w := by omega
  have h1 : w ≤ 16 := by omega
  have eo := vpow_eq w (by omega)
  obtain ⟨j, st2, d2, j0, j1, b2⟩ := below_bud (many := 6) (k := 68 + k) (st := st1) (by omega) (by omega) (b1.le (by omega))
  have er := rng1_eq (1 + j) (by omega) (by omega)
  have hjl : (upD (1 + j).toNat).length ≤ 6 := by rw [upD_len]; omega
  have e0 : Q0 ([s0, .stm, s2, s3, s4, s5, s6, s7, s8, s9, s10, s11, s12, s13, s14, s15, s16, s17], st) = .ok (.nx, ([s0, .stm, s2, .sh (.int w), s4, s5, s6, s7, s8, s9, s10, s11, s12, s13, s14, s15, s16, s17], st1)) := by
    simp [Q0, d1, hw]
  have e1 : Q1 ([s0, .stm, s2, .sh (.int w), s4, s5, s6, s7, s8, s9, s10, s11, s12, s13, s14, s15, s16, s17], st1) = .ok (.nx, ([s0, .stm, s2, .sh (.int w), .sh (.int (2 ^ w - 1)), .ow (.lst (dI [])), s6, s7, s8, s9, s10, s11, s12, s13, s14, s15, s16, s17], st1)) := by
    simp [Q1, eo, show dI [] = [] from rfl]
  obtain ⟨ws, s6', st3, e, hws, hwl, b3⟩ := looks w h0 h1 (s0) (s2) (.sh (.int (2 ^ w - 1))) (s7) (s8) (s9) (s10) (s11) (s12) (s13) (s14) (s15) (s16) (s17) (38 + k) (upD (1 + j).toNat) [] s6 st2 (by intro x hx; cases hx) (by simp; omega) (b2.le (by omega))
  simp at hwl
  have e2 : Q2 ([s0, .stm, s2, .sh (.int w), .sh (.int (2 ^ w - 1)), .ow (.lst (dI [])), s6, s7, s8, s9, s10, s11, s12, s13, s14, s15, s16, s17], st1) = .ok (.nx, ([s0, .stm, s2, .sh (.int w), .sh (.int (2 ^ w - 1)), .ow (.lst (dI ws)), s6', s7, s8, s9, s10, s11, s12, s13, s14, s15, s16, s17], st3)) := by
    simp [Q2, d2, er, e]
  have hs := hws.small h1
  have hlen : ws.length ≤ 4200 := by omega
  have hO := two_pow_pos w (by omega)
  have ev := vsums_eq w (by omega) (by omega) ws hs (by show _ ≤ 16777216; omega)
  have hA := Int.emod_lt_of_pos ws.sum hO
  have hB := Int.emod_lt_of_pos (wsum ws) hO
  have hA0 := Int.emod_nonneg ws.sum (show (2 ^ w - 1 : Int) ≠ 0 by omega)
  have hB0 := Int.emod_nonneg (wsum ws) (show (2 ^ w - 1 : Int) ≠ 0 by omega)
  obtain ⟨A, hAe⟩ : ∃ A, A = ws.sum % (2 ^ w - 1) := ⟨_, rfl⟩
  obtain ⟨B, hBe⟩ : ∃ B, B = wsum ws % (2 ^ w - 1) := ⟨_, rfl⟩
  have eS : sumsD w ws = .tup [.int A, .int B] := by rw [hAe, hBe]; rfl
  rw [← hAe] at hA hA0
  rw [← hBe] at hB hB0
  rw [eS] at ev
  have e3 : Q3 ([s0, .stm, s2, .sh (.int w), .sh (.int (2 ^ w - 1)), .ow (.lst (dI ws)), s6', s7, s8, s9, s10, s11, s12, s13, s14, s15, s16, s17], st3) = .ok (.nx, ([s0, .stm, s2, .sh (.int w), .sh (.int (2 ^ w - 1)), .sh (.lst (dI ws)), s6', .sh (.tup [.int A, .int B]), s8, s9, s10, s11, s12, s13, s14, s15, s16, s17], st3)) := by
    simp [Q3, ev]
  obtain ⟨d, st4, dl, hd, b4⟩ := loose_ints 18 ws (by show _ ≤ 16777216; omega) (37 + k) st3 (b3.le (by omega))
  have es1 := sums_of_ok w h0 h1 ws hws (by show _ ≤ 16777216; omega) hd
  rw [eS] at es1
  have sm1 := same_self 19 (.tup [.int A, .int B]) (pl_tup _ _ (.int _) (.int _))
  have hin := in_no (2 ^ w - 1) _ _ hA hB
  have e4 : Q4 ([s0, .stm, s2, .sh (.int w), .sh (.int (2 ^ w - 1)), .sh (.lst (dI ws)), s6', .sh (.tup [.int A, .int B]), s8, s9, s10, s11, s12, s13, s14, s15, s16, s17], st3) = .ok (.nx, ([s0, .stm, s2, .sh (.int w), .sh (.int (2 ^ w - 1)), .sh (.lst (dI ws)), s6', .sh (.tup [.int A, .int B]), s8, s9, s10, s11, s12, s13, s14, s15, s16, s17], st4)) := by
    simp [Q4, dl, es1, sm1, hin]
  obtain ⟨m, st5, d5, m0, m1, b5⟩ := below_bud (many := 60) (k := 36 + k) (st := st4) (by omega) (by omega) (b4.le (by omega))
  obtain ⟨mn, rfl⟩ := Int.eq_ofNat_of_zero_le m0
  have e5 : Q5 ([s0, .stm, s2, .sh (.int w), .sh (.int (2 ^ w - 1)), .sh (.lst (dI ws)), s6', .sh (.tup [.int A, .int B]), s8, s9, s10, s11, s12, s13, s14, s15, s16, s17], st4) = .ok (.nx, ([s0, .stm, s2, .sh (.int w), .sh (.int (2 ^ w - 1)), .sh (.lst (dI ws)), s6', .sh (.tup [.int A, .int B]), .sh (.int (mn : Nat)), s9, s10, s11, s12, s13, s14, s15, s16, s17], st5)) := by
    simp [Q5, d5]
  have wz : Wds w (ws ++ List.replicate mn 0) := by
    intro x hx
    rcases List.mem_append.mp hx with hx | hx
    · exact hws x hx
    · rw [List.eq_of_mem_replicate hx]; exact ⟨by omega, by omega⟩
  have wo : Wds w (ws ++ List.replicate mn (2 ^ w - 1)) := by
    intro x hx
    rcases List.mem_append.mp hx with hx | hx
    · exact hws x hx
    · rw [List.eq_of_mem_replicate hx]; exact ⟨by omega, by omega⟩
  have es2 := sums_of_ok w h0 h1 _ wz (by simp; show _ ≤ 16777216; omega) (.inl rfl)
  have es3 := sums_of_ok w h0 h1 _ wo (by simp; show _ ≤ 16777216; omega) (.inl rfl)
  have q2 : sumsD w (ws ++ List.replicate mn 0) = .tup [.int A, .int ((B + mn * A) % (2 ^ w - 1))] := by
    rw [hAe, hBe]
    unfold sumsD
    rw [wsum_app, wsum_rep0, List.sum_append, sum_rep, List.length_replicate, Int.mul_zero, Int.add_zero, Int.add_zero]
    rw [Int.emod_add_emod, Int.add_emod (wsum ws) (mn * (ws.sum % (2 ^ w - 1))), Int.mul_emod, Int.emod_emod_of_dvd _ (Int.dvd_refl _), ← Int.mul_emod, ← Int.add_emod]
  have q3 : sumsD w (ws ++ List.replicate mn (2 ^ w - 1)) = .tup [.int A, .int ((B + mn * A) % (2 ^ w - 1))] := by
    rw [hAe, hBe]
    unfold sumsD
    obtain ⟨c, hc⟩ := wsum_rep (2 ^ w - 1) mn
    rw [wsum_app, hc, List.sum_append, sum_rep, List.length_replicate, Int.add_mul_emod_self_right, Int.add_mul_emod_self_right]
    rw [Int.emod_add_emod, Int.add_emod (wsum ws) (mn * (ws.sum % (2 ^ w - 1))), Int.mul_emod, Int.emod_emod_of_dvd _ (Int.dvd_refl _), ← Int.mul_emod, ← Int.add_emod]
  rw [q2] at es2
  rw [q3] at es3
  have n1 : (mn : Int) < 16777216 := by omega
  have n2 : -16777216 < (mn : Int) := by omega
  have n3 : mn ≤ sizeLine := by show _ ≤ 16777216; omega
  have n4 : ws.length + mn ≤ sizeLine := by show _ ≤ 16777216; omega
  have n5 : mn < 18446744073709551616 := by omega
  have e6 : Q6 ([s0, .stm, s2, .sh (.int w), .sh (.int (2 ^ w - 1)), .sh (.lst (dI ws)), s6', .sh (.tup [.int A, .int B]), .sh (.int (mn : Nat)), s9, s10, s11, s12, s13, s14, s15, s16, s17], st5) = .ok (.nx, ([s0, .stm, s2, .sh (.int w), .sh (.int (2 ^ w - 1)), .sh (.lst (dI ws)), s6', .sh (.tup [.int A, .int B]), .sh (.int (mn : Nat)), .sh (.tup [.int A, .int ((B + mn * A) % (2 ^ w - 1))]), s10, s11, s12, s13, s14, s15, s16, s17], st5)) := by
    simp [Q6, n1, n2, n3, n4, dI_repl, es2]
  have sm2 := same_self 19 (.lst [.tup [.int A, .int ((B + mn * A) % (2 ^ w - 1))], .tup [.int A, .int ((B + mn * A) % (2 ^ w - 1))]]) (pl_lst _ _ (pl_tup (n := 17) _ _ (.int _) (.int _)) (pl_tup (n := 17) _ _ (.int _) (.int _)))
  have hO1 : (1 : Int) < 2 ^ w := by omega
  have e7 : Q7 ([s0, .stm, s2, .sh (.int w), .sh (.int (2 ^ w - 1)), .sh (.lst (dI ws)), s6', .sh (.tup [.int A, .int B]), .sh (.int (mn : Nat)), .sh (.tup [.int A, .int ((B + mn * A) % (2 ^ w - 1))]), s10, s11, s12, s13, s14, s15, s16, s17], st5) = .ok (.nx, ([s0, .stm, s2, .sh (.int w), .sh (.int (2 ^ w - 1)), .sh (.lst (dI ws)), s6', .sh (.tup [.int A, .int B]), .sh (.int (mn : Nat)), .sh (.tup [.int A, .int ((B + mn * A) % (2 ^ w - 1))]), s10, s11, s12, s13, s14, s15, s16, s17], st5)) := by
    simp [Q7, n1, n2, n3, n4, n5, dI_repl, es3, sm2, at0, at1, hO1]
  have e8 : Q8 ([s0, .stm, s2, .sh (.int w), .sh (.int (2 ^ w - 1)), .sh (.lst (dI ws)), s6', .sh (.tup [.int A, .int B]), .sh (.int (mn : Nat)), .sh (.tup [.int A, .int ((B + mn * A) % (2 ^ w - 1))]), s10, s11, s12, s13, s14, s15, s16, s17], st5) = .ok (.nx, ([s0, .stm, s2, .sh (.int w), .sh (.int (2 ^ w - 1)), .sh (.lst (dI ws)), s6', .sh (.tup [.int A, .int B]), .sh (.int (mn : Nat)), .sh (.tup [.int A, .int ((B + mn * A) % (2 ^ w - 1))]), .ow (.lst (dI ws.reverse)), s11, s12, s13, s14, s15, s16, s17], st5)) := by
    simp [Q8, chk_T]
  have wr : Wds w ws.reverse := fun x hx => hws x (List.mem_reverse.mp hx)
  have es4 := sums_of_ok w h0 h1 _ wr (by simp; show _ ≤ 16777216; omega) (.inl rfl)
  obtain ⟨C, hCe⟩ : ∃ C, C = wsum ws.reverse % (2 ^ w - 1) := ⟨_, rfl⟩
  have q4 : sumsD w ws.reverse = .tup [.int A, .int C] := by
    rw [hAe, hCe]
    unfold sumsD
    rw [List.sum_reverse]
  rw [q4] at es4
  have q5 : (B + C) % (2 ^ w - 1) = ((ws.length : Int) + 1) * ws.sum % (2 ^ w - 1) := by
    rw [hBe, hCe, ← Int.add_emod, wsum_rev]
  have e9 : Q9 ([s0, .stm, s2, .sh (.int w), .sh (.int (2 ^ w - 1)), .sh (.lst (dI ws)), s6', .sh (.tup [.int A, .int B]), .sh (.int (mn : Nat)), .sh (.tup [.int A, .int ((B + mn * A) % (2 ^ w - 1))]), .ow (.lst (dI ws.reverse)), s11, s12, s13, s14, s15, s16, s17], st5) = .ok (.nx, ([s0, .stm, s2, .sh (.int w), .sh (.int (2 ^ w - 1)), .sh (.lst (dI ws)), s6', .sh (.tup [.int A, .int B]), .sh (.int (mn : Nat)), .sh (.tup [.int A, .int ((B + mn * A) % (2 ^ w - 1))]), .sh (.lst (dI ws.reverse)), .sh (.tup [.int A, .int C]), .sh (.int (((ws.length : Int) + 1) * ws.sum % (2 ^ w - 1))), s13, s14, s15, s16, s17], st5)) := by
    simp [Q9, es4, at1, hO1, q5]
  have n6 : ((ws.length : Int) + 1).natAbs < 18446744073709551616 := by omega
  have e10 : Q10 ([s0, .stm, s2, .sh (.int w), .sh (.int (2 ^ w - 1)), .sh (.lst (dI ws)), s6', .sh (.tup [.int A, .int B]), .sh (.int (mn : Nat)), .sh (.tup [.int A, .int ((B + mn * A) % (2 ^ w - 1))]), .sh (.lst (dI ws.reverse)), .sh (.tup [.int A, .int C]), .sh (.int (((ws.length : Int) + 1) * ws.sum % (2 ^ w - 1))), s13, s14, s15, s16, s17], st5) = .ok (.nx, ([s0, .stm, s2, .sh (.int w), .sh (.int (2 ^ w - 1)), .sh (.lst (dI ws)), s6', .sh (.tup [.int A, .int B]), .sh (.int (mn : Nat)), .sh (.tup [.int A, .int ((B + mn * A) % (2 ^ w - 1))]), .sh (.lst (dI ws.reverse)), .sh (.tup [.int A, .int C]), .sh (.int (((ws.length : Int) + 1) * ws.sum % (2 ^ w - 1))), s13, s14, s15, s16, s17], st5)) := by
    simp [Q10, at0, scal, hO1, n6]
  refine ⟨w, ws, s2, s6', .sh (.tup [.int A, .int B]), .sh (.int (mn : Nat)), .sh (.tup [.int A, .int ((B + mn * A) % (2 ^ w - 1))]), .sh (.lst (dI ws.reverse)), .sh (.tup [.int A, .int C]), .sh (.int (((ws.length : Int) + 1) * ws.sum % (2 ^ w - 1))), s13, s14, s15, s16, s17, st5, h0, h1, hws, hlen, b5.le (by omega), ?_⟩
  unfold turnF
  rw [fSeq_nx e0, fSeq_nx e1, fSeq_nx e2, fSeq_nx e3, fSeq_nx e4, fSeq_nx e5, fSeq_nx e6, fSeq_nx e7, fSeq_nx e8, fSeq_nx e9, fSeq_nx e10]
end KLaw
namespace KLaw
open PySem PySem.Spec PyProof.Rows L2 DL
theorem pl_3l {n : Nat} (a b c : D) (ha : Pl n a) (hb : Pl n b) (hc : Pl n c) : Pl (n + 1) (.lst [a, b, c]) := .lst (by simp) (by
  intro d hd
  simp at hd
  rcases hd with rfl | rfl | rfl
  · exact ha
  · exact hb
  · exact hc)
theorem pl_3t {n : Nat} (a b c : D) (ha : Pl n a) (hb : Pl n b) (hc : Pl n c) : Pl (n + 1) (.tup [a, b, c]) := .tup (by simp) (by
  intro d hd
  simp at hd
  rcases hd with rfl | rfl | rfl
  · exact ha
  · exact hb
  · exact hc)
theorem pl_why (n w : Nat) (ws : List Int) : Pl (n + 1) (whyT w ws) := by
  unfold whyT
  rcases whyD_cases w ws with ⟨h, _⟩ | ⟨z, h⟩
  · rw [h]; exact pl_3t _ _ _ (.str _) (.int _) (.str _)
  · rw [h]; exact pl_tup _ _ (.str _) (.str _)
theorem many_le (w : Nat) (h : 0 < w) (bs : List Bool) : (wsOf w bs).length ≤ bs.length / w + 1 := by
  unfold wsOf
  rw [wordsN_len]
  have e := wn_mul w _ h (whole_mod w h bs)
  have hs := sp_lt w bs.length h
  rw [whole_len] at e ⊢
  have h1 : bs.length < (bs.length / w + 1) * w := by
    have := Nat.lt_div_mul_add (a := bs.length) h
    rw [Nat.add_mul, Nat.one_mul]; exact this
  have h2 : wn w (bs.length + sp w bs.length) * w < (bs.length / w + 2) * w := by
    rw [e, show bs.length / w + 2 = (bs.length / w + 1) + 1 by omega, Nat.add_mul (bs.length / w + 1), Nat.one_mul]
    omega
  have := Nat.lt_of_mul_lt_mul_right h2
  omega
theorem few_le (w : Nat) (h : 0 < w) (bs : List Bool) (hl : bs.length ≤ w) : (wsOf w bs).length ≤ 2 := by
  have := many_le w h bs
  have h2 : bs.length / w ≤ 1 := by
    have := Nat.div_le_div_right (c := w) hl
    rw [Nat.div_self h] at this
    exact this
  omega
theorem pick3 : ∀ c : D, c ∈ [D.int 1, .int 2, .int 90] → ∃ n : Nat, c = .int (n : Int) ∧ n ≤ 90 := by
  intro c h
  simp at h
  rcases h with rfl | rfl | rfl
  · exact ⟨1, rfl, by omega⟩
  · exact ⟨2, rfl, by omega⟩
  · exact ⟨90, rfl, by omega⟩
theorem flat_len (n : Nat) (bs : List Bool) : ((List.replicate n bs).flatten).length = n * bs.length := by simp
theorem turn_12 (w : Nat) (h0 : 4 ≤ w) (h1 : w ≤ 16) (bs1 : List Bool) (hl : bs1.length ≤ 2700) (s0 s2 s6 s7 s8 s9 s10 s11 s12 s14 s15 s16 s17 s5 : SV) (st : Strm) : ∃ bs, Q12 ([s0, .stm, s2, .sh (.int w), .sh (.int (2 ^ w - 1)), s5, s6, s7, s8, s9, s10, s11, s12, .sh (.str (bitT bs1)), s14, s15, s16, s17], st) = .ok (.nx, ([s0, .stm, s2, .sh (.int w), .sh (.int (2 ^ w - 1)), s5, s6, s7, s8, s9, s10, s11, s12, .sh (.str (bitT bs)), s14, s15, s16, s17], st)) ∧ bs.length ≤ 2700 ∧ ((wsOf w bs).length : Int) < 2 ^ w - 1 := by
  have hO : (15 : Int) ≤ 2 ^ w - 1 := by
    have : (2 : Int) ^ w = ((2 ^ w : Nat) : Int) := by push_cast; rfl
    have h2 : 2 ^ 4 ≤ 2 ^ w := Nat.pow_le_pow_right (by omega) h0
    omega
  have n1 : bs1.length ≤ sizeLine := by show _ ≤ 16777216; omega
  have n2 : (0 : Int) < w := by omega
  have n3 : (w : Int) < 1073741824 := by omega
  have n4 : 0 < w := by omega
  by_cases hc : min ((2 : Int) ^ w - 1) 5000 < (bs1.length : Int) / w + 6
  · refine ⟨DL.cutD bs1 none (some (w : Int)), by simp [Q12, n1, n2, n3, n4, hc, bitT_cut], ?_, ?_⟩
    · unfold DL.cutD; rw [List.length_take, List.length_drop]; omega
    · have : (DL.cutD bs1 none (some (w : Int))).length ≤ w := by
        unfold DL.cutD
        rw [HT.sIx_nat, HT.sIx_none, List.length_take]
        omega
      have := few_le w (by omega) _ this
      omega
  · refine ⟨bs1, by simp [Q12, n1, n2, n3, n4, hc], hl, ?_⟩
    have := many_le w (by omega) bs1
    have e : (bs1.length : Int) / w = ((bs1.length / w : Nat) : Int) := by push_cast; rfl
    omega
theorem turn_b (w : Nat) (h0 : 4 ≤ w) (h1 : w ≤ 16) (ws : List Int) (hws : Wds w ws) (hlen : ws.length ≤ 4200) (s0 s2 s6 s7 s8 s9 s10 s11 s12 s13 s14 s15 s16 s17 : SV) (k : Nat) (st : Strm) (hb : Bud (k + 36) st) : ∃ (g' : Sl) (st' : Strm),
    (fSeq Q11 (fSeq Q12 (fSeq Q13 (fSeq Q14 (fSeq Q15 (fSeq Q16 (fSeq Q17 (fSeq Q18 Q19)))))))) ([s0, .stm, s2, .sh (.int w), .sh (.int (2 ^ w - 1)), .sh (.lst (dI ws)), s6, s7, s8, s9, s10, s11, s12, s13, s14, s15, s16, s17], st) = .ok (.nx, (g', st')) ∧ (∃ s0 s2 s3 s4 s5 s6 s7 s8 s9 s10 s11 s12 s13 s14 s15 s16 s17, g' = [s0, .stm, s2, s3, s4, s5, s6, s7, s8, s9, s10, s11, s12, s13, s14, s15, s16, s17]) ∧ Bud k st' := by
  have hO := two_pow_pos w (by omega)
  have hp := pow16 h1
  obtain ⟨bs0, st1, d1, l1, b1⟩ := bits_ok 30 (by omega) (k + 5) st (hb.le (by omega))
  obtain ⟨c, st2, d2, hc, b2⟩ := pick_ok [.int 1, .int 2, .int 90] (by simp) (by simp) (k + 4) st1 (b1.le (by omega))
  obtain ⟨n, rfl, hn⟩ := pick3 c hc
  have m1 : (n : Int) < 16777216 := by omega
  have m2 : -16777216 < (n : Int) := by omega
  have hm : bs0.length * n ≤ 30 * 90 := Nat.mul_le_mul l1 hn
  have m3 : bs0.length * n ≤ sizeLine := by show _ ≤ 16777216; omega
  have m4 : (((30 : Nat) : Int)) = 30 := rfl
  rw [m4] at d1
  have e11 : Q11 ([s0, .stm, s2, .sh (.int w), .sh (.int (2 ^ w - 1)), .sh (.lst (dI ws)), s6, s7, s8, s9, s10, s11, s12, s13, s14, s15, s16, s17], st) = .ok (.nx, ([s0, .stm, s2, .sh (.int w), .sh (.int (2 ^ w - 1)), .sh (.lst (dI ws)), s6, s7, s8, s9, s10, s11, s12, .sh (.str (bitT (List.replicate n bs0).flatten)), s14, s15, s16, s17], st2)) := by
    simp [Q11, d1, d2, m1, m2, m3, bitT_rep]
  have hfl : ((List.replicate n bs0).flatten).length ≤ 2700 := by rw [flat_len, Nat.mul_comm]; omega
  generalize (List.replicate n bs0).flatten = bs1 at e11 hfl
  obtain ⟨bs, e12, hbl, hmany⟩ := turn_12 w h0 h1 bs1 hfl s0 s2 s6 s7 s8 s9 s10 s11 s12 s14 s15 s16 s17 (.sh (.lst (dI ws))) st2
  obtain ⟨v, st3, d3, v0, v1, b3⟩ := below_bud (many := 2 ^ w - 1) (k := k + 3) (st := st2) (by omega) (by omega) (b2.le (by omega))
  have f : Fit w v bs := ⟨h0, h1, v0, v1, by omega, hmany⟩
  have hvi := vimage_ok f
  have hio := image_of_ok f
  have hat : atI (dI (img w v bs)) 0 = some (.int v) := at0 _ _
  have e13 : Q13 ([s0, .stm, s2, .sh (.int w), .sh (.int (2 ^ w - 1)), .sh (.lst (dI ws)), s6, s7, s8, s9, s10, s11, s12, .sh (.str (bitT bs)), s14, s15, s16, s17], st2) = .ok (.nx, ([s0, .stm, s2, .sh (.int w), .sh (.int (2 ^ w - 1)), .sh (.lst (dI ws)), s6, s7, s8, s9, s10, s11, s12, .sh (.str (bitT bs)), .sh (.lst (dI (img w v bs))), s15, s16, s17], st3)) := by
    simp [Q13, d3, hvi]
  have hcp := copied_str 19 (bitT bs)
  have e14 : Q14 ([s0, .stm, s2, .sh (.int w), .sh (.int (2 ^ w - 1)), .sh (.lst (dI ws)), s6, s7, s8, s9, s10, s11, s12, .sh (.str (bitT bs)), .sh (.lst (dI (img w v bs))), s15, s16, s17], st3) = .ok (.nx, ([s0, .stm, s2, .sh (.int w), .sh (.int (2 ^ w - 1)), .sh (.lst (dI ws)), s6, s7, s8, s9, s10, s11, s12, .sh (.str (bitT bs)), .sh (.lst (dI (img w v bs))), .sh (.lst (dI (img w v bs))), s16, s17], st3)) := by
    simp [Q14, hat, hcp, hio]
  obtain ⟨x, st4, d4, hx, b4⟩ := loose_ints 18 (img w v bs) (by have := f.len70; show _ ≤ 16777216; omega) (k + 2) st3 (b3.le (by omega))
  have hiw := image_or_why_ok w h0 h1 (img w v bs) f.img f.len70 hx
  rw [img_whyT f] at hiw
  have hwo := words_of_ok w h0 h1 bs (by omega)
  have hvw : F__law_vwordsof [.int w, .str (bitT bs)] = .ok (.tup [.lst (dI (wsOf w bs)), .int (sp w bs.length : Nat)]) := vwordsof_ok w h0 h1 bs (by omega)
  have sm1 := same_self 19 (.lst [.lst (dI (img w v bs)), .tup [.str "image", .int v, .str (bitT bs)], .tup [.lst (dI (wsOf w bs)), .int (sp w bs.length : Nat)]]) (pl_3l _ _ _ (pl_dI _ (by have := f.len70; omega)) (pl_3t (n := 17) _ _ _ (.str _) (.int _) (.str _)) (pl_tup (n := 17) _ _ (pl_dI _ (by have := f.len; have := f.many; omega)) (.int _)))
  have e15 : Q15 ([s0, .stm, s2, .sh (.int w), .sh (.int (2 ^ w - 1)), .sh (.lst (dI ws)), s6, s7, s8, s9, s10, s11, s12, .sh (.str (bitT bs)), .sh (.lst (dI (img w v bs))), .sh (.lst (dI (img w v bs))), s16, s17], st3) = .ok (.nx, ([s0, .stm, s2, .sh (.int w), .sh (.int (2 ^ w - 1)), .sh (.lst (dI ws)), s6, s7, s8, s9, s10, s11, s12, .sh (.str (bitT bs)), .sh (.lst (dI (img w v bs))), .sh (.lst (dI (img w v bs))), s16, s17], st4)) := by
    simp [Q15, d4, hat, hcp, hiw, hwo, hvw, sm1]
  obtain ⟨u, st5, d5, u0, u1, b5⟩ := below_bud (many := 2 ^ w - 1) (k := k + 1) (st := st4) (by omega) (by omega) (b4.le (by omega))
  have e16 : Q16 ([s0, .stm, s2, .sh (.int w), .sh (.int (2 ^ w - 1)), .sh (.lst (dI ws)), s6, s7, s8, s9, s10, s11, s12, .sh (.str (bitT bs)), .sh (.lst (dI (img w v bs))), .sh (.lst (dI (img w v bs))), s16, s17], st4) = .ok (.nx, ([s0, .stm, s2, .sh (.int w), .sh (.int (2 ^ w - 1)), .sh (.lst (dI ws)), s6, s7, s8, s9, s10, s11, s12, .sh (.str (bitT bs)), .sh (.lst (dI (img w v bs))), .sh (.lst (dI (img w v bs))), .sh (.int u), s17], st5)) := by
    simp [Q16, d5]
  obtain ⟨y, st6, d6, hy, b6⟩ := loose_ints 18 (img w v bs) (by have := f.len70; show _ ≤ 16777216; omega) k st5 (b5.le (by omega))
  have hwv := with_version_ok f u0 u1 hy
  have e17 : Q17 ([s0, .stm, s2, .sh (.int w), .sh (.int (2 ^ w - 1)), .sh (.lst (dI ws)), s6, s7, s8, s9, s10, s11, s12, .sh (.str (bitT bs)), .sh (.lst (dI (img w v bs))), .sh (.lst (dI (img w v bs))), .sh (.int u), s17], st5) = .ok (.nx, ([s0, .stm, s2, .sh (.int w), .sh (.int (2 ^ w - 1)), .sh (.lst (dI ws)), s6, s7, s8, s9, s10, s11, s12, .sh (.str (bitT bs)), .sh (.lst (dI (img w v bs))), .sh (.lst (dI (img w v bs))), .sh (.int u), .sh (.lst (dI (img w u bs)))], st6)) := by
    simp [Q17, d6, hwv]
  have f2 := f.ver u0 u1
  have hci := copied_ints 18 (img w u bs) (by have := f2.len70; show _ ≤ 16777216; omega)
  have hiw2 := image_or_why_ok w h0 h1 (img w u bs) f2.img f2.len70 (.inl rfl)
  rw [img_whyT f2] at hiw2
  have hvi2 := vimage_ok f2
  have sm2 := same_self 19 (.lst [.lst (dI (img w u bs)), .tup [.str "image", .int u, .str (bitT bs)]]) (pl_lst _ _ (pl_dI _ (by have := f2.len70; omega)) (pl_3t (n := 17) _ _ _ (.str _) (.int _) (.str _)))
  have e18 : Q18 ([s0, .stm, s2, .sh (.int w), .sh (.int (2 ^ w - 1)), .sh (.lst (dI ws)), s6, s7, s8, s9, s10, s11, s12, .sh (.str (bitT bs)), .sh (.lst (dI (img w v bs))), .sh (.lst (dI (img w v bs))), .sh (.int u), .sh (.lst (dI (img w u bs)))], st6) = .ok (.nx, ([s0, .stm, s2, .sh (.int w), .sh (.int (2 ^ w - 1)), .sh (.lst (dI ws)), s6, s7, s8, s9, s10, s11, s12, .sh (.str (bitT bs)), .sh (.lst (dI (img w v bs))), .sh (.lst (dI (img w v bs))), .sh (.int u), .sh (.lst (dI (img w u bs)))], st6)) := by
    simp [Q18, hci, hiw2, hvi2, sm2]
  have hcw := copied_ints 18 ws (by show _ ≤ 16777216; omega)
  have hiw3 := image_or_why_ok w h0 h1 ws hws (by omega) (.inl rfl)
  have hvy := vwhy_ok w h0 h1 ws hws (by omega)
  have sm3 := same_self 19 (whyT w ws) (pl_why _ _ _)
  have e19 : Q19 ([s0, .stm, s2, .sh (.int w), .sh (.int (2 ^ w - 1)), .sh (.lst (dI ws)), s6, s7, s8, s9, s10, s11, s12, .sh (.str (bitT bs)), .sh (.lst (dI (img w v bs))), .sh (.lst (dI (img w v bs))), .sh (.int u), .sh (.lst (dI (img w u bs)))], st6) = .ok (.nx, ([s0, .stm, s2, .sh (.int w), .sh (.int (2 ^ w - 1)), .sh (.lst (dI ws)), s6, s7, s8, s9, s10, s11, s12, .sh (.str (bitT bs)), .sh (.lst (dI (img w v bs))), .sh (.lst (dI (img w v bs))), .sh (.int u), .sh (.lst (dI (img w u bs)))], st6)) := by
    by_cases hh : (ws.length : Int) < 999
    · have hh' : ws.length < 999 := by omega
      simp [Q19, hh, hh', hcw, hiw3, hvy, sm3]
    · have hh' : ¬ ws.length < 999 := by omega
      simp [Q19, hh, hh', hcw, hiw3, hvy, sm3]
  refine ⟨_, st6, ?_, ⟨s0, s2, .sh (.int w), .sh (.int (2 ^ w - 1)), .sh (.lst (dI ws)), s6, s7, s8, s9, s10, s11, s12, .sh (.str (bitT bs)), .sh (.lst (dI (img w v bs))), .sh (.lst (dI (img w v bs))), .sh (.int u), .sh (.lst (dI (img w u bs))), rfl⟩, b6⟩
  rw [fSeq_nx e11, fSeq_nx e12, fSeq_nx e13, fSeq_nx e14, fSeq_nx e15, fSeq_nx e16, fSeq_nx e17, fSeq_nx e18, e19]
end KLaw
namespace KLaw
open PySem PySem.Spec PyProof.Rows L2 DL
def Shp (g : Sl) : Prop := ∃ s0 s2 s3 s4 s5 s6 s7 s8 s9 s10 s11 s12 s13 s14 s15 s16 s17, g = [s0, .stm, s2, s3, s4, s5, s6, s7, s8, s9, s10, s11, s12, s13, s14, s15, s16, s17]
theorem turn_all (g : Sl) (hg : Shp g) (d : D) (k : Nat) (st : Strm) (hb : Bud (106 + k) st) : ∃ g' st', (R.of (gSet 2 (.sh d) (g, st)) >>= turnF) = .ok (.nx, (g', st')) ∧ Shp g' ∧ Bud k st' := by
  obtain ⟨s0, s2, s3, s4, s5, s6, s7, s8, s9, s10, s11, s12, s13, s14, s15, s16, s17, rfl⟩ := hg
  obtain ⟨w, ws, s2', s6', s7', s8', s9', s10', s11', s12', s13', s14', s15', s16', s17', st1, h0, h1, hws, hl, b1, e1⟩ := turn_a s0 (.sh d) s3 s4 s5 s6 s7 s8 s9 s10 s11 s12 s13 s14 s15 s16 s17 (36 + k) st (hb.le (by omega))
  obtain ⟨g', st2, e2, sh, b2⟩ := turn_b w h0 h1 ws hws hl s0 s2' s6' s7' s8' s9' s10' s11' s12' s13' s14' s15' s16' s17' k st1 (b1.le (by omega))
  refine ⟨g', st2, ?_, sh, b2⟩
  show turnF ([s0, .stm, .sh d, s3, s4, s5, s6, s7, s8, s9, s10, s11, s12, s13, s14, s15, s16, s17], st) = _
  rw [e1, e2]
theorem turns : ∀ (L : List D) (g : Sl) (st : Strm), Shp g → Bud (L.length * 106) st → ∃ g' st', loopF (gSet 2) turnF L (g, st) = .ok (.nx, (g', st'))
  | [], g, st, _, _ => ⟨g, st, rfl⟩
  | d :: L, g, st, hg, hb => by
    rw [List.length_cons, Nat.succ_mul] at hb
    obtain ⟨g1, st1, e1, h1, b1⟩ := turn_all g hg d (L.length * 106) st (hb.le (by omega))
    obtain ⟨g2, st2, e2⟩ := turns L g1 st1 h1 b1
    refine ⟨g2, st2, ?_⟩
    rw [← e2]
    show (turnF (g.set 2 (.sh d), st) >>= _) = _
    have e1 : turnF (g.set 2 (.sh d), st) = .ok (.nx, (g1, st1)) := e1
    rw [e1]
    rfl
theorem law_true : ∀ ns : List Int, ∃ Δ', F_law (Γ0, ⟨ns, 0, 0, 53⟩) = .ok (.rt (.bl true), Δ') := by
  intro ns
  have hb : Bud (4 * 106) ⟨ns, 0, 0, 53⟩ := by
    refine ⟨⟨?_, ?_, ?_, ?_, ?_⟩, ?_⟩ <;> simp
  obtain ⟨g', st', e⟩ := turns (upD 4) Γ0 ⟨ns, 0, 0, 53⟩ ⟨_, _, _, _, _, _, _, _, _, _, _, _, _, _, _, _, _, rfl⟩ (by rw [upD_len]; exact hb)
  refine ⟨(g', st'), ?_⟩
  rw [law_split]
  have er : D.rng1 [.int 4] = some (upD 4) := rng1_eq 4 (by decide) (by decide)
  simp [er, e]
end KLaw
namespace KLaw
open PySem PySem.Spec PyProof.Rows L2 DL
/-! ## the end -/
structure At (K : PySem.W.Frag) (x : Str) (st : Stmt) (f : Addr) (oc : Value) (od : Option Addr) (kV doc pm : Value) (an : Option Addr) (cdv ct : Value) (osl : Array (Option Value)) : Prop where
  ns : PySem.W.nsIn K mainGlobals x = some (some (.ref f))
  lk : K.lookup f = some ⟨oc, od, .func (PySem.W.fnOf x x (defArgs st) (defBody st) (defScope st) .none kV doc pm an cdv ct), osl⟩
  cd : PySem.W.codeIn K cdv x = true
  kp : PySem.W.keepIn K (.ref f) = true
theorem At.fn {K : PySem.W.Frag} {x : Str} {st : Stmt} {f : Addr} {oc : Value} {od : Option Addr} {kV doc pm : Value} {an : Option Addr} {cdv ct : Value} {osl : Array (Option Value)} (h : At K x st f oc od kV doc pm an cdv ct osl) : Fun K x x st f (PySem.W.fnOf x x (defArgs st) (defBody st) (defScope st) .none kV doc pm an cdv ct) := fun_mk h.lk h.cd h.kp
theorem all_mk {l : PySem.W.OpenLaw} {w : World} {K : PySem.W.Frag} {h : Heap} {mg : Str → Option Value} {fa : Addr} (X : K.In h) (GG : h.Ns mainGlobals mg) (hfa : mg "law" = some (.ref fa))
    {f_x0 : Addr} {oc_x0 kV_x0 dc_x0 pm_x0 cd_x0 ct_x0 : Value} {od_x0 an_x0 : Option Addr} {sl_x0 : Array (Option Value)}
    {f_x1 : Addr} {oc_x1 kV_x1 dc_x1 pm_x1 cd_x1 ct_x1 : Value} {od_x1 an_x1 : Option Addr} {sl_x1 : Array (Option Value)}
    {f_x2 : Addr} {oc_x2 kV_x2 dc_x2 pm_x2 cd_x2 ct_x2 : Value} {od_x2 an_x2 : Option Addr} {sl_x2 : Array (Option Value)}
    {f_x3 : Addr} {oc_x3 kV_x3 dc_x3 pm_x3 cd_x3 ct_x3 : Value} {od_x3 an_x3 : Option Addr} {sl_x3 : Array (Option Value)}
    {f_x4 : Addr} {oc_x4 kV_x4 dc_x4 pm_x4 cd_x4 ct_x4 : Value} {od_x4 an_x4 : Option Addr} {sl_x4 : Array (Option Value)}
    {f_x5 : Addr} {oc_x5 kV_x5 dc_x5 pm_x5 cd_x5 ct_x5 : Value} {od_x5 an_x5 : Option Addr} {sl_x5 : Array (Option Value)}
    {f_x6 : Addr} {oc_x6 kV_x6 dc_x6 pm_x6 cd_x6 ct_x6 : Value} {od_x6 an_x6 : Option Addr} {sl_x6 : Array (Option Value)}
    {f_x7 : Addr} {oc_x7 kV_x7 dc_x7 pm_x7 cd_x7 ct_x7 : Value} {od_x7 an_x7 : Option Addr} {sl_x7 : Array (Option Value)}
    {f_x8 : Addr} {oc_x8 kV_x8 dc_x8 pm_x8 cd_x8 ct_x8 : Value} {od_x8 an_x8 : Option Addr} {sl_x8 : Array (Option Value)}
    {f_x9 : Addr} {oc_x9 kV_x9 dc_x9 pm_x9 cd_x9 ct_x9 : Value} {od_x9 an_x9 : Option Addr} {sl_x9 : Array (Option Value)}
    {f_x10 : Addr} {oc_x10 kV_x10 dc_x10 pm_x10 cd_x10 ct_x10 : Value} {od_x10 an_x10 : Option Addr} {sl_x10 : Array (Option Value)}
    {f_x11 : Addr} {oc_x11 kV_x11 dc_x11 pm_x11 cd_x11 ct_x11 : Value} {od_x11 an_x11 : Option Addr} {sl_x11 : Array (Option Value)}
    {f_x12 : Addr} {oc_x12 kV_x12 dc_x12 pm_x12 cd_x12 ct_x12 : Value} {od_x12 an_x12 : Option Addr} {sl_x12 : Array (Option Value)}
    {f_x13 : Addr} {oc_x13 kV_x13 dc_x13 pm_x13 cd_x13 ct_x13 : Value} {od_x13 an_x13 : Option Addr} {sl_x13 : Array (Option Value)}
    {f_x14 : Addr} {oc_x14 kV_x14 dc_x14 pm_x14 cd_x14 ct_x14 : Value} {od_x14 an_x14 : Option Addr} {sl_x14 : Array (Option Value)}
    {f_x15 : Addr} {oc_x15 kV_x15 dc_x15 pm_x15 cd_x15 ct_x15 : Value} {od_x15 an_x15 : Option Addr} {sl_x15 : Array (Option Value)}
    {f_x16 : Addr} {oc_x16 kV_x16 dc_x16 pm_x16 cd_x16 ct_x16 : Value} {od_x16 an_x16 : Option Addr} {sl_x16 : Array (Option Value)}
    {f_x17 : Addr} {oc_x17 kV_x17 dc_x17 pm_x17 cd_x17 ct_x17 : Value} {od_x17 an_x17 : Option Addr} {sl_x17 : Array (Option Value)}
    {f_x18 : Addr} {oc_x18 kV_x18 dc_x18 pm_x18 cd_x18 ct_x18 : Value} {od_x18 an_x18 : Option Addr} {sl_x18 : Array (Option Value)}
    {f_x19 : Addr} {oc_x19 kV_x19 dc_x19 pm_x19 cd_x19 ct_x19 : Value} {od_x19 an_x19 : Option Addr} {sl_x19 : Array (Option Value)}
    {f_x20 : Addr} {oc_x20 kV_x20 dc_x20 pm_x20 cd_x20 ct_x20 : Value} {od_x20 an_x20 : Option Addr} {sl_x20 : Array (Option Value)}
    {f_x21 : Addr} {oc_x21 kV_x21 dc_x21 pm_x21 cd_x21 ct_x21 : Value} {od_x21 an_x21 : Option Addr} {sl_x21 : Array (Option Value)}
    {f_x22 : Addr} {oc_x22 kV_x22 dc_x22 pm_x22 cd_x22 ct_x22 : Value} {od_x22 an_x22 : Option Addr} {sl_x22 : Array (Option Value)}
    {f_x23 : Addr} {oc_x23 kV_x23 dc_x23 pm_x23 cd_x23 ct_x23 : Value} {od_x23 an_x23 : Option Addr} {sl_x23 : Array (Option Value)}
    {f_x24 : Addr} {oc_x24 kV_x24 dc_x24 pm_x24 cd_x24 ct_x24 : Value} {od_x24 an_x24 : Option Addr} {sl_x24 : Array (Option Value)}
    {f_x25 : Addr} {oc_x25 kV_x25 dc_x25 pm_x25 cd_x25 ct_x25 : Value} {od_x25 an_x25 : Option Addr} {sl_x25 : Array (Option Value)}
    {f_x26 : Addr} {oc_x26 kV_x26 dc_x26 pm_x26 cd_x26 ct_x26 : Value} {od_x26 an_x26 : Option Addr} {sl_x26 : Array (Option Value)}
    {f_x27 : Addr} {oc_x27 kV_x27 dc_x27 pm_x27 cd_x27 ct_x27 : Value} {od_x27 an_x27 : Option Addr} {sl_x27 : Array (Option Value)}
    {f_x28 : Addr} {oc_x28 kV_x28 dc_x28 pm_x28 cd_x28 ct_x28 : Value} {od_x28 an_x28 : Option Addr} {sl_x28 : Array (Option Value)}
    {f_x29 : Addr} {oc_x29 kV_x29 dc_x29 pm_x29 cd_x29 ct_x29 : Value} {od_x29 an_x29 : Option Addr} {sl_x29 : Array (Option Value)}
    {f_x30 : Addr} {oc_x30 kV_x30 dc_x30 pm_x30 cd_x30 ct_x30 : Value} {od_x30 an_x30 : Option Addr} {sl_x30 : Array (Option Value)}
    {f_x31 : Addr} {oc_x31 kV_x31 dc_x31 pm_x31 cd_x31 ct_x31 : Value} {od_x31 an_x31 : Option Addr} {sl_x31 : Array (Option Value)}
    {f_x32 : Addr} {oc_x32 kV_x32 dc_x32 pm_x32 cd_x32 ct_x32 : Value} {od_x32 an_x32 : Option Addr} {sl_x32 : Array (Option Value)}
    {f_x33 : Addr} {oc_x33 kV_x33 dc_x33 pm_x33 cd_x33 ct_x33 : Value} {od_x33 an_x33 : Option Addr} {sl_x33 : Array (Option Value)}
    {f_x34 : Addr} {oc_x34 kV_x34 dc_x34 pm_x34 cd_x34 ct_x34 : Value} {od_x34 an_x34 : Option Addr} {sl_x34 : Array (Option Value)}
    {f_x35 : Addr} {oc_x35 kV_x35 dc_x35 pm_x35 cd_x35 ct_x35 : Value} {od_x35 an_x35 : Option Addr} {sl_x35 : Array (Option Value)}
    {f_x36 : Addr} {oc_x36 kV_x36 dc_x36 pm_x36 cd_x36 ct_x36 : Value} {od_x36 an_x36 : Option Addr} {sl_x36 : Array (Option Value)}
    {f_x37 : Addr} {oc_x37 kV_x37 dc_x37 pm_x37 cd_x37 ct_x37 : Value} {od_x37 an_x37 : Option Addr} {sl_x37 : Array (Option Value)}
    (a_x0 : At K "_law_start" s__law_start f_x0 oc_x0 od_x0 kV_x0 dc_x0 pm_x0 an_x0 cd_x0 ct_x0 sl_x0)
    (a_x1 : At K "_law_below" s__law_below f_x1 oc_x1 od_x1 kV_x1 dc_x1 pm_x1 an_x1 cd_x1 ct_x1 sl_x1)
    (a_x2 : At K "_law_vpow" s__law_vpow f_x2 oc_x2 od_x2 kV_x2 dc_x2 pm_x2 an_x2 cd_x2 ct_x2 sl_x2)
    (a_x3 : At K "_law_vsums" s__law_vsums f_x3 oc_x3 od_x3 kV_x3 dc_x3 pm_x3 an_x3 cd_x3 ct_x3 sl_x3)
    (a_x4 : At K "is_whole" s_is_whole f_x4 oc_x4 od_x4 kV_x4 dc_x4 pm_x4 an_x4 cd_x4 ct_x4 sl_x4)
    (a_x5 : At K "need_width" s_need_width f_x5 oc_x5 od_x5 kV_x5 dc_x5 pm_x5 an_x5 cd_x5 ct_x5 sl_x5)
    (a_x6 : At K "ones" s_ones f_x6 oc_x6 od_x6 kV_x6 dc_x6 pm_x6 an_x6 cd_x6 ct_x6 sl_x6)
    (a_x7 : At K "sums_by" s_sums_by f_x7 oc_x7 od_x7 kV_x7 dc_x7 pm_x7 an_x7 cd_x7 ct_x7 sl_x7)
    (a_x8 : At K "is_list" s_is_list f_x8 oc_x8 od_x8 kV_x8 dc_x8 pm_x8 an_x8 cd_x8 ct_x8 sl_x8)
    (a_x9 : At K "is_number" s_is_number f_x9 oc_x9 od_x9 kV_x9 dc_x9 pm_x9 an_x9 cd_x9 ct_x9 sl_x9)
    (a_x10 : At K "is_below" s_is_below f_x10 oc_x10 od_x10 kV_x10 dc_x10 pm_x10 an_x10 cd_x10 ct_x10 sl_x10)
    (a_x11 : At K "are_words" s_are_words f_x11 oc_x11 od_x11 kV_x11 dc_x11 pm_x11 an_x11 cd_x11 ct_x11 sl_x11)
    (a_x12 : At K "need_words" s_need_words f_x12 oc_x12 od_x12 kV_x12 dc_x12 pm_x12 an_x12 cd_x12 ct_x12 sl_x12)
    (a_x13 : At K "sums_of" s_sums_of f_x13 oc_x13 od_x13 kV_x13 dc_x13 pm_x13 an_x13 cd_x13 ct_x13 sl_x13)
    (a_x14 : At K "_law_vwordsof" s__law_vwordsof f_x14 oc_x14 od_x14 kV_x14 dc_x14 pm_x14 an_x14 cd_x14 ct_x14 sl_x14)
    (a_x15 : At K "_law_vimage" s__law_vimage f_x15 oc_x15 od_x15 kV_x15 dc_x15 pm_x15 an_x15 cd_x15 ct_x15 sl_x15)
    (a_x16 : At K "need_version" s_need_version f_x16 oc_x16 od_x16 kV_x16 dc_x16 pm_x16 an_x16 cd_x16 ct_x16 sl_x16)
    (a_x17 : At K "is_bits" s_is_bits f_x17 oc_x17 od_x17 kV_x17 dc_x17 pm_x17 an_x17 cd_x17 ct_x17 sl_x17)
    (a_x18 : At K "need_bits" s_need_bits f_x18 oc_x18 od_x18 kV_x18 dc_x18 pm_x18 an_x18 cd_x18 ct_x18 sl_x18)
    (a_x19 : At K "packed_words" s_packed_words f_x19 oc_x19 od_x19 kV_x19 dc_x19 pm_x19 an_x19 cd_x19 ct_x19 sl_x19)
    (a_x20 : At K "made" s_made f_x20 oc_x20 od_x20 kV_x20 dc_x20 pm_x20 an_x20 cd_x20 ct_x20 sl_x20)
    (a_x21 : At K "image_of" s_image_of f_x21 oc_x21 od_x21 kV_x21 dc_x21 pm_x21 an_x21 cd_x21 ct_x21 sl_x21)
    (a_x22 : At K "why_not" s_why_not f_x22 oc_x22 od_x22 kV_x22 dc_x22 pm_x22 an_x22 cd_x22 ct_x22 sl_x22)
    (a_x23 : At K "with_version" s_with_version f_x23 oc_x23 od_x23 kV_x23 dc_x23 pm_x23 an_x23 cd_x23 ct_x23 sl_x23)
    (a_x24 : At K "_law_same" s__law_same f_x24 oc_x24 od_x24 kV_x24 dc_x24 pm_x24 an_x24 cd_x24 ct_x24 sl_x24)
    (a_x25 : At K "_law_pick" s__law_pick f_x25 oc_x25 od_x25 kV_x25 dc_x25 pm_x25 an_x25 cd_x25 ct_x25 sl_x25)
    (a_x26 : At K "_law_vdrawbits" s__law_vdrawbits f_x26 oc_x26 od_x26 kV_x26 dc_x26 pm_x26 an_x26 cd_x26 ct_x26 sl_x26)
    (a_x27 : At K "_law_copied" s__law_copied f_x27 oc_x27 od_x27 kV_x27 dc_x27 pm_x27 an_x27 cd_x27 ct_x27 sl_x27)
    (a_x28 : At K "_law_mixed" s__law_mixed f_x28 oc_x28 od_x28 kV_x28 dc_x28 pm_x28 an_x28 cd_x28 ct_x28 sl_x28)
    (a_x29 : At K "_law_loose" s__law_loose f_x29 oc_x29 od_x29 kV_x29 dc_x29 pm_x29 an_x29 cd_x29 ct_x29 sl_x29)
    (a_x30 : At K "bits_in" s_bits_in f_x30 oc_x30 od_x30 kV_x30 dc_x30 pm_x30 an_x30 cd_x30 ct_x30 sl_x30)
    (a_x31 : At K "image_or_why" s_image_or_why f_x31 oc_x31 od_x31 kV_x31 dc_x31 pm_x31 an_x31 cd_x31 ct_x31 sl_x31)
    (a_x32 : At K "words_of" s_words_of f_x32 oc_x32 od_x32 kV_x32 dc_x32 pm_x32 an_x32 cd_x32 ct_x32 sl_x32)
    (a_x33 : At K "_law_vsigns" s__law_vsigns f_x33 oc_x33 od_x33 kV_x33 dc_x33 pm_x33 an_x33 cd_x33 ct_x33 sl_x33)
    (a_x34 : At K "_law_vwhy" s__law_vwhy f_x34 oc_x34 od_x34 kV_x34 dc_x34 pm_x34 an_x34 cd_x34 ct_x34 sl_x34)
    (a_x35 : At K "_law_vmark" s__law_vmark f_x35 oc_x35 od_x35 kV_x35 dc_x35 pm_x35 an_x35 cd_x35 ct_x35 sl_x35)
    (a_x36 : At K "_law_vword" s__law_vword f_x36 oc_x36 od_x36 kV_x36 dc_x36 pm_x36 an_x36 cd_x36 ct_x36 sl_x36)
    (a_x37 : At K "law" s_law f_x37 oc_x37 od_x37 kV_x37 dc_x37 pm_x37 an_x37 cd_x37 ct_x37 sl_x37)
    (z_all : PySem.W.nsIn K mainGlobals "all" = some none)
    (z_bool : PySem.W.nsIn K mainGlobals "bool" = some none)
    (z_dict : PySem.W.nsIn K mainGlobals "dict" = some none)
    (z_enumerate : PySem.W.nsIn K mainGlobals "enumerate" = some none)
    (z_int : PySem.W.nsIn K mainGlobals "int" = some none)
    (z_isinstance : PySem.W.nsIn K mainGlobals "isinstance" = some none)
    (z_len : PySem.W.nsIn K mainGlobals "len" = some none)
    (z_list : PySem.W.nsIn K mainGlobals "list" = some none)
    (z_min : PySem.W.nsIn K mainGlobals "min" = some none)
    (z_range : PySem.W.nsIn K mainGlobals "range" = some none)
    (z_str : PySem.W.nsIn K mainGlobals "str" = some none)
    (z_sum : PySem.W.nsIn K mainGlobals "sum" = some none)
    (z_tuple : PySem.W.nsIn K mainGlobals "tuple" = some none)
    (z_zip : PySem.W.nsIn K mainGlobals "zip" = some none)
    : ∃ fd : FuncData, (∀ (s : Shared) (v : Value), BindsTo s fd ⟨[v], []⟩ [("script", v)]) ∧ ∀ base : Heap, K.In base → base.Ns mainGlobals mg → FnOk l.prog w K mg base (L2.CX l.prog w) 23 fa fd ["script"] (spLaw K) := by
  have e := hfa.symm.trans (PySem.W.mg_of X GG a_x37.ns)
  cases e
  refine ⟨PySem.W.fnOf "law" "law" (defArgs s_law) (defBody s_law) (defScope s_law) .none kV_x37 dc_x37 pm_x37 an_x37 cd_x37 ct_x37, fun s v => .of_eq rfl, fun base _ _ => ?_⟩
  let g : G := ⟨l.prog, w, K, mg, base⟩
  have T : Txt g := ⟨PySem.W.mg_none_of X GG z_all, PySem.W.mg_none_of X GG z_bool, PySem.W.mg_none_of X GG z_dict, PySem.W.mg_none_of X GG z_enumerate, PySem.W.mg_none_of X GG z_int, PySem.W.mg_none_of X GG z_isinstance, PySem.W.mg_none_of X GG z_len, PySem.W.mg_none_of X GG z_list, PySem.W.mg_none_of X GG z_min, PySem.W.mg_none_of X GG z_range, PySem.W.mg_none_of X GG z_str, PySem.W.mg_none_of X GG z_sum, PySem.W.mg_none_of X GG z_tuple, PySem.W.mg_none_of X GG z_zip⟩
  have b_x0 : Binds g.K _ ["script"] [] := a_x0.fn.binds (ps := ["script"]) fun _ _ _ _ _ _ us hl => match us, hl with | [_], _ => rfl
  have h__law_start := ok__law_start (g := g) T a_x0.fn b_x0
  have b_x1 : Binds g.K _ ["stream", "many"] [] := a_x1.fn.binds (ps := ["stream", "many"]) fun _ _ _ _ _ _ us hl => match us, hl with | [_, _], _ => rfl
  have h__law_below : OkS g 1 1 "_law_below" F__law_below := ok__law_below (g := g) T a_x1.fn (PySem.W.mg_of X GG a_x1.ns) b_x1
  have b_x2 : Binds g.K _ ["many"] [] := a_x2.fn.binds (ps := ["many"]) fun _ _ _ _ _ _ us hl => match us, hl with | [_], _ => rfl
  have h__law_vpow := ok__law_vpow (g := g) T  a_x2.fn (PySem.W.mg_of X GG a_x2.ns) b_x2
  have b_x3 : Binds g.K _ ["width", "words"] [] := a_x3.fn.binds (ps := ["width", "words"]) fun _ _ _ _ _ _ us hl => match us, hl with | [_, _], _ => rfl
  have h__law_vsums := ok__law_vsums (g := g) T h__law_vpow a_x3.fn (PySem.W.mg_of X GG a_x3.ns) b_x3
  have b_x4 : Binds g.K _ ["thing"] [] := a_x4.fn.binds (ps := ["thing"]) fun _ _ _ _ _ _ us hl => match us, hl with | [_], _ => rfl
  have h_is_whole := ok_is_whole (g := g) T  a_x4.fn (PySem.W.mg_of X GG a_x4.ns) b_x4
  have b_x5 : Binds g.K _ ["width"] [] := a_x5.fn.binds (ps := ["width"]) fun _ _ _ _ _ _ us hl => match us, hl with | [_], _ => rfl
  have h_need_width := ok_need_width (g := g) T h_is_whole a_x5.fn (PySem.W.mg_of X GG a_x5.ns) b_x5
  have b_x6 : Binds g.K _ ["width"] [] := a_x6.fn.binds (ps := ["width"]) fun _ _ _ _ _ _ us hl => match us, hl with | [_], _ => rfl
  have h_ones := ok_ones (g := g) T  a_x6.fn (PySem.W.mg_of X GG a_x6.ns) b_x6
  have b_x7 : Binds g.K _ ["width", "words"] [] := a_x7.fn.binds (ps := ["width", "words"]) fun _ _ _ _ _ _ us hl => match us, hl with | [_, _], _ => rfl
  have h_sums_by := ok_sums_by (g := g) T h_ones a_x7.fn (PySem.W.mg_of X GG a_x7.ns) b_x7
  have b_x8 : Binds g.K _ ["thing"] [] := a_x8.fn.binds (ps := ["thing"]) fun _ _ _ _ _ _ us hl => match us, hl with | [_], _ => rfl
  have h_is_list := ok_is_list (g := g) T  a_x8.fn (PySem.W.mg_of X GG a_x8.ns) b_x8
  have b_x9 : Binds g.K _ ["thing"] [] := a_x9.fn.binds (ps := ["thing"]) fun _ _ _ _ _ _ us hl => match us, hl with | [_], _ => rfl
  have h_is_number := ok_is_number (g := g) T h_is_whole a_x9.fn (PySem.W.mg_of X GG a_x9.ns) b_x9
  have b_x10 : Binds g.K _ ["thing", "most"] [] := a_x10.fn.binds (ps := ["thing", "most"]) fun _ _ _ _ _ _ us hl => match us, hl with | [_, _], _ => rfl
  have h_is_below := ok_is_below (g := g) T h_is_number a_x10.fn (PySem.W.mg_of X GG a_x10.ns) b_x10
  have b_x11 : Binds g.K _ ["width", "thing"] [] := a_x11.fn.binds (ps := ["width", "thing"]) fun _ _ _ _ _ _ us hl => match us, hl with | [_, _], _ => rfl
  have h_are_words := ok_are_words (g := g) T h_is_list h_is_below a_x11.fn (PySem.W.mg_of X GG a_x11.ns) b_x11
  have b_x12 : Binds g.K _ ["width", "words"] [] := a_x12.fn.binds (ps := ["width", "words"]) fun _ _ _ _ _ _ us hl => match us, hl with | [_, _], _ => rfl
  have h_need_words := ok_need_words (g := g) T h_are_words a_x12.fn (PySem.W.mg_of X GG a_x12.ns) b_x12
  have b_x13 : Binds g.K _ ["width", "words"] [] := a_x13.fn.binds (ps := ["width", "words"]) fun _ _ _ _ _ _ us hl => match us, hl with | [_, _], _ => rfl
  have h_sums_of := ok_sums_of (g := g) T h_need_width h_need_words h_sums_by a_x13.fn (PySem.W.mg_of X GG a_x13.ns) b_x13
  have b_x14 : Binds g.K _ ["width", "bits"] [] := a_x14.fn.binds (ps := ["width", "bits"]) fun _ _ _ _ _ _ us hl => match us, hl with | [_, _], _ => rfl
  have h__law_vwordsof := ok__law_vwordsof (g := g) T  a_x14.fn (PySem.W.mg_of X GG a_x14.ns) b_x14
  have b_x15 : Binds g.K _ ["width", "version", "bits"] [] := a_x15.fn.binds (ps := ["width", "version", "bits"]) fun _ _ _ _ _ _ us hl => match us, hl with | [_, _, _], _ => rfl
  have h__law_vimage := ok__law_vimage (g := g) T h__law_vsums h__law_vwordsof a_x15.fn (PySem.W.mg_of X GG a_x15.ns) b_x15
  have b_x16 : Binds g.K _ ["width", "version"] [] := a_x16.fn.binds (ps := ["width", "version"]) fun _ _ _ _ _ _ us hl => match us, hl with | [_, _], _ => rfl
  have h_need_version := ok_need_version (g := g) T h_is_below h_ones a_x16.fn (PySem.W.mg_of X GG a_x16.ns) b_x16
  have b_x17 : Binds g.K _ ["thing"] [] := a_x17.fn.binds (ps := ["thing"]) fun _ _ _ _ _ _ us hl => match us, hl with | [_], _ => rfl
  have h_is_bits := ok_is_bits (g := g) T  a_x17.fn (PySem.W.mg_of X GG a_x17.ns) b_x17
  have b_x18 : Binds g.K _ ["bits"] [] := a_x18.fn.binds (ps := ["bits"]) fun _ _ _ _ _ _ us hl => match us, hl with | [_], _ => rfl
  have h_need_bits := ok_need_bits (g := g) T h_is_bits a_x18.fn (PySem.W.mg_of X GG a_x18.ns) b_x18
  have b_x19 : Binds g.K _ ["width", "bits"] [] := a_x19.fn.binds (ps := ["width", "bits"]) fun _ _ _ _ _ _ us hl => match us, hl with | [_, _], _ => rfl
  have h_packed_words := ok_packed_words (g := g) T  a_x19.fn (PySem.W.mg_of X GG a_x19.ns) b_x19
  have b_x20 : Binds g.K _ ["width", "version", "body", "spare"] [] := a_x20.fn.binds (ps := ["width", "version", "body", "spare"]) fun _ _ _ _ _ _ us hl => match us, hl with | [_, _, _, _], _ => rfl
  have h_made := ok_made (g := g) T h_sums_by a_x20.fn (PySem.W.mg_of X GG a_x20.ns) b_x20
  have b_x21 : Binds g.K _ ["width", "version", "bits"] [] := a_x21.fn.binds (ps := ["width", "version", "bits"]) fun _ _ _ _ _ _ us hl => match us, hl with | [_, _, _], _ => rfl
  have h_image_of := ok_image_of (g := g) T h_need_width h_ones h_packed_words h_made h_need_version h_need_bits a_x21.fn (PySem.W.mg_of X GG a_x21.ns) b_x21
  have b_x22 : Binds g.K _ ["width", "thing"] [] := a_x22.fn.binds (ps := ["width", "thing"]) fun _ _ _ _ _ _ us hl => match us, hl with | [_, _], _ => rfl
  have h_why_not := ok_why_not (g := g) T h_ones h_are_words h_sums_by a_x22.fn (PySem.W.mg_of X GG a_x22.ns) b_x22
  have b_x23 : Binds g.K _ ["width", "image", "version"] [] := a_x23.fn.binds (ps := ["width", "image", "version"]) fun _ _ _ _ _ _ us hl => match us, hl with | [_, _, _], _ => rfl
  have h_with_version := ok_with_version (g := g) T h_need_width h_made h_need_version h_why_not a_x23.fn (PySem.W.mg_of X GG a_x23.ns) b_x23
  have b_x24 : Binds g.K _ ["found", "due"] [] := a_x24.fn.binds (ps := ["found", "due"]) fun _ _ _ _ _ _ us hl => match us, hl with | [_, _], _ => rfl
  have h__law_same := (ok__law_same (g := g) T  a_x24.fn (PySem.W.mg_of X GG a_x24.ns) b_x24) 20
  have b_x25 : Binds g.K _ ["stream", "some"] [] := a_x25.fn.binds (ps := ["stream", "some"]) fun _ _ _ _ _ _ us hl => match us, hl with | [_, _], _ => rfl
  have h__law_pick := ok__law_pick (g := g) T h__law_below a_x25.fn (PySem.W.mg_of X GG a_x25.ns) b_x25
  have b_x26 : Binds g.K _ ["stream", "most"] [] := a_x26.fn.binds (ps := ["stream", "most"]) fun _ _ _ _ _ _ us hl => match us, hl with | [_, _], _ => rfl
  have h__law_vdrawbits := ok__law_vdrawbits (g := g) T h__law_below h__law_pick a_x26.fn (PySem.W.mg_of X GG a_x26.ns) b_x26
  have b_x27 : Binds g.K _ ["thing"] [] := a_x27.fn.binds (ps := ["thing"]) fun _ _ _ _ _ _ us hl => match us, hl with | [_], _ => rfl
  have h__law_copied := (ok__law_copied (g := g) T  a_x27.fn (PySem.W.mg_of X GG a_x27.ns) b_x27) 20
  have b_x28 : Binds g.K _ ["stream", "some"] [] := a_x28.fn.binds (ps := ["stream", "some"]) fun _ _ _ _ _ _ us hl => match us, hl with | [_, _], _ => rfl
  have h__law_mixed := ok__law_mixed (g := g) T h__law_below a_x28.fn (PySem.W.mg_of X GG a_x28.ns) b_x28
  have b_x29 : Binds g.K _ ["stream", "thing"] [] := a_x29.fn.binds (ps := ["stream", "thing"]) fun _ _ _ _ _ _ us hl => match us, hl with | [_, _], _ => rfl
  have h__law_loose := (ok__law_loose (g := g) T h__law_below a_x29.fn (PySem.W.mg_of X GG a_x29.ns) b_x29) 20
  have b_x30 : Binds g.K _ ["width", "words", "spare"] [] := a_x30.fn.binds (ps := ["width", "words", "spare"]) fun _ _ _ _ _ _ us hl => match us, hl with | [_, _, _], _ => rfl
  have h_bits_in := ok_bits_in (g := g) T  a_x30.fn (PySem.W.mg_of X GG a_x30.ns) b_x30
  have b_x31 : Binds g.K _ ["width", "thing"] [] := a_x31.fn.binds (ps := ["width", "thing"]) fun _ _ _ _ _ _ us hl => match us, hl with | [_, _], _ => rfl
  have h_image_or_why := ok_image_or_why (g := g) T h_need_width h_bits_in h_why_not a_x31.fn (PySem.W.mg_of X GG a_x31.ns) b_x31
  have b_x32 : Binds g.K _ ["width", "bits"] [] := a_x32.fn.binds (ps := ["width", "bits"]) fun _ _ _ _ _ _ us hl => match us, hl with | [_, _], _ => rfl
  have h_words_of := ok_words_of (g := g) T h_need_width h_packed_words h_need_bits a_x32.fn (PySem.W.mg_of X GG a_x32.ns) b_x32
  have b_x33 : Binds g.K _ ["width", "words", "spare"] [] := a_x33.fn.binds (ps := ["width", "words", "spare"]) fun _ _ _ _ _ _ us hl => match us, hl with | [_, _, _], _ => rfl
  have h__law_vsigns := ok__law_vsigns (g := g) T h__law_vpow a_x33.fn (PySem.W.mg_of X GG a_x33.ns) b_x33
  have b_x34 : Binds g.K _ ["width", "thing"] [] := a_x34.fn.binds (ps := ["width", "thing"]) fun _ _ _ _ _ _ us hl => match us, hl with | [_, _], _ => rfl
  have h__law_vwhy := ok__law_vwhy (g := g) T h__law_vpow h__law_vsums h__law_vsigns a_x34.fn (PySem.W.mg_of X GG a_x34.ns) b_x34
  have b_x35 : Binds g.K _ ["width"] [] := a_x35.fn.binds (ps := ["width"]) fun _ _ _ _ _ _ us hl => match us, hl with | [_], _ => rfl
  have h__law_vmark := ok__law_vmark (g := g) T h__law_vpow a_x35.fn (PySem.W.mg_of X GG a_x35.ns) b_x35
  have b_x36 : Binds g.K _ ["stream", "width"] [] := a_x36.fn.binds (ps := ["stream", "width"]) fun _ _ _ _ _ _ us hl => match us, hl with | [_, _], _ => rfl
  have h__law_vword := ok__law_vword (g := g) T h__law_below h__law_pick h__law_vpow h__law_vmark a_x36.fn (PySem.W.mg_of X GG a_x36.ns) b_x36
  exact ok_law_of (g := g) law_true T h__law_start (PySem.W.mg_of X GG a_x0.ns) a_x0.kp b_x0 h_sums_of h_image_of h_words_of h_image_or_why h_with_version h__law_below h__law_pick h__law_copied h__law_same h__law_loose h__law_vpow h__law_vsums h__law_vwordsof h__law_vimage h__law_vwhy h__law_vdrawbits h__law_vword a_x37.fn
theorem walk {l : PySem.W.OpenLaw} {q : Program} {loose : List Str} {XP : (Str → Option Value) → Heap → Prop} {YP : World → Heap → Prop} {d : DefRec} {K : Params → PySem.W.Frag} (hn : l.most = some 63) (hdf : d.params.defaults = [])
    (hY : ∀ (w : World) (h : Heap), YP w h → (K w.params).In h)
    (F : ∀ (w : World) (mg : Str → Option Value) (fa : Addr) (h : Heap), (K w.params).In h → h.Ns mainGlobals mg → mg d.name = some (.ref fa) →
      ∃ fd : FuncData, (∀ (s : Shared) (u : Value), BindsTo s fd ⟨[u], []⟩ [("script", u)]) ∧ ∀ base : Heap, (K w.params).In base → base.Ns mainGlobals mg → FnOk l.prog w (K w.params) mg base (L2.CX l.prog w) 23 fa fd ["script"] (spLaw (K w.params))) :
    PySem.W.WalkO q loose XP YP l.row.toRowW d [] (fun f vs => PySem.call f vs) :=
  L2.walk_of (n := 63) (k := 23) (x := "script") (CX := fun w => L2.CX l.prog w) (sp := fun w => spLaw (K w.params)) hn (by decide) hdf ⟨rfl, by decide, by decide⟩ hY F (fun _ _ a ns hl _ hS => ⟨a, ns, rfl, hS, hl, fun _ => rfl⟩) fun w H s e s' h => by
    obtain ⟨_, _, _, _, _, _, _, _, _, _, _, _, z⟩ := h
    exact z.elim

end KLaw
open PySem PySem.W PyProof.Rows in
theorem PySem.Challenge.cw_neverhalf_k01_whole_sums_of_long_lists_holds : PySem.Challenge.rw_neverhalf_k01_whole_sums_of_long_lists.Holds := by
  w_on; o_law; k_head; (case hw => w_witness2)
  k_fill
  refine KLaw.walk (l := PySem.Challenge.rw_neverhalf_k01_whole_sums_of_long_lists) rfl rfl (fun w h Y => PySem.W.kIn_of Y) ?F
  case F =>
    intro w mg fa h KX G hmg
    refine' KLaw.all_mk KX G hmg ⟨?ns_x0, ?lk_x0, ?cd_x0, ?kp_x0⟩ ⟨?ns_x1, ?lk_x1, ?cd_x1, ?kp_x1⟩ ⟨?ns_x2, ?lk_x2, ?cd_x2, ?kp_x2⟩ ⟨?ns_x3, ?lk_x3, ?cd_x3, ?kp_x3⟩ ⟨?ns_x4, ?lk_x4, ?cd_x4, ?kp_x4⟩ ⟨?ns_x5, ?lk_x5, ?cd_x5, ?kp_x5⟩ ⟨?ns_x6, ?lk_x6, ?cd_x6, ?kp_x6⟩ ⟨?ns_x7, ?lk_x7, ?cd_x7, ?kp_x7⟩ ⟨?ns_x8, ?lk_x8, ?cd_x8, ?kp_x8⟩ ⟨?ns_x9, ?lk_x9, ?cd_x9, ?kp_x9⟩ ⟨?ns_x10, ?lk_x10, ?cd_x10, ?kp_x10⟩ ⟨?ns_x11, ?lk_x11, ?cd_x11, ?kp_x11⟩ ⟨?ns_x12, ?lk_x12, ?cd_x12, ?kp_x12⟩ ⟨?ns_x13, ?lk_x13, ?cd_x13, ?kp_x13⟩ ⟨?ns_x14, ?lk_x14, ?cd_x14, ?kp_x14⟩ ⟨?ns_x15, ?lk_x15, ?cd_x15, ?kp_x15⟩ ⟨?ns_x16, ?lk_x16, ?cd_x16, ?kp_x16⟩ ⟨?ns_x17, ?lk_x17, ?cd_x17, ?kp_x17⟩ ⟨?ns_x18, ?lk_x18, ?cd_x18, ?kp_x18⟩ ⟨?ns_x19, ?lk_x19, ?cd_x19, ?kp_x19⟩ ⟨?ns_x20, ?lk_x20, ?cd_x20, ?kp_x20⟩ ⟨?ns_x21, ?lk_x21, ?cd_x21, ?kp_x21⟩ ⟨?ns_x22, ?lk_x22, ?cd_x22, ?kp_x22⟩ ⟨?ns_x23, ?lk_x23, ?cd_x23, ?kp_x23⟩ ⟨?ns_x24, ?lk_x24, ?cd_x24, ?kp_x24⟩ ⟨?ns_x25, ?lk_x25, ?cd_x25, ?kp_x25⟩ ⟨?ns_x26, ?lk_x26, ?cd_x26, ?kp_x26⟩ ⟨?ns_x27, ?lk_x27, ?cd_x27, ?kp_x27⟩ ⟨?ns_x28, ?lk_x28, ?cd_x28, ?kp_x28⟩ ⟨?ns_x29, ?lk_x29, ?cd_x29, ?kp_x29⟩ ⟨?ns_x30, ?lk_x30, ?cd_x30, ?kp_x30⟩ ⟨?ns_x31, ?lk_x31, ?cd_x31, ?kp_x31⟩ ⟨?ns_x32, ?lk_x32, ?cd_x32, ?kp_x32⟩ ⟨?ns_x33, ?lk_x33, ?cd_x33, ?kp_x33⟩ ⟨?ns_x34, ?lk_x34, ?cd_x34, ?kp_x34⟩ ⟨?ns_x35, ?lk_x35, ?cd_x35, ?kp_x35⟩ ⟨?ns_x36, ?lk_x36, ?cd_x36, ?kp_x36⟩ ⟨?ns_x37, ?lk_x37, ?cd_x37, ?kp_x37⟩ ?z_all ?z_bool ?z_dict ?z_enumerate ?z_int ?z_isinstance ?z_len ?z_list ?z_min ?z_range ?z_str ?z_sum ?z_tuple ?z_zip
    (case ns_x0 => k_is)
    (case lk_x0 => k_is)
    (case cd_x0 => k_is)
    (case kp_x0 => k_is)
    (case ns_x1 => k_is)
    (case lk_x1 => k_is)
    (case cd_x1 => k_is)
    (case kp_x1 => k_is)
    (case ns_x2 => k_is)
    (case lk_x2 => k_is)
    (case cd_x2 => k_is)
    (case kp_x2 => k_is)
    (case ns_x3 => k_is)
    (case lk_x3 => k_is)
    (case cd_x3 => k_is)
    (case kp_x3 => k_is)
    (case ns_x4 => k_is)
    (case lk_x4 => k_is)
    (case cd_x4 => k_is)
    (case kp_x4 => k_is)
    (case ns_x5 => k_is)
    (case lk_x5 => k_is)
    (case cd_x5 => k_is)
    (case kp_x5 => k_is)
    (case ns_x6 => k_is)
    (case lk_x6 => k_is)
    (case cd_x6 => k_is)
    (case kp_x6 => k_is)
    (case ns_x7 => k_is)
    (case lk_x7 => k_is)
    (case cd_x7 => k_is)
    (case kp_x7 => k_is)
    (case ns_x8 => k_is)
    (case lk_x8 => k_is)
    (case cd_x8 => k_is)
    (case kp_x8 => k_is)
    (case ns_x9 => k_is)
    (case lk_x9 => k_is)
    (case cd_x9 => k_is)
    (case kp_x9 => k_is)
    (case ns_x10 => k_is)
    (case lk_x10 => k_is)
    (case cd_x10 => k_is)
    (case kp_x10 => k_is)
    (case ns_x11 => k_is)
    (case lk_x11 => k_is)
    (case cd_x11 => k_is)
    (case kp_x11 => k_is)
    (case ns_x12 => k_is)
    (case lk_x12 => k_is)
    (case cd_x12 => k_is)
    (case kp_x12 => k_is)
    (case ns_x13 => k_is)
    (case lk_x13 => k_is)
    (case cd_x13 => k_is)
    (case kp_x13 => k_is)
    (case ns_x14 => k_is)
    (case lk_x14 => k_is)
    (case cd_x14 => k_is)
    (case kp_x14 => k_is)
    (case ns_x15 => k_is)
    (case lk_x15 => k_is)
    (case cd_x15 => k_is)
    (case kp_x15 => k_is)
    (case ns_x16 => k_is)
    (case lk_x16 => k_is)
    (case cd_x16 => k_is)
    (case kp_x16 => k_is)
    (case ns_x17 => k_is)
    (case lk_x17 => k_is)
    (case cd_x17 => k_is)
    (case kp_x17 => k_is)
    (case ns_x18 => k_is)
    (case lk_x18 => k_is)
    (case cd_x18 => k_is)
    (case kp_x18 => k_is)
    (case ns_x19 => k_is)
    (case lk_x19 => k_is)
    (case cd_x19 => k_is)
    (case kp_x19 => k_is)
    (case ns_x20 => k_is)
    (case lk_x20 => k_is)
    (case cd_x20 => k_is)
    (case kp_x20 => k_is)
    (case ns_x21 => k_is)
    (case lk_x21 => k_is)
    (case cd_x21 => k_is)
    (case kp_x21 => k_is)
    (case ns_x22 => k_is)
    (case lk_x22 => k_is)
    (case cd_x22 => k_is)
    (case kp_x22 => k_is)
    (case ns_x23 => k_is)
    (case lk_x23 => k_is)
    (case cd_x23 => k_is)
    (case kp_x23 => k_is)
    (case ns_x24 => k_is)
    (case lk_x24 => k_is)
    (case cd_x24 => k_is)
    (case kp_x24 => k_is)
    (case ns_x25 => k_is)
    (case lk_x25 => k_is)
    (case cd_x25 => k_is)
    (case kp_x25 => k_is)
    (case ns_x26 => k_is)
    (case lk_x26 => k_is)
    (case cd_x26 => k_is)
    (case kp_x26 => k_is)
    (case ns_x27 => k_is)
    (case lk_x27 => k_is)
    (case cd_x27 => k_is)
    (case kp_x27 => k_is)
    (case ns_x28 => k_is)
    (case lk_x28 => k_is)
    (case cd_x28 => k_is)
    (case kp_x28 => k_is)
    (case ns_x29 => k_is)
    (case lk_x29 => k_is)
    (case cd_x29 => k_is)
    (case kp_x29 => k_is)
    (case ns_x30 => k_is)
    (case lk_x30 => k_is)
    (case cd_x30 => k_is)
    (case kp_x30 => k_is)
    (case ns_x31 => k_is)
    (case lk_x31 => k_is)
    (case cd_x31 => k_is)
    (case kp_x31 => k_is)
    (case ns_x32 => k_is)
    (case lk_x32 => k_is)
    (case cd_x32 => k_is)
    (case kp_x32 => k_is)
    (case ns_x33 => k_is)
    (case lk_x33 => k_is)
    (case cd_x33 => k_is)
    (case kp_x33 => k_is)
    (case ns_x34 => k_is)
    (case lk_x34 => k_is)
    (case cd_x34 => k_is)
    (case kp_x34 => k_is)
    (case ns_x35 => k_is)
    (case lk_x35 => k_is)
    (case cd_x35 => k_is)
    (case kp_x35 => k_is)
    (case ns_x36 => k_is)
    (case lk_x36 => k_is)
    (case cd_x36 => k_is)
    (case kp_x36 => k_is)
    (case ns_x37 => k_is)
    (case lk_x37 => k_is)
    (case cd_x37 => k_is)
    (case kp_x37 => k_is)
    (case z_all => k_is)
    (case z_bool => k_is)
    (case z_dict => k_is)
    (case z_enumerate => k_is)
    (case z_int => k_is)
    (case z_isinstance => k_is)
    (case z_len => k_is)
    (case z_list => k_is)
    (case z_min => k_is)
    (case z_range => k_is)
    (case z_str => k_is)
    (case z_sum => k_is)
    (case z_tuple => k_is)
    (case z_zip => k_is)
#print axioms PySem.Challenge.cw_neverhalf_k01_whole_sums_of_long_lists_holds
