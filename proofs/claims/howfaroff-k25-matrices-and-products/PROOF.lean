import PyProof.Rows.All
import Wide.All
import OpenK.AllK
import Wide.FinOn
import HandS.ForMost
import HandS.ForExc
import HandS.Walk
import HandS.Lambda
import HandS.TupAny
import HandS.TupMul
import HandS.TupLe
import HandS.IsInst
import HandS.Flow
import KE.GoesEnum
import HandS.Comp
import HandS.WordsExc
import HandS.List
import HandS.Call
import PyProof.WalkInts
import HandS.Defaults
import HandS.ExcCtx
import KE.KExcSuper
import KE.KSuper
import HandS.Base
import HandS.Exc
import HandS.ExcInit
import KE.KExcIs
import HandS.ExcField
import HandS.ExcIs
import KE.KLam
import PyProof.MakeMany
import HandS.Codes
import PyProof.CodeObj
import HandS.TryOnly
import HandS.MakeKwOnly
import PyProof.InstNe
import HandS.More
import HandS.OwnEq
import HandS.Zip0
import HandS.MapObj
import HandS.Star
import HandS.ExcValue
import HandS.Iter
import PySem.Challenge.RW_howfaroff_k25_matrices_and_products
import HandS.EndTab
-- DCore
set_option Elab.async false
set_option linter.all false
set_option maxRecDepth 100000
set_option maxHeartbeats 4000000
/-! DCore: data by value (D), how they stand in the abstract heap (Rep), the relation of a plain state to a frame's (Rel), judgements by plain functions -/
namespace DL
open PySem PySem.Spec PyProof.Rows L2

abbrev Sg := L2.St
/-- data by value -/
inductive D where
  | non | bl (b : Bool) | int (i : Int) | str (x : Str)
  | lst (xs : List D) | tup (xs : List D)
  | obj (C : Addr) (ns : List Str) (ds : List D)
  | exc (C : Addr) (ns : List Str) (ds : List D)
  | pen
  /-- the script: a list that may be frozen; it is only cut -/
  | scr (xs : List D)

/-- what holds through a whole def: the written part, the address of what draws -/
structure Bs where
  K : PySem.W.Frag
  p : Option Addr
  T : List (Addr × Str) := []
/-- neither what draws nor a table of code objects -/
def Bs.cold (B : Bs) (a : Addr) : Prop := B.p ≠ some a ∧ ∀ q, (a, q) ∉ B.T

/-- an exception held as a value: the object at a, its dict at dx -/
def ExcO (C dx : Addr) (a : Addr) : HO := .ext fun h => ∃ (oe : Obj) (vs : Array Value), h.get? a = some oe ∧ oe.cls = .ref C ∧ oe.dict = some dx ∧ oe.data = .fields vs

mutual
def Rep (B : Bs) (G : Hp) : D → V → Prop
  | .non, v => v = .non
  | .bl b, v => v = .bl b
  | .int i, v => v = .int i
  | .str x, v => v = .str x
  | .lst ds, v => ∃ a vs, v = .ref a ∧ G a = some (.lst vs) ∧ Reps B G ds vs
  | .tup ds, v => ∃ a vs, v = .ref a ∧ SqT B.K G a vs ∧ Reps B G ds vs
  | .obj C ns ds, v => ∃ a dx fs, v = .ref a ∧ G a = some (.ins C dx fs) ∧ fs.map (·.1) = ns ∧ Reps B G ds (fs.map (·.2))
  | .exc C ns ds, v => ∃ a dx fs, v = .ref a ∧ G a = some (ExcO C dx a) ∧ G dx = some (.xd fs) ∧ fs.map (·.1) = ns ∧ Reps B G ds (fs.map (·.2))
  | .pen, v => ∃ a, B.p = some a ∧ v = .ref a
  | .scr ds, v => ∃ a vs, v = .ref a ∧ SqL B.K G a vs ∧ Reps B G ds vs
def Reps (B : Bs) (G : Hp) : List D → List V → Prop
  | [], vs => vs = []
  | d :: ds, vs => ∃ v r, vs = v :: r ∧ Rep B G d v ∧ Reps B G ds r
end

section
variable {B : Bs} {G G' H H' : Hp} {d : D} {ds es : List D} {v : V} {vs us : List V}
theorem rd_mono {a : Addr} {u : HO} (e : Same H H') (h : Rd H a u) : Rd H' a u := by
  rcases h with h | ⟨o, h⟩
  · exact .inl (e _ _ h)
  · exact .inr ⟨o, e _ _ h⟩
theorem sqL_mono {K : PySem.W.Frag} {a : Addr} (e : Same H H') (h : SqL K H a vs) : SqL K H' a vs := by
  rcases h with h | h
  · exact .inl (rd_mono e h)
  · exact .inr h
theorem sqT_mono {K : PySem.W.Frag} {a : Addr} (e : Same H H') (h : SqT K H a vs) : SqT K H' a vs := by
  rcases h with h | h
  · exact .inl (rd_mono e h)
  · exact .inr h
mutual
theorem Rep.mono (e : Same G G') : ∀ (d : D) (v : V), Rep B G d v → Rep B G' d v
  | .non, _, h => h
  | .bl _, _, h => h
  | .int _, _, h => h
  | .str _, _, h => h
  | .lst ds, v, h => by
    obtain ⟨a, vs, h1, h2, h3⟩ := h
    exact ⟨a, vs, h1, e _ _ h2, Reps.mono e ds vs h3⟩
  | .tup ds, v, h => by
    obtain ⟨a, vs, h1, h2, h3⟩ := h
    exact ⟨a, vs, h1, sqT_mono e h2, Reps.mono e ds vs h3⟩
  | .obj C ns ds, v, h => by
    obtain ⟨a, dx, fs, h1, h2, h3, h4⟩ := h
    exact ⟨a, dx, fs, h1, e _ _ h2, h3, Reps.mono e ds _ h4⟩
  | .exc C ns ds, v, h => by
    obtain ⟨a, dx, fs, h1, h2, h3, h4, h5⟩ := h
    exact ⟨a, dx, fs, h1, e _ _ h2, e _ _ h3, h4, Reps.mono e ds _ h5⟩
  | .pen, _, h => h
  | .scr ds, v, h => by
    obtain ⟨a, vs, h1, h2, h3⟩ := h
    exact ⟨a, vs, h1, sqL_mono e h2, Reps.mono e ds vs h3⟩
theorem Reps.mono (e : Same G G') : ∀ (ds : List D) (vs : List V), Reps B G ds vs → Reps B G' ds vs
  | [], _, h => h
  | d :: ds, vs, h => by
    obtain ⟨v, r, h1, h2, h3⟩ := h
    exact ⟨v, r, h1, Rep.mono e d v h2, Reps.mono e ds r h3⟩
end
theorem Reps.nil : Reps B G [] [] := rfl
theorem Reps.cons (h : Rep B G d v) (t : Reps B G ds vs) : Reps B G (d :: ds) (v :: vs) := ⟨v, vs, rfl, h, t⟩
theorem Reps.length : ∀ {ds : List D} {vs : List V}, Reps B G ds vs → ds.length = vs.length
  | [], _, h => by cases h; rfl
  | _ :: _, _, ⟨_, _, e, _, t⟩ => by subst e; simp [Reps.length t]
theorem Reps.get : ∀ {ds : List D} {vs : List V} {i : Nat} {d : D}, Reps B G ds vs → ds[i]? = some d → ∃ v, vs[i]? = some v ∧ Rep B G d v
  | [], _, _, _, _, e => by simp at e
  | _ :: _, _, 0, _, ⟨v, r, e1, h, t⟩, e => by subst e1; simp at e; subst e; exact ⟨v, rfl, h⟩
  | _ :: _, _, i + 1, d, ⟨v, r, e1, h, t⟩, e => by
    subst e1
    obtain ⟨w, h1, h2⟩ := Reps.get (i := i) (d := d) t (by simpa using e)
    exact ⟨w, by simpa using h1, h2⟩
theorem Reps.append : ∀ {ds es : List D} {vs us : List V}, Reps B G ds vs → Reps B G es us → Reps B G (ds ++ es) (vs ++ us)
  | [], _, _, _, h, t => by cases h; exact t
  | _ :: _, _, _, _, ⟨v, r, e, h, q⟩, t => by subst e; exact .cons h (Reps.append q t)
theorem Reps.snoc (h : Reps B G ds vs) (q : Rep B G d v) : Reps B G (ds ++ [d]) (vs ++ [v]) := h.append (.cons q .nil)
theorem Reps.take : ∀ {ds : List D} {vs : List V} (n : Nat), Reps B G ds vs → Reps B G (ds.take n) (vs.take n)
  | _, _, 0, _ => by simp [Reps]
  | [], _, n + 1, h => by cases h; rfl
  | _ :: _, _, n + 1, ⟨v, r, e, h, t⟩ => by subst e; exact .cons h (Reps.take n t)
theorem Reps.drop : ∀ {ds : List D} {vs : List V} (n : Nat), Reps B G ds vs → Reps B G (ds.drop n) (vs.drop n)
  | _, _, 0, h => by simpa using h
  | [], _, n + 1, h => by cases h; rfl
  | _ :: _, _, n + 1, ⟨v, r, e, h, t⟩ => by subst e; exact Reps.drop n t
theorem Reps.set : ∀ {ds : List D} {vs : List V} (n : Nat), Reps B G ds vs → Rep B G d v → Reps B G (ds.set n d) (vs.set n v)
  | [], _, _, h, _ => by cases h; rfl
  | _ :: _, _, 0, ⟨w, r, e, h, t⟩, q => by subst e; exact .cons q t
  | _ :: _, _, n + 1, ⟨w, r, e, h, t⟩, q => by subst e; exact .cons h (Reps.set n t q)
end

/-! ### what draws -/
structure Pen where
  cells : List Int
  turn : Int
  rest : Int
structure PenOk (B : Bs) (G H : Hp) (P : Pen) : Prop where
  pen : ∀ a, B.p = some a → ∃ c, H a = some (.lst [.ref c, .int P.turn, .int P.rest]) ∧ G c = some (.lst (P.cells.map V.int)) ∧ G a = none
  gT : ∀ a q, (a, q) ∈ B.T → G a = none
  tab : LamX.Tabs B.T H
theorem codeO_lst {c : Addr} {q : Str} {xs : List V} : LamX.CodeO c q ≠ .lst xs := fun z => by
  unfold LamX.CodeO at z
  cases z
theorem codeO_ins {c C dx : Addr} {q : Str} {fs : List (Str × V)} : LamX.CodeO c q ≠ .ins C dx fs := fun z => by
  unfold LamX.CodeO at z
  cases z
theorem tabs_upd {T : List (Addr × Str)} {H : Hp} {a : Addr} {o' : HO} (t : LamX.Tabs T H) (h1 : ∀ q, (a, q) ∉ T) (h2 : ∀ c q, H a ≠ some (LamX.CodeO c q)) : LamX.Tabs T (upd H a o') := fun p hp => by
  obtain ⟨ps, e1, e2, e3⟩ := t p hp
  have n1 : p.1 ≠ a := fun z => h1 p.2 (by rw [← z]; exact hp)
  refine ⟨ps, by rw [upd_ne n1]; exact e1, e2, fun pos cv hc => ?_⟩
  obtain ⟨c, c1, c2⟩ := e3 pos cv hc
  have n2 : c ≠ a := fun z => h2 c p.2 (by rw [← z]; exact c2)
  exact ⟨c, c1, by rw [upd_ne n2]; exact c2⟩

/-! ### a frame's plain state -/
/-- a slot: nothing known, a value that stays, an object of the frame's own that it changes -/
inductive Sl where
  | un | va (d : D) | ow (d : D)
structure Z where
  S : List Sl
  P : Pen

/-- an own object -/
def OwR (B : Bs) (G : Hp) (o : HO) (d : D) : Prop :=
  (∃ ds vs, d = .lst ds ∧ o = .lst vs ∧ Reps B G ds vs) ∨ (∃ C ns ds dx fs, d = .obj C ns ds ∧ o = .ins C dx fs ∧ fs.map (·.1) = ns ∧ Reps B G ds (fs.map (·.2)))
theorem OwR.mono {B : Bs} {G G' : Hp} {o : HO} {d : D} (e : Same G G') (h : OwR B G o d) : OwR B G' o d := by
  rcases h with ⟨ds, vs, h1, h2, h3⟩ | ⟨C, ns, ds, dx, fs, h1, h2, h3, h4⟩
  · exact .inl ⟨ds, vs, h1, h2, Reps.mono e _ _ h3⟩
  · exact .inr ⟨C, ns, ds, dx, fs, h1, h2, h3, Reps.mono e _ _ h4⟩

/-- G: what is known for ever; H: all that is tracked now; G0, H0: the same when the frame (or the block) began -/
structure Rel (B : Bs) (G0 H0 : Hp) (z : Z) (G H : Hp) (σ : Sg) : Prop where
  ex : Same G H
  g0 : Same G0 G
  fr : ∀ a o, H0 a = some o → B.cold a → H a = some o
  nw : ∀ a o, G a = some o → G0 a = some o ∨ H0 a = none
  pen : PenOk B G H z.P
  va : ∀ (i : Nat) (d : D), z.S[i]? = some (.va d) → ∃ v, σ[i]? = some (some v) ∧ Rep B G d v
  ow : ∀ (i : Nat) (d : D), z.S[i]? = some (.ow d) → ∃ a o, σ[i]? = some (some (.ref a)) ∧ H a = some o ∧ G a = none ∧ OwR B G o d ∧ H0 a = none ∧ B.cold a
  ap : ∀ (i j : Nat) (d e : D) (a : Addr), z.S[i]? = some (.ow d) → z.S[j]? = some (.ow e) → i ≠ j → σ[i]? = some (some (.ref a)) → σ[j]? = some (some (.ref a)) → False

/-- G and H grow, nothing else -/
structure Grow (G H G' H' : Hp) : Prop where
  g : Same G G'
  h : Same H H'
  ex : Same G' H'
  nw : ∀ a o, G' a = some o → G a = some o ∨ H a = none
/-- .. or what draws is turned -/
structure GrowP (B : Bs) (G H G' H' : Hp) (P' : Pen) : Prop where
  g : Same G G'
  h : ∀ a o, H a = some o → B.cold a → H' a = some o
  ex : Same G' H'
  nw : ∀ a o, G' a = some o → G a = some o ∨ H a = none
  pen : PenOk B G' H' P'

section
variable {B : Bs} {G0 H0 G H G' H' G1 H1 : Hp} {z : Z} {σ : Sg}
theorem PenOk.mono {P : Pen} (h : PenOk B G H P) (g : Same G G') (hh : Same H H') (nw : ∀ a o, G' a = some o → G a = some o ∨ H a = none) : PenOk B G' H' P := by
  refine ⟨fun a e => ?_, fun a q hq => ?_, h.tab.ext hh⟩
  · obtain ⟨c, h1, h2, h3⟩ := h.pen a e
    refine ⟨c, hh _ _ h1, g _ _ h2, ?_⟩
    cases q : G' a with
    | none => rfl
    | some o =>
      rcases nw a o q with z | z
      · rw [h3] at z; cases z
      · rw [h1] at z; cases z
  · cases e : G' a with
    | none => rfl
    | some o =>
      rcases nw a o e with z | z
      · rw [h.gT a q hq] at z; cases z
      · obtain ⟨ps, t1, _⟩ := h.tab _ hq
        rw [t1] at z; cases z
/-- what is not tracked is neither -/
theorem PenOk.cold {P : Pen} (h : PenOk B G H P) {a : Addr} (n : H a = none) : B.cold a := by
  refine ⟨fun e => ?_, fun q hq => ?_⟩
  · obtain ⟨c, h1, _⟩ := h.pen a e
    rw [n] at h1; cases h1
  · obtain ⟨ps, t1, _⟩ := h.tab _ hq
    rw [n] at t1; cases t1
/-- what is neither: where it is changed, they stay -/
theorem PenOk.upd {P : Pen} (h : PenOk B G H P) {a : Addr} {o' : HO} (n : B.cold a) (h2 : ∀ c q, H a ≠ some (LamX.CodeO c q)) : PenOk B G (L2.upd H a o') P := by
  refine ⟨fun b e => ?_, h.gT, tabs_upd h.tab n.2 h2⟩
  obtain ⟨c, h1, h3, h4⟩ := h.pen b e
  have ne : b ≠ a := fun z => n.1 (by rw [← z]; exact e)
  exact ⟨c, by rw [upd_ne ne]; exact h1, h3, h4⟩
/-- .. where it is told, they stay -/
theorem PenOk.tell {P : Pen} (h : PenOk B G H P) {a : Addr} {o : HO} (n : B.cold a) (hn : G a = none) : PenOk B (L2.upd G a o) H P := by
  have sG : Same G (L2.upd G a o) := fun b u q => by rw [upd_ne (ne_of_none q hn)]; exact q
  refine ⟨fun b e => ?_, fun b q hq => ?_, h.tab⟩
  · obtain ⟨c, h1, h3, h4⟩ := h.pen b e
    have ne : b ≠ a := fun z => n.1 (by rw [← z]; exact e)
    exact ⟨c, h1, sG _ _ h3, by rw [upd_ne ne]; exact h4⟩
  · have ne : b ≠ a := fun z => n.2 q (by rw [← z]; exact hq)
    rw [upd_ne ne]; exact h.gT b q hq
theorem Grow.refl (e : Same G H) : Grow G H G H := ⟨Same.refl _, Same.refl _, e, fun _ _ q => .inl q⟩
theorem Same.dom (e : Same H H') {a : Addr} (h : H' a = none) : H a = none := by
  cases q : H a with
  | none => rfl
  | some o => rw [e a o q] at h; cases h
theorem Grow.trans (a : Grow G H G1 H1) (b : Grow G1 H1 G' H') : Grow G H G' H' :=
  ⟨a.g.trans b.g, a.h.trans b.h, b.ex, fun c o q => by
    rcases b.nw c o q with z | z
    · exact a.nw c o z
    · exact .inr (Same.dom a.h z)⟩
theorem Grow.toP {P : Pen} (a : Grow G H G' H') (h : PenOk B G H P) : GrowP B G H G' H' P := ⟨a.g, fun b o q _ => a.h b o q, a.ex, a.nw, h.mono a.g a.h a.nw⟩
/-- a new object, known for ever -/
theorem Grow.new {p : Addr} {o : HO} (e : Same G H) (n : H p = none) : Grow G H (upd G p o) (upd H p o) := by
  have nG : G p = none := Same.dom e n
  refine ⟨fun a u q => ?_, fun a u q => ?_, fun a u q => ?_, fun a u q => ?_⟩
  · rw [upd_ne (ne_of_none q nG)]; exact q
  · rw [upd_ne (ne_of_none q n)]; exact q
  · by_cases h : a = p
    · subst h; rw [upd_same] at q ⊢; exact q
    · rw [upd_ne h] at q ⊢; exact e _ _ q
  · by_cases h : a = p
    · subst h; exact .inr n
    · rw [upd_ne h] at q; exact .inl q
/-- a new object that is not told -/
theorem Grow.own {p : Addr} {o : HO} (e : Same G H) (n : H p = none) : Grow G H G (upd H p o) := by
  refine ⟨Same.refl _, fun a u q => ?_, fun a u q => ?_, fun a u q => .inl q⟩
  · rw [upd_ne (ne_of_none q n)]; exact q
  · rw [upd_ne (ne_of_none (e _ _ q) n)]; exact e _ _ q
theorem Rel.growP {P' : Pen} (R : Rel B G0 H0 z G H σ) (g : GrowP B G H G' H' P') : Rel B G0 H0 ⟨z.S, P'⟩ G' H' σ where
  ex := g.ex
  g0 := R.g0.trans g.g
  fr := fun a o q n => g.h a o (R.fr a o q n) n
  nw := fun a o q => by
    rcases g.nw a o q with h | h
    · exact R.nw a o h
    · cases q0 : H0 a with
      | none => exact .inr rfl
      | some u =>
        have hp : B.cold a := R.pen.cold h
        rw [R.fr a u q0 hp] at h; cases h
  pen := g.pen
  va := fun i d q => by
    obtain ⟨v, h1, h2⟩ := R.va i d q
    exact ⟨v, h1, Rep.mono g.g _ _ h2⟩
  ow := fun i d q => by
    obtain ⟨a, o, h1, h2, h3, h4, h5, h6⟩ := R.ow i d q
    refine ⟨a, o, h1, g.h a o h2 h6, ?_, h4.mono g.g, h5, h6⟩
    cases q : G' a with
    | none => rfl
    | some u =>
      rcases g.nw a u q with y | y
      · rw [h3] at y; cases y
      · rw [h2] at y; cases y
  ap := R.ap
theorem Rel.grow (R : Rel B G0 H0 z G H σ) (g : Grow G H G' H') : Rel B G0 H0 z G' H' σ := R.growP (P' := z.P) (g.toP R.pen)
end

/-! ### results -/
/-- an exception -/
structure XD where
  C : Addr
  ns : List Str
  ds : List D
/-- it lies there -/
def XRep (B : Bs) (G H : Hp) (x : XD) (dx : Addr) : Prop := ∃ fs, G dx = some (.xd fs) ∧ fs.map (·.1) = x.ns ∧ Reps B G x.ds (fs.map (·.2))
abbrev Rs (α : Type) := Except XD α
abbrev M (α : Type) := Z → Option (Rs α × Z)

/-- what must hold behind: of a value k, of an exception W -/
def After {α : Type} (B : Bs) (W : XK) (G0 H0 G : Hp) (σ : Sg) (r : Rs α) (z' : Z) (k : α → Hp → Hp → Prop) : Prop := match r with
  | .ok a => ∀ G' H', Rel B G0 H0 z' G' H' σ → Same G G' → k a G' H'
  | .error x => ∀ dx G' H', Rel B G0 H0 z' G' H' σ → Same G G' → XRep B G' H' x dx → W (.ref x.C) (some dx) H'
/-- an expression gives what the plain function gives -/
def tD (B : Bs) (W : XK) (m : M D) : TE := fun σ H Q => ∃ G0 H0 G z r z', Rel B G0 H0 z G H σ ∧ m z = some (r, z') ∧ After B W G0 H0 G σ r z' fun d G' H' => ∀ v, Rep B G' d v → Q v H'
def tDs (B : Bs) (W : XK) (m : M (List D)) : TA := fun σ H Q => ∃ G0 H0 G z r z', Rel B G0 H0 z G H σ ∧ m z = some (r, z') ∧ After B W G0 H0 G σ r z' fun ds G' H' => ∀ vs, Reps B G' ds vs → Q vs H'
def tDt (B : Bs) (W : XK) (m : M Bool) : TT := fun σ H Q => ∃ G0 H0 G z r z', Rel B G0 H0 z G H σ ∧ m z = some (r, z') ∧ After B W G0 H0 G σ r z' fun b _ H' => Q b H'
abbrev DE (X : Cx) (B : Bs) (W : XK) (e : Expr) (m : M D) : Prop := PE X e (tD B W m)
abbrev DA (X : Cx) (B : Bs) (W : XK) (es : List Expr) (m : M (List D)) : Prop := PA X es (tDs B W m)
abbrev DT (X : Cx) (B : Bs) (W : XK) (e : Expr) (m : M Bool) : Prop := PT X e (tDt B W m)

theorem PE.imp {X : Cx} {e : Expr} {t t' : TE} (h : PE X e t) (i : ∀ σ H Q, t' σ H Q → t σ H Q) : PE X e t' := ⟨fun pins s σ H Q I q => h.run pins s σ H Q I (i _ _ _ q)⟩
theorem PA.imp {X : Cx} {es : List Expr} {t t' : TA} (h : PA X es t) (i : ∀ σ H Q, t' σ H Q → t σ H Q) : PA X es t' := ⟨fun pos pins s σ H Q I q => h.run pos pins s σ H Q I (i _ _ _ q)⟩
theorem PT.imp {X : Cx} {e : Expr} {t t' : TT} (h : PT X e t) (i : ∀ σ H Q, t' σ H Q → t σ H Q) : PT X e t' := ⟨fun pins s σ H Q I q => h.run pins s σ H Q I (i _ _ _ q)⟩
theorem PW.imp {X : Cx} {e : Expr} {t t' : TT} (h : PW X e t) (i : ∀ σ H Q, t' σ H Q → t σ H Q) : PW X e t' := ⟨fun wh pins s σ H Q I q => h.run wh pins s σ H Q I (i _ _ _ q)⟩
theorem PS.imp {X : Cx} {e : Stmt} {t t' : TS} (h : PS X e t) (i : ∀ D σ H, t' D σ H → t D σ H) : PS X e t' := ⟨fun pins s σ H D I q => h.run pins s σ H D I (i _ _ _ q)⟩
theorem PSs.imp {X : Cx} {e : List Stmt} {t t' : TS} (h : PSs X e t) (i : ∀ D σ H, t' D σ H → t D σ H) : PSs X e t' := ⟨fun pins s σ H D I q => h.run pins s σ H D I (i _ _ _ q)⟩

/-! ### plain functions -/
def ret {α : Type} (a : α) : M α := fun z => some (.ok a, z)
def bnd {α β : Type} (m : M α) (f : α → M β) : M β := fun z => match m z with
  | some (.ok a, z1) => f a z1
  | some (.error x, z1) => some (.error x, z1)
  | none => none
def lft {α : Type} (o : Option α) : M α := fun z => match o with
  | some a => some (.ok a, z)
  | none => none
theorem bnd_ok {α β : Type} {m : M α} {f : α → M β} {z z' : Z} {r : Rs β} (h : bnd m f z = some (r, z')) :
    (∃ a z1, m z = some (.ok a, z1) ∧ f a z1 = some (r, z')) ∨ (∃ x, m z = some (.error x, z') ∧ r = .error x) := by
  unfold bnd at h
  split at h
  · rename_i a z1 e
    exact .inl ⟨a, z1, e, h⟩
  · rename_i x z1 e
    injection h with h
    injection h with h1 h2
    subst h1 h2
    exact .inr ⟨x, e, rfl⟩
  · cases h
theorem lft_ok {α : Type} {o : Option α} {z z' : Z} {r : Rs α} (h : lft o z = some (r, z')) : ∃ a, o = some a ∧ r = .ok a ∧ z' = z := by
  cases o with
  | none => cases h
  | some a =>
    injection h with h
    injection h with h1 h2
    exact ⟨a, rfl, h1.symm, h2.symm⟩

section
variable {B : Bs} {W : XK} {G0 H0 G G1 H H1 : Hp} {σ : Sg} {z z' : Z}
theorem After.up {α : Type} {r : Rs α} {k : α → Hp → Hp → Prop} (h : After B W G0 H0 G σ r z' k) (s : Same G G1) : After B W G0 H0 G1 σ r z' k := by
  cases r with
  | ok a => exact fun G' H' R s' => h G' H' R (s.trans s')
  | error x => exact fun dx G' H' R s' q => h dx G' H' R (s.trans s') q
theorem After.bnd {α β : Type} {m : M α} {f : α → M β} {r : Rs β} {k : β → Hp → Hp → Prop} {K : α → Hp → Hp → Prop} (hm : bnd m f z = some (r, z')) (hA : After B W G0 H0 G σ r z' k)
    (hf : ∀ a z1 G1 H1, Rel B G0 H0 z1 G1 H1 σ → Same G G1 → f a z1 = some (r, z') → After B W G0 H0 G1 σ r z' k → K a G1 H1) : ∃ r1 z1, m z = some (r1, z1) ∧ After B W G0 H0 G σ r1 z1 K := by
  rcases bnd_ok hm with ⟨a, z1, m1, h⟩ | ⟨x, m1, rfl⟩
  · exact ⟨_, _, m1, fun G1 H1 R1 s1 => hf a z1 G1 H1 R1 s1 h (hA.up s1)⟩
  · exact ⟨_, _, m1, hA⟩
theorem After.lft {α : Type} {o : Option α} {r : Rs α} {k : α → Hp → Hp → Prop} (hm : DL.lft o z = some (r, z')) (hA : After B W G0 H0 G σ r z' k) : ∃ a, o = some a ∧ ∀ G' H', Rel B G0 H0 z G' H' σ → Same G G' → k a G' H' := by
  obtain ⟨a, e, rfl, rfl⟩ := lft_ok hm
  exact ⟨a, e, hA⟩
end

/-- the slot i, a value -/
def mVar (i : Nat) : M D := fun z => match z.S[i]? with
  | some (.va d) => some (.ok d, z)
  | some (.ow d) => match d with
    | .lst _ => some (.ok d, ⟨z.S.set i (.va d), z.P⟩)
    | .obj _ _ _ => some (.ok d, ⟨z.S.set i (.va d), z.P⟩)
    | _ => none
  | _ => none

section
variable {X : Cx} {B : Bs} {W : XK} {pos : Pos} {a b c e : Expr} {ma mb : M D}
theorem de_ret {d : D} {v : V} (h : PE X e (tC v)) (r : ∀ G, Rep B G d v) : DE X B W e (ret d) := PE.imp h fun σ H Q ⟨G0, H0, G, z, r0, z', R, hm, hA⟩ => by
  injection hm with hm
  injection hm with e1 e2
  subst e1 e2
  exact hA G H R (Same.refl _) v (r G)
theorem de_int {i j} : DE X B W (.Constant (.int i) j pos) (ret (.int i)) := de_ret pe_int fun _ => rfl
theorem de_bl {i j} : DE X B W (.Constant (.bool i) j pos) (ret (.bl i)) := de_ret pe_bl fun _ => rfl
theorem de_non {j} : DE X B W (.Constant .none j pos) (ret .non) := de_ret pe_non fun _ => rfl
theorem de_str {x j} : DE X B W (.Constant (.str x) j pos) (ret (.str x)) := de_ret pe_str fun _ => rfl

/-- an own object is told from now on -/
theorem Rel.freeze {G0 H0 G H : Hp} {z : Z} {σ : Sg} {i : Nat} {d : D} (R : Rel B G0 H0 z G H σ) (hi : z.S[i]? = some (.ow d)) :
    ∃ (a : Addr) (G' : Hp), σ[i]? = some (some (.ref a)) ∧ Rep B G' d (.ref a) ∧ Same G G' ∧ Rel B G0 H0 ⟨z.S.set i (.va d), z.P⟩ G' H σ := by
  obtain ⟨a, o, h1, h2, h3, h4, h5, h6⟩ := R.ow i d hi
  have sG : Same G (upd G a o) := fun b u q => by rw [upd_ne (ne_of_none q h3)]; exact q
  have rep : Rep B (upd G a o) d (.ref a) := by
    rcases h4.mono sG with ⟨ds, vs, rfl, rfl, q⟩ | ⟨C, ns, ds, dx, fs, rfl, rfl, q1, q2⟩
    · exact ⟨a, vs, rfl, upd_same, q⟩
    · exact ⟨a, dx, fs, rfl, upd_same, q1, q2⟩
  refine ⟨a, upd G a o, h1, rep, sG, ⟨fun b u q => ?_, R.g0.trans sG, R.fr, fun b u q => ?_, R.pen.tell h6 h3, fun j e q => ?_, fun j e q => ?_, fun j k x y b q1 q2 ne => ?_⟩⟩
  · by_cases hb : b = a
    · subst hb; rw [upd_same] at q; cases q; exact h2
    · rw [upd_ne hb] at q; exact R.ex _ _ q
  · by_cases hb : b = a
    · subst hb; exact .inr h5
    · rw [upd_ne hb] at q; exact R.nw _ _ q
  · by_cases hj : i = j
    · subst hj
      rw [List.getElem?_set_self (List.getElem?_eq_some_iff.mp hi).1] at q
      cases q
      exact ⟨_, h1, rep⟩
    · rw [List.getElem?_set_ne hj] at q
      obtain ⟨v, q1, q2⟩ := R.va j e q
      exact ⟨v, q1, Rep.mono sG _ _ q2⟩
  · by_cases hj : i = j
    · subst hj
      rw [List.getElem?_set_self (List.getElem?_eq_some_iff.mp hi).1] at q
      cases q
    · rw [List.getElem?_set_ne hj] at q
      obtain ⟨b, u, q1, q2, q3, q4, q5, q6⟩ := R.ow j e q
      have ne : b ≠ a := fun z => R.ap i j d e a hi q hj h1 (by rw [← z]; exact q1)
      exact ⟨b, u, q1, q2, by rw [upd_ne ne]; exact q3, q4.mono sG, q5, q6⟩
  · have n1 : i ≠ j := fun z => by subst z; rw [List.getElem?_set_self (List.getElem?_eq_some_iff.mp hi).1] at q1; cases q1
    have n2 : i ≠ k := fun z => by subst z; rw [List.getElem?_set_self (List.getElem?_eq_some_iff.mp hi).1] at q2; cases q2
    rw [List.getElem?_set_ne n1] at q1
    rw [List.getElem?_set_ne n2] at q2
    exact R.ap j k x y b q1 q2 ne

theorem de_var {i : Nat} (h : PE X e (tVar i)) : DE X B W e (mVar i) := PE.imp h fun σ H Q ⟨G0, H0, G, z, r, z', R, hm, hA⟩ => by
  unfold mVar at hm
  split at hm
  · rename_i d hd
    injection hm with hm
    injection hm with e1 e2
    subst e1 e2
    obtain ⟨v, q1, q2⟩ := R.va i d hd
    exact ⟨v, q1, hA G H R (Same.refl _) v q2⟩
  · rename_i d hd
    have key : some (Except.ok d, (⟨z.S.set i (.va d), z.P⟩ : Z)) = some (r, z') → tVar i σ H Q := fun hm => by
      injection hm with hm
      injection hm with e1 e2
      subst e1 e2
      obtain ⟨a, G', q1, q2, q3, q4⟩ := R.freeze hd
      exact ⟨_, q1, hA G' H q4 q3 _ q2⟩
    cases d with
    | lst ds => exact key hm
    | obj C ns ds => exact key hm
    | _ => cases hm
  · cases hm

/-! ### two operands -/
/-- a plain two-place operation by values -/
def rD (B : Bs) (f : D → D → Option D) : R2 := fun x y H Q => ∃ G P d e r, Same G H ∧ PenOk B G H P ∧ Rep B G d x ∧ Rep B G e y ∧ f d e = some r ∧ ∀ v G' H', Grow G H G' H' → Rep B G' r v → Q v H'
def mBin (f : D → D → Option D) (ma mb : M D) : M D := bnd ma fun d => bnd mb fun e => lft (f d e)
theorem tD_op {r : R2} {f : D → D → Option D} (hr : ∀ x y H Q, rD B f x y H Q → r x y H Q) (σ : Sg) (H : Hp) (Q : VK) (h : tD B W (mBin f ma mb) σ H Q) : tOp r (tD B W ma) (tD B W mb) σ H Q := by
  obtain ⟨G0, H0, G, z, r, z', R, hm, hA⟩ := h
  obtain ⟨r1, z1, m1, A1⟩ := After.bnd (K := fun d G1 H1 => ∀ v, Rep B G1 d v → tD B W mb σ H1 fun y H2 => _) hm hA fun d z1 G1 H1 R1 s1 hm hA v q1 => by
    obtain ⟨r2, z2, m2, A2⟩ := After.bnd (K := fun e G2 H2 => ∀ u, Rep B G2 e u → _) hm hA fun e z2 G2 H2 R2 s2 hm hA u q2 => by
      obtain ⟨y, hf, hA⟩ := hA.lft hm
      exact hr v u H2 Q ⟨G2, z2.P, d, e, y, R2.ex, R2.pen, Rep.mono s2 _ _ q1, q2, hf, fun w G3 H3 g q3 => hA G3 H3 (R2.grow g) g.g w q3⟩
    exact ⟨G0, H0, G1, z1, r2, z2, R1, m2, A2⟩
  exact ⟨G0, H0, G, z, r1, z1, R, m1, A1⟩
theorem de_op {op : Operator} {f : D → D → Option D} (ho : OpR X (binaryOp op) (rD B f)) (ha : DE X B W a ma) (hb : DE X B W b mb) : DE X B W (.BinOp a op b pos) (mBin f ma mb) :=
  PE.imp (pe_op ho ha hb) (tD_op fun _ _ _ _ h => h)
theorem de_cmp {op : CmpOp} {f : D → D → Option D} (ho : OpR X (compareOp op) (rD B f)) (ha : DE X B W a ma) (hb : DE X B W b mb) (hm : behindInMarks op b = false := by first | exact nobehind _ (by decide) (by decide) | rfl) : DE X B W (.Compare a [op] [b] pos) (mBin f ma mb) :=
  PE.imp (pe_cmpR ho ha hb hm) (tD_op fun _ _ _ _ h => h)
end
end DL

-- DOps
set_option maxHeartbeats 4000000
/-! DOps: operators, comparisons, subscripts, tests by plain functions -/
namespace DL
open PySem PySem.Spec PyProof.Rows L2

abbrev lim : Nat := 16777216
theorem lim_eq : sizeLine = lim := sizeLine_eq

/-! ### plain operators -/
def addD : D → D → Option D
  | .int i, .int j => some (.int (i + j))
  | .str x, .str y => if x.length + y.length ≤ lim then some (.str (x ++ y)) else none
  | .lst xs, .lst ys => if xs.length + ys.length ≤ lim then some (.lst (xs ++ ys)) else none
  | .tup xs, .tup ys => if xs.length + ys.length ≤ lim then some (.tup (xs ++ ys)) else none
  | _, _ => none
def subD : D → D → Option D
  | .int i, .int j => some (.int (i - j))
  | _, _ => none
def small64 (i : Int) : Bool := decide (-(2 ^ 64) < i ∧ i < 2 ^ 64)
/-- xs, k times -/
def repL {α : Type} (xs : List α) (k : Nat) : List α := (List.replicate k xs).flatten
def mulD : D → D → Option D
  | .int i, .int j => if small64 i || small64 j then some (.int (i * j)) else none
  | .lst xs, .int k => if -(2 ^ 63) ≤ k ∧ k < 2 ^ 63 ∧ xs.length * k.toNat ≤ lim then some (.lst (repL xs k.toNat)) else none
  | _, _ => none
def fdivD : D → D → Option D
  | .int i, .int j => if 0 < j ∧ j < 1073741824 then some (.int (i / j)) else none
  | _, _ => none
def modD : D → D → Option D
  | .int i, .int j => if 0 < j then some (.int (i % j)) else none
  | _, _ => none
def powD : D → D → Option D
  | .int i, .int j => if 0 ≤ j ∧ j ≤ 1000000 ∧ i.natAbs < 2 ^ 64 then some (.int (i ^ j.toNat)) else none
  | _, _ => none
def cmpI (f : Int → Int → Bool) : D → D → Option D
  | .int i, .int j => some (.bl (f i j))
  | _, _ => none
def ltD : D → D → Option D
  | .int i, .int j => some (.bl (decide (i < j)))
  | .str x, .str y => some (.bl (decide (x.cps.toList < y.cps.toList)))
  | _, _ => none

section
variable {X : Cx} {B : Bs} {H : Hp} {Q : VK} {x y : V}
theorem rD_mk {f : D → D → Option D} {op : Value → Value → Sem Value} (h : ∀ (d e r : D) (G : Hp) (P : Pen) (x y : V) (H : Hp) (Q : VK), Same G H → PenOk B G H P → Rep B G d x → Rep B G e y → f d e = some r → (∀ v G' H', Grow G H G' H' → Rep B G' r v → Q v H') →
    ∀ (pins : List (Addr × Obj)) (s : Shared) (σ : Sg) (v u : Value), Inv X pins σ H s → RelV x v → RelV y u → wpAny (model X.prog X.w) X.A (op v u) (EP X pins σ Q) X.xe s) : OpR X op (rD B f) := by
  intro pins s σ H x y v u Q I rx ry ⟨G, P, d, e, r, sg, pn, rd, re, hf, hq⟩
  exact h d e r G P x y H Q sg pn rd re hf hq pins s σ v u I rx ry
theorem op_addD (hK : B.K = X.K := by rfl) : OpR X (binaryOp .Add) (rD B addD) := rD_mk fun d e r G P x y H Q sg pn rd re hf hq pins s σ v u I rx ry => by
  unfold addD at hf
  split at hf
  · cases hf; cases rd; cases re
    exact op_add pins s σ H _ _ v u Q I rx ry ⟨_, _, rfl, rfl, hq _ G H (.refl sg) rfl⟩
  · split at hf <;> cases hf
    rename_i hl
    cases rd; cases re
    exact op_add_str pins s σ H _ _ v u Q I rx ry ⟨_, _, rfl, rfl, by rw [lim_eq]; exact hl, hq _ G H (.refl sg) rfl⟩
  · split at hf <;> cases hf
    rename_i hl
    obtain ⟨a, vs, rfl, h1, h2⟩ := rd
    obtain ⟨b, us, rfl, h3, h4⟩ := re
    have e1 := h2.length
    have e2 := h4.length
    refine op_cat pins s σ H _ _ v u Q I rx ry ⟨a, b, vs, us, rfl, rfl, sg _ _ h1, sg _ _ h3, by rw [lim_eq]; omega, fun p np => ?_⟩
    have g := Grow.new (o := .lst (vs ++ us)) sg np
    exact hq _ _ _ g ⟨p, _, rfl, upd_same, Reps.mono g.g _ _ (h2.append h4)⟩
  · split at hf <;> cases hf
    rename_i hl
    obtain ⟨a, vs, rfl, h1, h2⟩ := rd
    obtain ⟨b, us, rfl, h3, h4⟩ := re
    have e1 := h2.length
    have e2 := h4.length
    rw [hK] at h1 h3
    refine op_catA pins s σ H _ _ v u Q I rx ry ⟨a, b, vs, us, rfl, rfl, sqT_mono sg h1, sqT_mono sg h3, by rw [lim_eq]; omega, fun z => ?_, fun _ z => ?_, fun _ _ p np => ?_⟩
    · subst z
      have : _ = [] := List.eq_nil_of_length_eq_zero (e1.trans rfl)
      subst this
      exact hq _ G H (.refl sg) ⟨b, us, rfl, by rw [hK]; exact h3, h4⟩
    · subst z
      have : _ = [] := List.eq_nil_of_length_eq_zero (e2.trans rfl)
      subst this
      exact hq _ G H (.refl sg) ⟨a, vs, rfl, by rw [hK]; exact h1, by simpa using h2⟩
    · have g := Grow.new (o := .tup (vs ++ us)) sg np
      exact hq _ _ _ g ⟨p, _, rfl, .inl (.inl upd_same), Reps.mono g.g _ _ (h2.append h4)⟩
  · cases hf
theorem op_subD : OpR X (binaryOp .Sub) (rD B subD) := rD_mk fun d e r G P x y H Q sg pn rd re hf hq pins s σ v u I rx ry => by
  unfold subD at hf
  split at hf
  · cases hf; cases rd; cases re
    exact op_sub pins s σ H _ _ v u Q I rx ry ⟨_, _, rfl, rfl, hq _ G H (.refl sg) rfl⟩
  · cases hf
theorem Reps.flat {G : Hp} {ds : List D} {vs : List V} (h : Reps B G ds vs) : ∀ k : Nat, Reps B G (repL ds k) (repL vs k)
  | 0 => .nil
  | k + 1 => by
    unfold repL
    rw [List.replicate_succ, List.replicate_succ, List.flatten_cons, List.flatten_cons]
    exact h.append (Reps.flat h k)
theorem op_mulD : OpR X (binaryOp .Mult) (rD B mulD) := rD_mk fun d e r G P x y H Q sg pn rd re hf hq pins s σ v u I rx ry => by
  unfold mulD at hf
  split at hf
  · split at hf <;> cases hf
    rename_i hl
    cases rd; cases re
    refine op_mul pins s σ H _ _ v u Q I rx ry ⟨_, _, rfl, rfl, ?_, hq _ G H (.refl sg) rfl⟩
    simp only [small64, Bool.or_eq_true, decide_eq_true_eq] at hl
    exact hl
  · split at hf <;> cases hf
    rename_i hl
    obtain ⟨a, vs, rfl, h1, h2⟩ := rd
    cases re
    have e1 := h2.length
    refine op_rep pins s σ H _ _ v u Q I rx ry ⟨a, _, vs, rfl, rfl, sg _ _ h1, hl.1, hl.2.1, by rw [lim_eq, ← e1]; exact hl.2.2, fun p np => ?_⟩
    exact hq _ _ _ (Grow.new sg np) ⟨p, _, rfl, upd_same, Reps.mono (Grow.new sg np).g _ _ (h2.flat _)⟩
  · cases hf
theorem op_fdivD : OpR X (binaryOp .FloorDiv) (rD B fdivD) := rD_mk fun d e r G P x y H Q sg pn rd re hf hq pins s σ v u I rx ry => by
  unfold fdivD at hf
  split at hf
  · split at hf <;> cases hf
    rename_i hl
    cases rd; cases re
    exact op_fdiv pins s σ H _ _ v u Q I rx ry ⟨_, _, rfl, rfl, hl, hq _ G H (.refl sg) rfl⟩
  · cases hf
theorem op_modD : OpR X (binaryOp .Mod) (rD B modD) := rD_mk fun d e r G P x y H Q sg pn rd re hf hq pins s σ v u I rx ry => by
  unfold modD at hf
  split at hf
  · split at hf <;> cases hf
    rename_i hl
    cases rd; cases re
    exact op_mod pins s σ H _ _ v u Q I rx ry ⟨_, _, rfl, rfl, hl, hq _ G H (.refl sg) rfl⟩
  · cases hf
theorem op_powD : OpR X (binaryOp .Pow) (rD B powD) := rD_mk fun d e r G P x y H Q sg pn rd re hf hq pins s σ v u I rx ry => by
  unfold powD at hf
  split at hf
  · split at hf <;> cases hf
    rename_i hl
    cases rd; cases re
    exact op_pow pins s σ H _ _ v u Q I rx ry ⟨_, _, rfl, rfl, hl, hq _ G H (.refl sg) rfl⟩
  · cases hf
theorem op_cmpI {op : CmpOp} {f : Int → Int → Bool} (h : OpR X (compareOp op) (rI0 fun i j => .bl (f i j))) : OpR X (compareOp op) (rD B (cmpI f)) := rD_mk fun d e r G P x y H Q sg pn rd re hf hq pins s σ v u I rx ry => by
  unfold cmpI at hf
  split at hf
  · cases hf; cases rd; cases re
    exact h pins s σ H _ _ v u Q I rx ry ⟨_, _, rfl, rfl, hq _ G H (.refl sg) rfl⟩
  · cases hf
abbrev leD := cmpI fun i j => decide (i ≤ j)
abbrev gtD := cmpI fun i j => decide (j < i)
abbrev geD := cmpI fun i j => decide (j ≤ i)
theorem op_leD : OpR X (compareOp .LtE) (rD B leD) := op_cmpI op_le
theorem op_gtD : OpR X (compareOp .Gt) (rD B gtD) := op_cmpI op_gt
theorem op_geD : OpR X (compareOp .GtE) (rD B geD) := op_cmpI op_ge
theorem op_ltD : OpR X (compareOp .Lt) (rD B ltD) := rD_mk fun d e r G P x y H Q sg pn rd re hf hq pins s σ v u I rx ry => by
  unfold ltD at hf
  split at hf
  · cases hf; cases rd; cases re
    exact op_lt pins s σ H _ _ v u Q I rx ry ⟨_, _, rfl, rfl, hq _ G H (.refl sg) rfl⟩
  · cases hf; cases rd; cases re
    exact op_lt_str pins s σ H _ _ v u Q I rx ry ⟨_, _, rfl, rfl, hq _ G H (.refl sg) rfl⟩
  · cases hf

/-! ### == of data -/
mutual
def toP : D → Option PyData
  | .non => some .none
  | .bl b => some (.bool b)
  | .int i => some (.int i)
  | .str x => some (.str x)
  | .lst ds => (toPs ds).map .list
  | .tup ds => (toPs ds).map .tuple
  | .obj _ _ _ => none
  | .exc _ _ _ => none
  | .pen => none
  | .scr _ => none
def toPs : List D → Option (List PyData)
  | [] => some []
  | d :: ds => match toP d, toPs ds with
    | some p, some ps => some (p :: ps)
    | _, _ => none
end
mutual
theorem dp_of {G H : Hp} (sg : Same G H) : ∀ (d : D) (v : V) (p : PyData), toP d = some p → Rep B G d v → Dp B.K H v p
  | .non, v, p, h, r => by cases h; cases r; exact .non
  | .bl _, v, p, h, r => by cases h; cases r; exact .bl _
  | .int _, v, p, h, r => by cases h; cases r; exact .int _
  | .str _, v, p, h, r => by cases h; cases r; exact .str _
  | .lst ds, v, p, h, r => by
    obtain ⟨a, vs, rfl, h1, h2⟩ := r
    unfold toP at h
    cases q : toPs ds with
    | none => rw [q] at h; cases h
    | some ps =>
      rw [q] at h; cases h
      exact .lst (.inl (.inl (sg _ _ h1))) (dps_of sg ds vs ps q h2)
  | .tup ds, v, p, h, r => by
    obtain ⟨a, vs, rfl, h1, h2⟩ := r
    unfold toP at h
    cases q : toPs ds with
    | none => rw [q] at h; cases h
    | some ps =>
      rw [q] at h; cases h
      exact .tup (sqT_mono sg h1) (dps_of sg ds vs ps q h2)
  | .obj _ _ _, v, p, h, r => by cases h
  | .exc _ _ _, v, p, h, r => by cases h
  | .pen, v, p, h, r => by cases h
  | .scr _, v, p, h, r => by cases h
theorem dps_of {G H : Hp} (sg : Same G H) : ∀ (ds : List D) (vs : List V) (ps : List PyData), toPs ds = some ps → Reps B G ds vs → DpAll B.K H vs ps
  | [], vs, ps, h, r => by cases h; cases r; exact .nil
  | d :: ds, vs, ps, h, r => by
    obtain ⟨v, vr, rfl, h1, h2⟩ := r
    unfold toPs at h
    split at h
    · rename_i p pr q1 q2
      cases h
      exact .cons (dp_of sg d v p q1 h1) (dps_of sg ds vr pr q2 h2)
    · cases h
end
def eqB (d e : D) : Option Bool := match toP d, toP e with
  | some p, some q => if SeqAt.shaped p && SeqAt.shaped q then some (PyData.eqv p q) else none
  | _, _ => none
theorem eqB_some {d e : D} {b : Bool} (h : eqB d e = some b) : ∃ p q, toP d = some p ∧ toP e = some q ∧ SeqAt.shaped p = true ∧ SeqAt.shaped q = true ∧ b = PyData.eqv p q := by
  unfold eqB at h
  split at h
  · rename_i p q h1 h2
    split at h
    · rename_i hs
      cases h
      rw [Bool.and_eq_true] at hs
      exact ⟨p, q, h1, h2, hs.1, hs.2, rfl⟩
    · cases h
  · cases h
def eqD (d e : D) : Option D := (eqB d e).map .bl
def neD (d e : D) : Option D := (eqB d e).map fun b => .bl (!b)
theorem op_eqDD (hu : X.A.units + 64 < cLine) (hK : B.K = X.K := by rfl) : OpR X (compareOp .Eq) (rD B eqD) := rD_mk fun d e r G P x y H Q sg pn rd re hf hq pins s σ v u I rx ry => by
  unfold eqD at hf
  cases q : eqB d e with
  | none => rw [q] at hf; cases hf
  | some b =>
    rw [q] at hf; cases hf
    obtain ⟨p, p', h1, h2, h3, h4, rfl⟩ := eqB_some q
    have z1 := dp_of sg _ _ _ h1 rd
    have z2 := dp_of sg _ _ _ h2 re
    rw [hK] at z1 z2
    exact op_eqD hu pins s σ H _ _ v u Q I rx ry ⟨p, p', z1, z2, h3, h4, hq _ G H (.refl sg) rfl⟩
theorem op_neDD (hu : X.A.units + 64 < cLine) (hK : B.K = X.K := by rfl) : OpR X (compareOp .NotEq) (rD B neD) := rD_mk fun d e r G P x y H Q sg pn rd re hf hq pins s σ v u I rx ry => by
  unfold neD at hf
  cases q : eqB d e with
  | none => rw [q] at hf; cases hf
  | some b =>
    rw [q] at hf; cases hf
    obtain ⟨p, p', h1, h2, h3, h4, rfl⟩ := eqB_some q
    have z1 := dp_of sg _ _ _ h1 rd
    have z2 := dp_of sg _ _ _ h2 re
    rw [hK] at z1 z2
    exact op_neD hu pins s σ H _ _ v u Q I rx ry ⟨p, p', z1, z2, h3, h4, hq _ G H (.refl sg) rfl⟩

/-! ### is, in -/
def isNon : D → Bool
  | .non => true
  | _ => false
theorem isNon_rep {G : Hp} {d : D} {v : V} (h : Rep B G d v) : decide (v = .non) = isNon d := by
  cases d with
  | non => cases h; rfl
  | bl _ => cases h; rfl
  | int _ => cases h; rfl
  | str _ => cases h; rfl
  | lst _ => obtain ⟨a, vs, rfl, _⟩ := h; rfl
  | tup _ => obtain ⟨a, vs, rfl, _⟩ := h; rfl
  | obj _ _ _ => obtain ⟨a, _, _, rfl, _⟩ := h; rfl
  | exc _ _ _ => obtain ⟨a, _, _, rfl, _⟩ := h; rfl
  | pen => obtain ⟨a, _, rfl⟩ := h; rfl
  | scr _ => obtain ⟨a, vs, rfl, _⟩ := h; rfl
def isD : D → D → Option D
  | d, .non => some (.bl (isNon d))
  | .bl a, .bl b => some (.bl (decide (a = b)))
  | _, _ => none
def isNotD : D → D → Option D
  | d, .non => some (.bl (!isNon d))
  | .bl a, .bl b => some (.bl (!decide (a = b)))
  | _, _ => none
theorem op_isD : OpR X (compareOp .Is) (rD B isD) := rD_mk fun d e r G P x y H Q sg pn rd re hf hq pins s σ v u I rx ry => by
  unfold isD at hf
  split at hf
  · cases hf
    have e1 := isNon_rep rd
    cases re
    exact op_isN pins s σ H _ _ v u Q I rx ry ⟨rfl, by rw [e1]; exact hq _ G H (.refl sg) rfl⟩
  · cases hf; cases rd; cases re
    exact op_is_bl pins s σ H _ _ v u Q I rx ry ⟨_, _, rfl, rfl, hq _ G H (.refl sg) rfl⟩
  · cases hf
theorem op_isNotD : OpR X (compareOp .IsNot) (rD B isNotD) := rD_mk fun d e r G P x y H Q sg pn rd re hf hq pins s σ v u I rx ry => by
  unfold isNotD at hf
  split at hf
  · cases hf
    have e1 := isNon_rep rd
    cases re
    exact op_notN pins s σ H _ _ v u Q I rx ry ⟨rfl, by rw [e1]; exact hq _ G H (.refl sg) rfl⟩
  · cases hf; cases rd; cases re
    exact op_isnot_bl pins s σ H _ _ v u Q I rx ry ⟨_, _, rfl, rfl, hq _ G H (.refl sg) rfl⟩
  · cases hf
end

/-! ### subscripts -/
def ixD : D → D → Option D
  | .lst xs, .int i => atI xs i
  | .tup xs, .int i => atI xs i
  | .str z, .int i => if z.length ≤ lim then (atI z.cps.toList i).map fun c => .str ⟨#[c]⟩ else none
  | _, _ => none
section
variable {X : Cx} {B : Bs} {W : XK} {pos : Pos} {a b c e : Expr} {ma mb mc : M D}
theorem Reps.atI {G : Hp} {ds : List D} {vs : List V} {i : Int} {d : D} (h : Reps B G ds vs) (e : L2.atI ds i = some d) : ∃ v, L2.atI vs i = some v ∧ Rep B G d v := by
  unfold L2.atI at e ⊢
  rw [← h.length]
  cases q : ixN ds.length i with
  | none => rw [q] at e; cases e
  | some j =>
    rw [q] at e
    exact h.get e
theorem ix_D (hK : B.K = X.K := by rfl) : IxR X (rD B ixD) := by
  intro value slice pins s σ H x y v u Q I rx ry ⟨G, P, d, e, r, sg, pn, rd, re, hf, hq⟩ hsb
  unfold ixD at hf
  split at hf
  · obtain ⟨p, vs, rfl, h1, h2⟩ := rd
    cases re
    obtain ⟨w, h3, h4⟩ := h2.atI hf
    exact ix_list value slice pins s σ H _ _ v u Q I rx ry ⟨p, vs, _, w, rfl, rfl, .inl (.inl (sg _ _ h1)), h3, hq _ G H (.refl sg) h4⟩ hsb
  · obtain ⟨p, vs, rfl, h1, h2⟩ := rd
    cases re
    obtain ⟨w, h3, h4⟩ := h2.atI hf
    rw [hK] at h1
    exact ix_tup value slice pins s σ H _ _ v u Q I rx ry ⟨p, vs, _, w, rfl, rfl, sqT_mono sg h1, h3, hq _ G H (.refl sg) h4⟩ hsb
  · split at hf
    · rename_i hl
      cases rd; cases re
      cases q : L2.atI (Array.toList (Str.cps _)) _ with
      | none => rw [q] at hf; cases hf
      | some c =>
        rw [q] at hf
        cases hf
        exact ix_str value slice pins s σ H _ _ v u Q I rx ry ⟨_, _, c, rfl, rfl, by rw [lim_eq]; exact hl, q, hq _ G H (.refl sg) rfl⟩ hsb
    · cases hf
  · cases hf
theorem de_ix (ha : DE X B W a ma) (hb : DE X B W b mb) (hs : PlainIx b := by exact fun _ _ => rfl) (hK : B.K = X.K := by rfl) : DE X B W (.Subscript a b pos) (mBin ixD ma mb) :=
  PE.imp (pe_ix (ix_D hK) ha hb hs) (tD_op fun _ _ _ _ h => h)
end
end DL

-- DFlow
set_option maxHeartbeats 4000000
/-! DFlow: argument lists, displays, tests, conditional expressions, slices, fields, calls -/
namespace DL
open PySem PySem.Spec PyProof.Rows L2

abbrev XF : XK := fun _ _ _ => False
/-- what a body's context gives -/
structure Ctx (X : Cx) (B : Bs) (W : XK) : Prop where
  hK : B.K = X.K
  calm : X.calm = true
  nd : X.N.Nodup
  pass : Passes (L2.CX X.prog X.w) X W

/-! ### argument lists -/
def mNil : M (List D) := ret []
def mCons (m : M D) (ms : M (List D)) : M (List D) := bnd m fun d => bnd ms fun ds => ret (d :: ds)
def mLft {α β : Type} (m : M α) (f : α → Option β) : M β := bnd m fun a => lft (f a)
section
variable {X : Cx} {B : Bs} {W : XK} {pos : Pos} {a b c e : Expr} {es rest : List Expr} {ma mb mc m : M D} {ms : M (List D)} {mt mu : M Bool}
theorem ret_ok {α : Type} {a : α} {z z' : Z} {r : Rs α} (h : ret a z = some (r, z')) : r = .ok a ∧ z' = z := by
  injection h with h
  injection h with e1 e2
  exact ⟨e1.symm, e2.symm⟩
theorem da_nil : DA X B W [] mNil := PA.imp pa_nil fun σ H Q ⟨G0, H0, G, z, r, z', R, hm, hA⟩ => by
  obtain ⟨rfl, rfl⟩ := ret_ok hm
  exact hA G H R (Same.refl _) [] .nil
theorem da_cons (ha : DE X B W e m) (hr : DA X B W es ms) (hs : starEach (e :: es) X.env = (false, eval e X.env) :: starEach es X.env := by rfl) : DA X B W (e :: es) (mCons m ms) := PA.imp (pa_cons ha hr hs) fun σ H Q ⟨G0, H0, G, z, r, z', R, hm, hA⟩ => by
  obtain ⟨r1, z1, m1, A1⟩ := After.bnd (K := fun d G1 H1 => ∀ v, Rep B G1 d v → tDs B W ms σ H1 fun xs H2 => Q (v :: xs) H2) hm hA fun d z1 G1 H1 R1 s1 hm hA v q1 => by
    obtain ⟨r2, z2, m2, A2⟩ := After.bnd (K := fun ds G2 H2 => ∀ vs, Reps B G2 ds vs → Q (v :: vs) H2) hm hA fun ds z2 G2 H2 R2 s2 hm hA vs q2 => by
      obtain ⟨rfl, rfl⟩ := ret_ok hm
      exact hA G2 H2 R2 (Same.refl _) (v :: vs) (.cons (Rep.mono s2 _ _ q1) q2)
    exact ⟨G0, H0, G1, z1, r2, z2, R1, m2, A2⟩
  exact ⟨G0, H0, G, z, r1, z1, R, m1, A1⟩

/-! ### a plain function of one value, of a list of values -/
def rD1 (B : Bs) (f : D → Option D) : V → Hp → VK → Prop := fun x H Q => ∃ G P d r, Same G H ∧ PenOk B G H P ∧ Rep B G d x ∧ f d = some r ∧ ∀ v G' H', Grow G H G' H' → Rep B G' r v → Q v H'
def rDs (B : Bs) (f : List D → Option D) : List V → Hp → VK → Prop := fun xs H Q => ∃ G P ds r, Same G H ∧ PenOk B G H P ∧ Reps B G ds xs ∧ f ds = some r ∧ ∀ v G' H', Grow G H G' H' → Rep B G' r v → Q v H'
theorem tD_un {f : D → Option D} {r : V → Hp → VK → Prop} (hr : ∀ x H Q, rD1 B f x H Q → r x H Q) (σ : Sg) (H : Hp) (Q : VK) (h : tD B W (mLft m f) σ H Q) : tD B W m σ H fun x H1 => r x H1 Q := by
  obtain ⟨G0, H0, G, z, r0, z', R, hm, hA⟩ := h
  obtain ⟨r1, z1, m1, A1⟩ := After.bnd (K := fun d G1 H1 => ∀ v, Rep B G1 d v → r v H1 Q) hm hA fun d z1 G1 H1 R1 s1 hm hA v q1 => by
    obtain ⟨y, hf, hA⟩ := hA.lft hm
    exact hr v H1 Q ⟨G1, z1.P, d, y, R1.ex, R1.pen, q1, hf, fun w G3 H3 g q3 => hA G3 H3 (R1.grow g) g.g w q3⟩
  exact ⟨G0, H0, G, z, r1, z1, R, m1, A1⟩
theorem tDs_fn {f : List D → Option D} {r : List V → Hp → VK → Prop} (hr : ∀ x H Q, rDs B f x H Q → r x H Q) (σ : Sg) (H : Hp) (Q : VK) (h : tD B W (mLft ms f) σ H Q) : tDs B W ms σ H fun xs H1 => r xs H1 Q := by
  obtain ⟨G0, H0, G, z, r0, z', R, hm, hA⟩ := h
  obtain ⟨r1, z1, m1, A1⟩ := After.bnd (K := fun ds G1 H1 => ∀ vs, Reps B G1 ds vs → r vs H1 Q) hm hA fun d z1 G1 H1 R1 s1 hm hA v q1 => by
    obtain ⟨y, hf, hA⟩ := hA.lft hm
    exact hr v H1 Q ⟨G1, z1.P, d, y, R1.ex, R1.pen, q1, hf, fun w G3 H3 g q3 => hA G3 H3 (R1.grow g) g.g w q3⟩
  exact ⟨G0, H0, G, z, r1, z1, R, m1, A1⟩

/-! ### displays -/
def mkTup (ds : List D) : Option D := if ds.length ≤ lim then some (.tup ds) else none
def mkLst (ds : List D) : Option D := if ds.length ≤ lim then some (.lst ds) else none
theorem mkLst_ok {ds : List D} {y : D} (h : mkLst ds = some y) : ds.length ≤ lim ∧ y = .lst ds := by
  unfold mkLst at h
  split at h <;> cases h
  exact ⟨by assumption, rfl⟩
theorem mkTup_ok {ds : List D} {y : D} (h : mkTup ds = some y) : ds.length ≤ lim ∧ y = .tup ds := by
  unfold mkTup at h
  split at h <;> cases h
  exact ⟨by assumption, rfl⟩
theorem de_tup {x1} (h : DA X B W es ms) : DE X B W (.Tuple es x1 pos) (mLft ms mkTup) := PE.imp (pe_tup h) fun σ H Q h => tDs_fn (r := fun xs H1 Q => xs.length ≤ sizeLine ∧ ∀ p, H1 p = none → Q (.ref p) (upd H1 p (.tup xs))) (fun x H Q ⟨G, P, ds, r, sg, pn, rd, hf, hq⟩ => by
  unfold mkTup at hf
  split at hf <;> cases hf
  rename_i hl
  refine ⟨by rw [← rd.length, lim_eq]; exact hl, fun p np => ?_⟩
  have g := Grow.new (o := .tup x) sg np
  exact hq _ _ _ g ⟨p, _, rfl, .inl (.inl upd_same), Reps.mono g.g _ _ rd⟩) σ H Q h

/-- a new object that the frame owns -/
def tO (B : Bs) (W : XK) (m : M D) : TE := fun σ H Q => ∃ G0 H0 G z r z', Rel B G0 H0 z G H σ ∧ m z = some (r, z') ∧ After B W G0 H0 G σ r z' fun d G' H' =>
  ∀ a o, H' a = some o → G' a = none → H0 a = none → B.cold a → (∀ (i : Nat) (e : D), z'.S[i]? = some (.ow e) → σ[i]? ≠ some (some (.ref a))) → OwR B G' o d → Q (.ref a) H'
abbrev DO (X : Cx) (B : Bs) (W : XK) (e : Expr) (m : M D) : Prop := PE X e (tO B W m)
theorem Rel.fresh {G0 H0 G H : Hp} {z : Z} {σ : Sg} {p : Addr} (R : Rel B G0 H0 z G H σ) (n : H p = none) : G p = none ∧ H0 p = none ∧ B.cold p ∧ ∀ (i : Nat) (e : D), z.S[i]? = some (.ow e) → σ[i]? ≠ some (some (.ref p)) := by
  have h2 : B.cold p := R.pen.cold n
  refine ⟨Same.dom R.ex n, ?_, h2, fun i e he hs => ?_⟩
  · cases q : H0 p with
    | none => rfl
    | some o => rw [R.fr p o q h2] at n; cases n
  · obtain ⟨a, o, h1, h3, _⟩ := R.ow i e he
    rw [h1] at hs
    cases hs
    rw [n] at h3; cases h3
/-- an owned object that no slot holds is told -/
theorem Rel.tell {G0 H0 G H : Hp} {z : Z} {σ : Sg} {a : Addr} {o : HO} {d : D} (R : Rel B G0 H0 z G H σ) (h1 : H a = some o) (h2 : G a = none) (h3 : H0 a = none) (h4 : B.cold a)
    (h5 : ∀ (i : Nat) (e : D), z.S[i]? = some (.ow e) → σ[i]? ≠ some (some (.ref a))) (h6 : OwR B G o d) : Same G (upd G a o) ∧ Rep B (upd G a o) d (.ref a) ∧ Rel B G0 H0 z (upd G a o) H σ := by
  have sG : Same G (upd G a o) := fun b u q => by rw [upd_ne (ne_of_none q h2)]; exact q
  refine ⟨sG, ?_, fun b u q => ?_, R.g0.trans sG, R.fr, fun b u q => ?_, R.pen.tell h4 h2, fun j e q => ?_, fun j e q => ?_, R.ap⟩
  · rcases h6.mono sG with ⟨ds, vs, rfl, rfl, q⟩ | ⟨C, ns, ds, dx, fs, rfl, rfl, q1, q2⟩
    · exact ⟨a, vs, rfl, upd_same, q⟩
    · exact ⟨a, dx, fs, rfl, upd_same, q1, q2⟩
  · by_cases hb : b = a
    · subst hb; rw [upd_same] at q; cases q; exact h1
    · rw [upd_ne hb] at q; exact R.ex _ _ q
  · by_cases hb : b = a
    · subst hb; exact .inr h3
    · rw [upd_ne hb] at q; exact R.nw _ _ q
  · obtain ⟨v, q1, q2⟩ := R.va j e q
    exact ⟨v, q1, Rep.mono sG _ _ q2⟩
  · obtain ⟨b, u, q1, q2, q3, q4, q5, q6⟩ := R.ow j e q
    have ne : b ≠ a := fun z => h5 j e q (by rw [← z]; exact q1)
    exact ⟨b, u, q1, q2, by rw [upd_ne ne]; exact q3, q4.mono sG, q5, q6⟩
theorem do_e (h : DO X B W e m) : DE X B W e m := PE.imp h fun σ H Q ⟨G0, H0, G, z, r, z', R, hm, hA⟩ => by
  refine ⟨G0, H0, G, z, r, z', R, hm, ?_⟩
  cases r with
  | error x => exact hA
  | ok d =>
    intro G' H' R' s a o h1 h2 h3 h4 h5 h6
    obtain ⟨t1, t2, t3⟩ := R'.tell h1 h2 h3 h4 h5 h6
    exact hA _ _ t3 (s.trans t1) _ t2
/-- a reading that ends with a new object -/
theorem tO_of {G0 H0 G H : Hp} {z : Z} {σ : Sg} {o : HO} {d : D} {k : D → Hp → Hp → Prop} {Q : VK} (R : Rel B G0 H0 z G H σ) (h6 : OwR B G o d)
    (hk : ∀ G' H', Rel B G0 H0 z G' H' σ → Same G G' → ∀ a o, H' a = some o → G' a = none → H0 a = none → B.cold a → (∀ (i : Nat) (e : D), z.S[i]? = some (.ow e) → σ[i]? ≠ some (some (.ref a))) → OwR B G' o d → Q (.ref a) H')
    (p : Addr) (np : H p = none) : Q (.ref p) (upd H p o) := by
  obtain ⟨f1, f2, f3, f4⟩ := R.fresh np
  exact hk G (upd H p o) (R.grow (Grow.own R.ex np)) (Same.refl _) p o upd_same f1 f2 f3 f4 h6
theorem do_lst (h : DA X B W es ms) : DO X B W (.List es pos) (mLft ms mkLst) := PE.imp (pe_lst h) fun σ H Q ⟨G0, H0, G, z, r, z', R, hm, hA⟩ => by
  obtain ⟨r1, z1, m1, A1⟩ := After.bnd (K := fun ds G1 H1 => ∀ vs, Reps B G1 ds vs → vs.length ≤ sizeLine ∧ ∀ p, H1 p = none → Q (.ref p) (upd H1 p (.lst vs))) hm hA fun ds z1 G1 H1 R1 s1 hm hA vs q1 => by
    obtain ⟨y, hf, rfl, rfl⟩ := lft_ok hm
    obtain ⟨hl, rfl⟩ := mkLst_ok hf
    exact ⟨by rw [← q1.length, lim_eq]; exact hl, tO_of (k := fun _ _ _ => True) R1 (.inl ⟨ds, vs, rfl, rfl, q1⟩) hA⟩
  exact ⟨G0, H0, G, z, r1, z1, R, m1, A1⟩

/-! ### tests -/
def asB : D → Option Bool
  | .bl b => some b
  | _ => none
def truD : D → Option Bool
  | .non => some false
  | .bl b => some b
  | .int i => some (i != 0)
  | .str x => if x.length ≤ lim then some ((x.length : Int) != 0) else none
  | .lst xs => some (!xs.isEmpty)
  | .tup xs => some (!xs.isEmpty)
  | _ => none
theorem Reps.empty {G : Hp} {ds : List D} {vs : List V} (h : Reps B G ds vs) : ds.isEmpty = vs.isEmpty := by
  cases ds with
  | nil => cases h; rfl
  | cons d r => obtain ⟨v, w, rfl, _⟩ := h; rfl
theorem truD_ok {G H : Hp} {d : D} {v : V} {k : Bool} (sg : Same G H) (h : truD d = some k) (r : Rep B G d v) : TruV B.K v H k := by
  cases d with
  | non => cases h; cases r; exact rfl
  | bl b => cases h; cases r; exact rfl
  | int i => cases h; cases r; exact rfl
  | str x =>
    by_cases hl : x.length ≤ lim
    · simp only [truD, if_pos hl] at h
      cases h
      cases r
      exact ⟨by rw [lim_eq]; exact hl, rfl⟩
    · simp only [truD, if_neg hl] at h
      cases h
  | lst xs =>
    cases h
    obtain ⟨a, vs, rfl, h1, h2⟩ := r
    exact .inl ⟨vs, .inl (.inl (sg _ _ h1)), by rw [h2.empty]⟩
  | tup xs =>
    cases h
    obtain ⟨a, vs, rfl, h1, h2⟩ := r
    exact .inr (.inl ⟨vs, sqT_mono sg h1, by rw [h2.empty]⟩)
  | _ => cases h
theorem dt_truth (hc : Ctx X B W) (h : DE X B W e m) (he : ∀ whole, isTrue e X.env whole = (do let v ← whole; standAt e.pos; holding [v] (truthy v)) := by intro _; rfl) : DT X B W e (mLft m truD) := PT.imp (pt_truth h he) fun σ H Q ⟨G0, H0, G, z, r, z', R, hm, hA⟩ => by
  obtain ⟨r1, z1, m1, A1⟩ := After.bnd (K := fun d G1 H1 => ∀ v, Rep B G1 d v → ∃ k, TruV X.K v H1 k ∧ Q k H1) hm hA fun d z1 G1 H1 R1 s1 hm hA v q1 => by
    obtain ⟨k, hf, rfl, rfl⟩ := lft_ok hm
    exact ⟨k, by rw [← hc.hK]; exact truD_ok R1.ex hf q1, hA G1 H1 R1 (Same.refl _)⟩
  exact ⟨G0, H0, G, z, r1, z1, R, m1, A1⟩
/-- an expression that gives a bool, read as a test by HandS's tTest -/
theorem tTest_of {t : TE} (hi : ∀ σ H Q, tD B W m σ H Q → t σ H Q) (σ : Sg) (H : Hp) (Q : Bool → Hp → Prop) (h : tDt B W (mLft m asB) σ H Q) : tTest t σ H Q := by
  obtain ⟨G0, H0, G, z, r, z', R, hm, hA⟩ := h
  refine hi _ _ _ ?_
  obtain ⟨r1, z1, m1, A1⟩ := After.bnd (K := fun d G1 H1 => ∀ v, Rep B G1 d v → ∃ k, v = .bl k ∧ Q k H1) hm hA fun d z1 G1 H1 R1 s1 hm hA v q1 => by
    obtain ⟨k, hf, rfl, rfl⟩ := lft_ok hm
    cases d with
    | bl b => cases hf; cases q1; exact ⟨_, rfl, hA G1 H1 R1 (Same.refl _)⟩
    | _ => cases hf
  exact ⟨G0, H0, G, z, r1, z1, R, m1, A1⟩
theorem dt_cmp {op : CmpOp} {f : D → D → Option D} (ho : OpR X (compareOp op) (rD B f)) (ha : DE X B W a ma) (hb : DE X B W b mb) (hm : behindInMarks op b = false := by first | exact nobehind _ (by decide) (by decide) | rfl) : DT X B W (.Compare a [op] [b] pos) (mLft (mBin f ma mb) asB) :=
  PT.imp (pt_cmpR ho ha hb hm) (tTest_of (tD_op fun _ _ _ _ h => h))
/-- a op b op' c -/
def mChain (f g : D → D → Option D) (ma mb mc : M D) : M D := bnd ma fun d => bnd mb fun e => bnd (lft ((f d e).bind asB)) fun k => if k = true then bnd mc fun u => lft (g e u) else ret (.bl false)
theorem tD_chain {f g : D → D → Option D} (σ : Sg) (H : Hp) (Q : VK) (h : tD B W (mChain f g ma mb mc) σ H Q) : tChain (rD B f) (rD B g) (tD B W ma) (tD B W mb) (tD B W mc) σ H Q := by
  obtain ⟨G0, H0, G, z, r, z', R, hm, hA⟩ := h
  obtain ⟨r1, z1, m1, A1⟩ := After.bnd (K := fun d G1 H1 => ∀ v, Rep B G1 d v → tD B W mb σ H1 fun y H2 => rD B f v y H2 fun z H3 => ∃ k, z = .bl k ∧ (if k = true then tD B W mc σ H3 fun w' H4 => rD B g y w' H4 Q else Q (.bl false) H3)) hm hA fun d z1 G1 H1 R1 s1 hm hA v q1 => by
    obtain ⟨r2, z2, m2, A2⟩ := After.bnd (K := fun e G2 H2 => ∀ u, Rep B G2 e u → rD B f v u H2 fun z H3 => ∃ k, z = .bl k ∧ (if k = true then tD B W mc σ H3 fun w' H4 => rD B g u w' H4 Q else Q (.bl false) H3)) hm hA fun e z2 G2 H2 R2 s2 hm hA u q2 => by
      rcases bnd_ok hm with ⟨k, z3, m3, hm⟩ | ⟨x, m3, _⟩
      · obtain ⟨k', hk, e1, rfl⟩ := lft_ok m3
        cases e1
        cases hf : f d e with
        | none => rw [hf] at hk; cases hk
        | some y =>
          rw [hf] at hk
          have hy : y = .bl k := by cases y <;> simp [asB] at hk <;> rw [hk]
          subst hy
          refine ⟨G2, z3.P, d, e, _, R2.ex, R2.pen, Rep.mono s2 _ _ q1, q2, hf, fun w G3 H3 g3 q3 => ⟨k, q3, ?_⟩⟩
          cases k with
          | false =>
            rw [if_neg (by decide)] at hm
            obtain ⟨rfl, rfl⟩ := ret_ok hm
            exact iteF (hA G3 H3 (R2.grow g3) g3.g _ rfl)
          | true =>
            rw [if_pos rfl] at hm
            refine iteT ?_
            obtain ⟨r4, z4, m4, A4⟩ := After.bnd (K := fun c G4 H4 => ∀ u', Rep B G4 c u' → rD B g u u' H4 Q) hm (hA.up g3.g) fun c z4 G4 H4 R4 s4 hm hA u' q4 => by
              obtain ⟨y, hf, hA⟩ := hA.lft hm
              exact ⟨G4, z4.P, e, c, y, R4.ex, R4.pen, Rep.mono (g3.g.trans s4) _ _ q2, q4, hf, fun w G5 H5 g5 q5 => hA G5 H5 (R4.grow g5) g5.g w q5⟩
            exact ⟨G0, H0, G3, z3, r4, z4, R2.grow g3, m4, A4⟩
      · obtain ⟨_, _, e, _⟩ := lft_ok m3
        cases e
    exact ⟨G0, H0, G1, z1, r2, z2, R1, m2, A2⟩
  exact ⟨G0, H0, G, z, r1, z1, R, m1, A1⟩
theorem de_chain {op op' : CmpOp} {f g : D → D → Option D} (ho : OpR X (compareOp op) (rD B f)) (ho' : OpR X (compareOp op') (rD B g)) (ha : DE X B W a ma) (hb : DE X B W b mb) (hc : DE X B W c mc)
    (hm : lastMarks [op, op'] [b, c] = false := by with_unfolding_all rfl) : DE X B W (.Compare a [op, op'] [b, c] pos) (mChain f g ma mb mc) := PE.imp (pe_chain ho ho' ha hb hc hm) tD_chain
theorem dt_chain {op op' : CmpOp} {f g : D → D → Option D} (ho : OpR X (compareOp op) (rD B f)) (ho' : OpR X (compareOp op') (rD B g)) (ha : DE X B W a ma) (hb : DE X B W b mb) (hc : DE X B W c mc)
    (hm : lastMarks [op, op'] [b, c] = false := by with_unfolding_all rfl) : DT X B W (.Compare a [op, op'] [b, c] pos) (mLft (mChain f g ma mb mc) asB) := PT.imp (pt_chain ho ho' ha hb hc hm) (tTest_of tD_chain)

/-! ### and, or, not as tests -/
abbrev DW (X : Cx) (B : Bs) (W : XK) (e : Expr) (m : M Bool) : Prop := PW X e (tDt B W m)
def mAnd (t u : M Bool) : M Bool := bnd t fun b => if b = true then u else ret false
def mOr (t u : M Bool) : M Bool := bnd t fun b => if b = true then ret true else u
def mNot (t : M Bool) : M Bool := bnd t fun b => ret (!b)
theorem dw_and1 (h : DT X B W a mt) : DW X B W (.BoolOp .And [a] pos) mt := pw_and1 h
theorem dw_or1 (h : DT X B W a mt) : DW X B W (.BoolOp .Or [a] pos) mt := pw_or1 h
theorem dw_and (h : DT X B W a mt) (h' : DW X B W (.BoolOp .And (b :: rest) pos) mu) : DW X B W (.BoolOp .And (a :: b :: rest) pos) (mAnd mt mu) := PW.imp (pw_and h h') fun σ H Q ⟨G0, H0, G, z, r, z', R, hm, hA⟩ => by
  obtain ⟨r1, z1, m1, A1⟩ := After.bnd (K := fun c G1 H1 => if c = true then tDt B W mu σ H1 Q else Q false H1) hm hA fun c z1 G1 H1 R1 s1 hm hA => by
    cases c with
    | true =>
      rw [if_pos rfl] at hm
      exact iteT ⟨G0, H0, G1, z1, r, z', R1, hm, hA⟩
    | false =>
      rw [if_neg (by decide)] at hm
      obtain ⟨rfl, rfl⟩ := ret_ok hm
      exact iteF (hA G1 H1 R1 (Same.refl _))
  exact ⟨G0, H0, G, z, r1, z1, R, m1, A1⟩
theorem dw_or (h : DT X B W a mt) (h' : DW X B W (.BoolOp .Or (b :: rest) pos) mu) : DW X B W (.BoolOp .Or (a :: b :: rest) pos) (mOr mt mu) := PW.imp (pw_or h h') fun σ H Q ⟨G0, H0, G, z, r, z', R, hm, hA⟩ => by
  obtain ⟨r1, z1, m1, A1⟩ := After.bnd (K := fun c G1 H1 => if c = true then Q true H1 else tDt B W mu σ H1 Q) hm hA fun c z1 G1 H1 R1 s1 hm hA => by
    cases c with
    | false =>
      rw [if_neg (by decide)] at hm
      exact iteF ⟨G0, H0, G1, z1, r, z', R1, hm, hA⟩
    | true =>
      rw [if_pos rfl] at hm
      obtain ⟨rfl, rfl⟩ := ret_ok hm
      exact iteT (hA G1 H1 R1 (Same.refl _))
  exact ⟨G0, H0, G, z, r1, z1, R, m1, A1⟩
theorem dt_w (h : DW X B W e mt) : DT X B W e mt := h.pt
theorem dt_not (h : DT X B W a mt) : DT X B W (.UnaryOp .Not a pos) (mNot mt) := PT.imp (pt_not h) fun σ H Q ⟨G0, H0, G, z, r, z', R, hm, hA⟩ => by
  obtain ⟨r1, z1, m1, A1⟩ := After.bnd (K := fun c G1 H1 => Q (!c) H1) hm hA fun c z1 G1 H1 R1 s1 hm hA => by
    obtain ⟨rfl, rfl⟩ := ret_ok hm
    exact hA G1 H1 R1 (Same.refl _)
  exact ⟨G0, H0, G, z, r1, z1, R, m1, A1⟩

/-! ### and, or, not as values -/
def mAndV (ma mb : M D) : M D := bnd ma fun d => bnd (lft (truD d)) fun k => if k = true then mb else ret d
def mOrV (ma mb : M D) : M D := bnd ma fun d => bnd (lft (truD d)) fun k => if k = true then ret d else mb
def mNotV (ma : M D) : M D := bnd ma fun d => bnd (lft (truD d)) fun k => ret (.bl (!k))
theorem de_one {op} (h : DE X B W a m) : DE X B W (.BoolOp op [a] pos) m := pe_one h
theorem bnd_lft {α β : Type} {o : Option α} {f : α → M β} {z z' : Z} {r : Rs β} (h : bnd (lft o) f z = some (r, z')) : ∃ a, o = some a ∧ f a z = some (r, z') := by
  rcases bnd_ok h with ⟨k, z3, m3, hm⟩ | ⟨x, m3, _⟩
  · obtain ⟨k', hk, e1, rfl⟩ := lft_ok m3
    cases e1
    exact ⟨k, hk, hm⟩
  · obtain ⟨_, _, e, _⟩ := lft_ok m3
    cases e
theorem de_and (hc : Ctx X B W) (ha : DE X B W a ma) (hb : DE X B W (.BoolOp .And (b :: rest) pos) mb) : DE X B W (.BoolOp .And (a :: b :: rest) pos) (mAndV ma mb) := PE.imp (pe_andT ha hb) fun σ H Q ⟨G0, H0, G, z, r, z', R, hm, hA⟩ => by
  obtain ⟨r1, z1, m1, A1⟩ := After.bnd (K := fun d G1 H1 => ∀ v, Rep B G1 d v → ∃ k, TruV X.K v H1 k ∧ if k = true then tD B W mb σ H1 Q else Q v H1) hm hA fun d z1 G1 H1 R1 s1 hm hA v q1 => by
    obtain ⟨k, hk, hm⟩ := bnd_lft hm
    refine ⟨k, by rw [← hc.hK]; exact truD_ok R1.ex hk q1, ?_⟩
    cases k with
    | true =>
      rw [if_pos rfl] at hm
      exact iteT ⟨G0, H0, G1, z1, r, z', R1, hm, hA⟩
    | false =>
      rw [if_neg (by decide)] at hm
      obtain ⟨rfl, rfl⟩ := ret_ok hm
      exact iteF (hA G1 H1 R1 (Same.refl _) v q1)
  exact ⟨G0, H0, G, z, r1, z1, R, m1, A1⟩
theorem de_or (hc : Ctx X B W) (ha : DE X B W a ma) (hb : DE X B W (.BoolOp .Or (b :: rest) pos) mb) : DE X B W (.BoolOp .Or (a :: b :: rest) pos) (mOrV ma mb) := PE.imp (pe_orT ha hb) fun σ H Q ⟨G0, H0, G, z, r, z', R, hm, hA⟩ => by
  obtain ⟨r1, z1, m1, A1⟩ := After.bnd (K := fun d G1 H1 => ∀ v, Rep B G1 d v → ∃ k, TruV X.K v H1 k ∧ if k = true then Q v H1 else tD B W mb σ H1 Q) hm hA fun d z1 G1 H1 R1 s1 hm hA v q1 => by
    obtain ⟨k, hk, hm⟩ := bnd_lft hm
    refine ⟨k, by rw [← hc.hK]; exact truD_ok R1.ex hk q1, ?_⟩
    cases k with
    | false =>
      rw [if_neg (by decide)] at hm
      exact iteF ⟨G0, H0, G1, z1, r, z', R1, hm, hA⟩
    | true =>
      rw [if_pos rfl] at hm
      obtain ⟨rfl, rfl⟩ := ret_ok hm
      exact iteT (hA G1 H1 R1 (Same.refl _) v q1)
  exact ⟨G0, H0, G, z, r1, z1, R, m1, A1⟩
theorem de_not (hc : Ctx X B W) (ha : DE X B W a ma) : DE X B W (.UnaryOp .Not a pos) (mNotV ma) := PE.imp (pe_notT ha) fun σ H Q ⟨G0, H0, G, z, r, z', R, hm, hA⟩ => by
  obtain ⟨r1, z1, m1, A1⟩ := After.bnd (K := fun d G1 H1 => ∀ v, Rep B G1 d v → ∃ k, TruV X.K v H1 k ∧ Q (.bl (!k)) H1) hm hA fun d z1 G1 H1 R1 s1 hm hA v q1 => by
    obtain ⟨k, hk, hm⟩ := bnd_lft hm
    obtain ⟨rfl, rfl⟩ := ret_ok hm
    exact ⟨k, by rw [← hc.hK]; exact truD_ok R1.ex hk q1, hA G1 H1 R1 (Same.refl _) _ rfl⟩
  exact ⟨G0, H0, G, z, r1, z1, R, m1, A1⟩

/-! ### a if t else b -/
def mIf {α : Type} (t : M Bool) (ma mb : M α) : M α := bnd t fun b => if b = true then ma else mb
theorem de_if (ht : DT X B W c mt) (ha : DE X B W a ma) (hb : DE X B W b mb) : DE X B W (.IfExp c a b pos) (mIf mt ma mb) := PE.imp (pe_ifExp ht ha hb) fun σ H Q ⟨G0, H0, G, z, r, z', R, hm, hA⟩ => by
  obtain ⟨r1, z1, m1, A1⟩ := After.bnd (K := fun k G1 H1 => if k = true then tD B W ma σ H1 Q else tD B W mb σ H1 Q) hm hA fun k z1 G1 H1 R1 s1 hm hA => by
    cases k with
    | false =>
      rw [if_neg (by decide)] at hm
      exact iteF ⟨G0, H0, G1, z1, r, z', R1, hm, hA⟩
    | true =>
      rw [if_pos rfl] at hm
      exact iteT ⟨G0, H0, G1, z1, r, z', R1, hm, hA⟩
  exact ⟨G0, H0, G, z, r1, z1, R, m1, A1⟩

/-! ### -x -/
def negD : D → Option D
  | .int i => some (.int (-i))
  | _ => none
theorem de_neg (ha : DE X B W a ma) : DE X B W (.UnaryOp .USub a pos) (mLft ma negD) := PE.imp (pe_un un_neg ha) (tD_un fun x H Q ⟨G, P, d, r, sg, pn, rd, hf, hq⟩ => by
  cases d with
  | int i => cases hf; cases rd; exact ⟨i, rfl, hq _ G H (.refl sg) rfl⟩
  | _ => cases hf)
end
end DL

-- DRaw1
set_option maxHeartbeats 4000000
/-! DRaw1: walks over a list or a tuple, enumerate and zip over any of both -/
namespace DL
open PySem PySem.Spec PyProof.Rows L2

/-- a list (k) or a tuple -/
def Sq (K : PySem.W.Frag) (H : Hp) (k : Bool) (a : Addr) (xs : List V) : Prop := if k = true then SqL K H a xs else SqT K H a xs
def SrcIs (h : Heap) (k : Bool) (a : Addr) (items : Array Value) : Prop := if k = true then h.IsList a items else h.IsTuple a items
def ItAt (k : Bool) (h : Heap) (it a : Addr) (i : Nat) : Prop := if k = true then h.IsListIter it a i else h.IsTupleIter it a i
def itObj (k : Bool) (a : Addr) : Obj := if k = true then { cls := .type "list_iterator", data := .fields #[.ref a, .int 0 0] } else { cls := .type "tuple_iterator", data := .fields #[.ref a, .int 0 0] }
section
variable {X : Cx} {pins : List (Addr × Obj)} {σ : L2.St} {H : Hp} {s : Shared} {a b : Addr} {xs ys : List V} {k : Bool} {h h' : Heap} {it : Addr} {items : Array Value}
theorem src_of (I : Inv X pins σ H s) (q : Sq X.K H k a xs) : ∃ its : List Value, Vals xs its ∧ SrcIs s.heap k a its.toArray ∧ a < s.heap.objs.size := by
  cases k with
  | true =>
    obtain ⟨its, r, p, _⟩ := I.list q
    exact ⟨its, r, p.isList, p.lt⟩
  | false =>
    obtain ⟨its, r, p, _⟩ := I.tuple q
    obtain ⟨o, ho, _⟩ := id p
    exact ⟨its, r, p, Heap.lt_size ho⟩
theorem sq_inj (I : Inv X pins σ H s) (q : Sq X.K H k a xs) (q' : Sq X.K H k a ys) : xs = ys := by
  cases k with
  | true => exact I.list_inj q q'
  | false => exact I.tuple_inj q q'
theorem ItAt.at {i : Nat} (x : ItAt k h it a i) (hk : ∀ o, h.get? it = some o → h'.get? it = some o) : ItAt k h' it a i := by
  cases k with
  | true => exact Heap.IsListIter.at x hk
  | false => exact Heap.IsTupleIter.at x hk
theorem ItAt.obj {i : Nat} (x : ItAt k h it a i) : ∃ o, h.get? it = some o ∧ ∀ v, o.data ≠ .cell v := by
  cases k with
  | true =>
    obtain ⟨o, e, _, d⟩ := (show h.IsListIter it a i from x)
    exact ⟨o, e, fun v z => by rw [d] at z; cases z⟩
  | false =>
    obtain ⟨o, e, _, d⟩ := (show h.IsTupleIter it a i from x)
    exact ⟨o, e, fun v z => by rw [d] at z; cases z⟩
theorem draws_seq {prog : Program} {w : World} {A : Around} (hh : A.handled = none) (it a : Addr) (hne : a ≠ it) (items : Array Value) :
    Draws prog w A it [it, a] items.size (fun i v => items[i]? = some v) (fun i h => ItAt k h it a i ∧ SrcIs h k a items) := by
  cases k with
  | true => exact Draws.list hh it a hne items
  | false => exact Draws.tuple hh it a hne items
theorem begins_seq (k : Bool) (a : Addr) (items : Array Value) : Begins (.ref a) (itObj k a) fun h => SrcIs h k a items := by
  cases k with
  | true => exact begins_list a items
  | false => exact begins_tuple a items
theorem itAt_new (e : h.get? it = some (itObj k a)) : ItAt k h it a 0 := by
  cases k with
  | true => exact ⟨_, e, rfl, rfl⟩
  | false => exact ⟨_, e, rfl, rfl⟩
end

/-! ### enumerate of one argument, over anything that begins -/
set_option maxHeartbeats 1000000 in
theorem meets_enumerate_new1B {v : Value} {o : Obj} {H : Heap → Prop} (B : Begins v o H) :
    Meets (Builtin.«enumerate.__new__» ⟨[.type "enumerate", v], []⟩) (fun _ R s => H s.heap ∧
      R (.ok (.ret (.ref (s.heap.push o).objs.size))) { s with heap := (s.heap.push o).push { cls := .type "enumerate", data := .fields #[.none, .bool false, .ref s.heap.objs.size, rawInt 0, .none, .none] } }) :=
  .of_wp fun prog w A R s h => by
    obtain ⟨hp, g, d, tk, os⟩ := s; obtain ⟨h1, h⟩ := h
    have hsub := sub_enumerate
    have q1 : ∀ {A' : Around} {E : Value → Shared → Prop} {Q : Value → Shared → Prop}, Q (.ref hp.objs.size) ⟨hp.push o, g, d, tk, os⟩ → wpAny (model prog w) A' (pyIter v) Q E ⟨hp, g, d, tk, os⟩ :=
      fun q => B.iter prog w _ _ ⟨hp, g, d, tk, os⟩ _ h1 q
    wp_walk using q1
    refine wpAny_stack_any fun st => wpAny_pure ?_
    split
    · rename_i c _ _ _ _ _
      cases (c == Value.type "enumerate")
      · wp_walk using q1
        exact ⟨_, rfl, h⟩
      · wp_walk using q1
        exact ⟨_, rfl, h⟩
    · wp_walk using q1
      exact ⟨_, rfl, h⟩
section
variable {prog : Program} {w : World} {A : Around} {E : Value → Shared → Prop} {s : Shared}
theorem enum_begins1 {v : Value} {o : Obj} {H : Heap → Prop} {Q : Value → Shared → Prop} (B : Begins v o H) (h1 : H s.heap)
    (h : ∀ h', IsEnum h' (s.heap.objs.size + 1) s.heap.objs.size 0 .none → h'.get? s.heap.objs.size = some o → h'.objs.size = s.heap.objs.size + 2 →
      (∀ b o, s.heap.get? b = some o → h'.get? b = some o) → Q (.ref (s.heap.objs.size + 1)) { s with heap := h' }) :
    wpAny (model prog w) A (call (.type "enumerate") [v]) Q E s := by
  refine callType_new F.called_enumerate (by decide) (F.typeCall_enumerate_1 _) (F.newCall_enumerate_1 _) (fun obj => F.args_object_init_2 obj _) F.entry_enumerate_new
    (meets_enumerate_new1B B) ⟨h1, ?_⟩
  have hz : (s.heap.push o).objs.size = s.heap.objs.size + 1 := Heap.size_push ..
  show _ ∧ _
  rw [hz]
  have he : IsEnum ((s.heap.push o).push { cls := .type "enumerate", data := .fields #[.none, .bool false, .ref s.heap.objs.size, rawInt 0, .none, .none] }) (s.heap.objs.size + 1) s.heap.objs.size 0 .none := by
    have := Heap.get?_push_size (s.heap.push o) (o := { cls := .type "enumerate", data := .fields #[.none, .bool false, .ref s.heap.objs.size, rawInt 0, .none, .none] }) rfl
    rw [hz] at this; exact this
  refine ⟨⟨_, he, rfl⟩, h _ he (Heap.get?_push_of_some _ (Heap.get?_push_size _ B.free)) (by rw [Heap.size_push, hz]) fun b o x => Heap.get?_push_of_some _ (Heap.get?_push_of_some _ x)⟩
end

/-! ### enumerate(list or tuple) -/
def IteS (K : PySem.W.Frag) (k : Bool) (a : Addr) : It :=
  ⟨fun i H => ∃ xs x, Sq K H k a xs ∧ xs[i]? = some x, fun i H v H' => ∃ T x, v = .ref T ∧ H T = none ∧ H' = upd H T (.tup [.int (i : Nat), x]) ∧ ∀ xs, Sq K H k a xs → xs[i]? = some x,
    fun i H => ∃ xs : List V, Sq K H k a xs ∧ xs.length = i⟩
theorem turn_enumS {P : Program} {w : World} {K : PySem.W.Frag} {elts : List Expr} {kk : Nat} {tpos : Pos} (k : Bool) (a e it : Addr) (hae : a ≠ e) (hai : a ≠ it) (hei : e ≠ it) :
    Turn P w K (.Tuple elts kk tpos) (IteS K k a) [e, it] e (fun i h => (∃ old, IsEnum h e it ((i : Nat) : Int) old) ∧ ItAt k h it a i) where
  mem := by simp
  obj := fun i h st b hb => by
    obtain ⟨⟨old, he⟩, hit⟩ := st
    have e' : b = e ∨ b = it := by simpa using hb
    rcases e' with z | z
    · rw [z]; exact ⟨_, he, fun v q => nomatch q⟩
    · rw [z]; exact hit.obj
  keep := fun i h h' st kp => let ⟨⟨old, he⟩, hi⟩ := st; ⟨⟨old, kp e (by simp) _ he⟩, hi.at fun o q => kp it (by simp) o q⟩
  item := by
    intro X hP hw hK hc i pins s σ H E I hf st hg
    subst hP hw hK
    obtain ⟨⟨old, he⟩, hit⟩ := st
    obtain ⟨xs, x, hq, hx⟩ := hg
    obtain ⟨its, rv, p, hlt⟩ := src_of I hq
    obtain ⟨u, hu, ru⟩ := rv.get hx
    have hel : e < s.heap.objs.size := Heap.lt_size he
    have hil : it < s.heap.objs.size := by obtain ⟨_, q, _⟩ := hit.obj; exact Heap.lt_size q
    have D := draws_seq (prog := X.prog) (w := X.w) (A := X.A.in1) (k := k) (I.ok.hd hc) it a hai its.toArray
    have W := WalksT.enumFrom (A := X.A) 0 D e hei (by simp [hei, Ne.symm hae]) (by simp)
    have hi : i < its.toArray.size := by
      have := (List.getElem?_eq_some_iff.mp hu).1
      simpa using this
    have e0 : ((0 : Int) + (i : Int)) = (i : Int) := by omega
    refine W.item i s _ _ hi ⟨⟨old, by rw [e0]; exact he⟩, hit, p⟩ fun T vals h' tk hP hsz hT hm hk => ⟨.ref T, rfl, W.go _ _ _ i T { s with heap := h', toks := tk } _ _ hm fun h'' st'' hk'' => ?_⟩
    obtain ⟨t, y, hy, rfl⟩ := hP
    have ey : y = u := by
      have h1 : its.toArray[i]? = some u := by simpa using hu
      rw [h1] at hy; cases hy; rfl
    subst ey
    have nT := W.apart i T h' hm
    have hT2 : h''.IsTuple T #[.int (0 + (i : Int)) t, y] := hT.at fun o q => hk'' T o nT q
    obtain ⟨oT, hoT, hcT, nT', hdT⟩ := hT2
    have new : ObjOk X.prog X.w (upd H T (.tup [.int (i : Nat), x])) h'' T (.tup [.int (i : Nat), x]) :=
      ⟨by show 2 ≤ sizeLine; decide, [.int (0 + (i : Int)) t, y], .cons ⟨t, by rw [e0]⟩ (.cons ru .nil), ⟨oT, hoT, hcT, nT', hdT⟩⟩
    have nTH : H T = none := I.hok.fresh hsz
    have I1 : Inv X pins σ (upd H T (.tup [.int (i : Nat), x])) { s with heap := h'', toks := tk } :=
      I.turnedNew (ch := [e, it]) (fun b ob hb q => hk'' b ob hb (hk b ob hb q)) hf hsz new
    obtain ⟨⟨old', he'⟩, hit', _⟩ := st''
    refine ⟨.ref T, _, I1, rfl, ⟨T, x, rfl, nTH, rfl, fun ys hy => by rw [sq_inj I hy hq]; exact hx⟩, ⟨⟨old', ?_⟩, hit'⟩, fun b hb => ?_⟩
    · have e1 : (0 : Int) + ((i + 1 : Nat) : Int) = ((i + 1 : Nat) : Int) := by omega
      rw [e1] at he'; exact he'
    · have hb' : b < s.heap.objs.size := by
        have e' : b = e ∨ b = it := by simpa using hb
        rcases e' with z | z
        · rw [z]; exact hel
        · rw [z]; exact hil
      rw [upd_ne (Nat.ne_of_lt (Nat.lt_of_lt_of_le hb' hsz))]
      exact (hf b hb).1
  done := by
    intro X hP hw hK hc i pins s σ H E I hf st hg
    subst hP hw hK
    obtain ⟨⟨old, he⟩, hit⟩ := st
    obtain ⟨xs, hq, hx⟩ := hg
    obtain ⟨its, rv, p, hlt⟩ := src_of I hq
    have hl := rv.length
    have D := draws_seq (prog := X.prog) (w := X.w) (A := X.A.in1) (k := k) (I.ok.hd hc) it a hai its.toArray
    have W := WalksT.enumFrom (A := X.A) 0 D e hei (by simp [hei, Ne.symm hae]) (by simp)
    have e0 : ((0 : Int) + ((its.toArray.size : Nat) : Int)) = (i : Int) := by simp; omega
    have ei : its.toArray.size = i := by simp; omega
    refine W.done s _ _ ⟨⟨old, by rw [e0]; exact he⟩, by rw [ei]; exact hit, p⟩ fun h' tk hk => ⟨rfl, I.turnedL (t' := tk) (ch := [e, it]) hk hf⟩
  self := fun A i s Q E st h => let ⟨⟨_, he⟩, _⟩ := st; wpAny_pyIter_enum he h
def iEnumS (K : PySem.W.Frag) (ta : TA) : TI := fun σ H R => ta σ H fun vs H1 => ∃ k a xs, vs = [.ref a] ∧ Sq K H1 k a xs ∧ R (IteS K k a) H1
theorem pi_enumS {X : Cx} {e : Expr} {ta : TA} {p pos tpos : Pos} {elts : List Expr} {kk : Nat} (hg : Gl X "enumerate") (hm : X.mg "enumerate" = none) (ha : PA X [e] ta) (hs : starEach [e] X.env = [(false, eval e X.env)] := by rfl) :
    PI X (.Tuple elts kk tpos) (.Call (.Name "enumerate" p) [e] [] pos) (iEnumS X.K ta) := by
  refine ⟨fun pins s σ H R I h => ?_⟩
  refine Call_ (ld_blt I hg hm boot_enumerate (PyProof.Rows.callWith_type1 (thn (ha.run pos pins s σ H _ I h) fun us s1 ⟨vs, H1, I1, r1, q1⟩ => ?_) hs rfl))
  obtain ⟨k, a, xs, ex, hq, q⟩ := q1
  subst ex
  cases r1 with
  | cons r rr =>
    cases rr
    cases r
    obtain ⟨its, rv, p', hlt⟩ := src_of I1 hq
    refine enum_begins1 (begins_seq k a its.toArray) p' fun h' he hit hsz hk => wpAny_pyIter_enum he ?_
    have I2 : Inv X pins σ H1 { s1 with heap := h' } := I1.kept (t' := s1.toks) hk
    refine ⟨s1.heap.objs.size + 1, [s1.heap.objs.size + 1, s1.heap.objs.size], _, _, H1, rfl, I2, turn_enumS k a (s1.heap.objs.size + 1) s1.heap.objs.size (Nat.ne_of_lt (Nat.lt_succ_of_lt hlt)) (Nat.ne_of_lt hlt) (Nat.succ_ne_self _), ⟨⟨.none, he⟩, itAt_new hit⟩, fun b hb => ?_, q⟩
    have e' : b = s1.heap.objs.size + 1 ∨ b = s1.heap.objs.size := by simpa using hb
    have hle : s1.heap.objs.size ≤ b := by
      rcases e' with z | z
      · rw [z]; exact Nat.le_add_right _ _
      · rw [z]; exact Nat.le_refl _
    exact I1.fpOk hle (I1.hok.fresh hle)

/-! ### zip(list or tuple, list or tuple) -/
def ItzS (K : PySem.W.Frag) (k l : Bool) (a b : Addr) : It :=
  ⟨fun i H => ∃ (xs ys : List V) (x y : V), Sq K H k a xs ∧ Sq K H l b ys ∧ xs[i]? = some x ∧ ys[i]? = some y,
    fun i H v H' => ∃ T x y, v = .ref T ∧ H T = none ∧ H' = upd H T (.tup [x, y]) ∧ (∀ xs, Sq K H k a xs → xs[i]? = some x) ∧ ∀ ys, Sq K H l b ys → ys[i]? = some y,
    fun i H => ∃ xs ys : List V, Sq K H k a xs ∧ Sq K H l b ys ∧ i = min xs.length ys.length⟩
theorem turn_zipS {P : Program} {w : World} {K : PySem.W.Frag} {elts : List Expr} {kk : Nat} {tpos : Pos} {k l : Bool} {a b z TI TO i1 i2 : Addr} (S : ZipSep2 z TI TO i1 i2 [i1, a] [i2, b]) (h1a : a ≠ i1) (h2b : b ≠ i2) :
    Turn P w K (.Tuple elts kk tpos) (ItzS K k l a b) [z, TI, TO, i1, i2] z (fun i h => IsZip h z TI TO .none ∧ IsTupOf2 h TI (.ref i1) (.ref i2) ∧ (∃ x y, IsTupOf2 h TO x y) ∧ ItAt k h i1 a i ∧ ItAt l h i2 b i) where
  mem := by simp
  obj := fun i h st c hc => by
    obtain ⟨hz, hTI, ⟨x, y, hTO⟩, h1, h2⟩ := st
    have e' : c = z ∨ c = TI ∨ c = TO ∨ c = i1 ∨ c = i2 := by simpa using hc
    rcases e' with q | q | q | q | q
    · rw [q]; exact ⟨_, hz, fun v q => nomatch q⟩
    · rw [q]; exact ⟨_, hTI, fun v q => nomatch q⟩
    · rw [q]; exact ⟨_, hTO, fun v q => nomatch q⟩
    · rw [q]; exact h1.obj
    · rw [q]; exact h2.obj
  keep := fun i h h' st kp => by
    obtain ⟨hz, hTI, ⟨x, y, hTO⟩, h1, h2⟩ := st
    exact ⟨kp z (by simp) _ hz, kp TI (by simp) _ hTI, ⟨x, y, kp TO (by simp) _ hTO⟩, h1.at fun o q => kp i1 (by simp) o q, h2.at fun o q => kp i2 (by simp) o q⟩
  item := by
    intro X hP hw hK hc i pins s σ H E I hf st hg
    subst hP hw hK
    obtain ⟨hz, hTI, ⟨x0, y0, hTO⟩, h1, h2⟩ := st
    obtain ⟨xs, ys, x, y, hqx, hqy, hx, hy⟩ := hg
    obtain ⟨its, rv, p, _⟩ := src_of I hqx
    obtain ⟨its2, rv2, p2, _⟩ := src_of I hqy
    obtain ⟨u, hu, ru⟩ := rv.get hx
    obtain ⟨u2, hu2, ru2⟩ := rv2.get hy
    have D1 := draws_seq (prog := X.prog) (w := X.w) (A := X.A.in1) (k := k) (I.ok.hd hc) i1 a h1a its.toArray
    have D2 := draws_seq (prog := X.prog) (w := X.w) (A := X.A.in1) (k := l) (I.ok.hd hc) i2 b h2b its2.toArray
    have W := WalksT.zipD2 (A := X.A) S D1 D2
    have hi : i < min its.toArray.size its2.toArray.size := by
      have q1 := (List.getElem?_eq_some_iff.mp hu).1
      have q2 := (List.getElem?_eq_some_iff.mp hu2).1
      simp
      omega
    refine W.item i s _ _ hi ⟨hz, hTI, ⟨x0, y0, hTO⟩, ⟨h1, p⟩, ⟨h2, p2⟩⟩ fun T vals h' tk hP hsz hT hm hk => ⟨.ref T, rfl, W.go _ _ _ i T { s with heap := h', toks := tk } _ _ hm fun h'' st'' hk'' => ?_⟩
    obtain ⟨v1, v2, hv1, hv2, rfl⟩ := hP
    have e1 : v1 = u := by
      have q : its.toArray[i]? = some u := by simpa using hu
      rw [q] at hv1; cases hv1; rfl
    have e2 : v2 = u2 := by
      have q : its2.toArray[i]? = some u2 := by simpa using hu2
      rw [q] at hv2; cases hv2; rfl
    subst e1 e2
    have nT := W.apart i T h' hm
    have hT2 : h''.IsTuple T #[v1, v2] := hT.at fun o q => hk'' T o nT q
    obtain ⟨oT, hoT, hcT, nT', hdT⟩ := hT2
    have new : ObjOk X.prog X.w (upd H T (.tup [x, y])) h'' T (.tup [x, y]) :=
      ⟨by show 2 ≤ sizeLine; decide, [v1, v2], .cons ru (.cons ru2 .nil), ⟨oT, hoT, hcT, nT', hdT⟩⟩
    have nTH : H T = none := I.hok.fresh hsz
    have sub : ∀ c, c ∉ [z, TI, TO, i1, i2] → c ∉ [z, TO, i1, i2] := fun c h1 h2 => h1 (by simp at h2 ⊢; rcases h2 with q | q | q | q <;> simp [q])
    have I1 : Inv X pins σ (upd H T (.tup [x, y])) { s with heap := h'', toks := tk } :=
      I.turnedNew (ch := [z, TI, TO, i1, i2]) (fun c ob hb q => hk'' c ob (sub c hb) (hk c ob (sub c hb) q)) hf hsz new
    obtain ⟨z', TI', TO', ⟨h1', _⟩, ⟨h2', _⟩⟩ := st''
    refine ⟨.ref T, _, I1, rfl, ⟨T, x, y, rfl, nTH, rfl, fun ys hy => by rw [sq_inj I hy hqx]; exact hx, fun zs hz => by rw [sq_inj I hz hqy]; exact hy⟩, ⟨z', TI', TO', h1', h2'⟩, fun c hcm => ?_⟩
    have hlt : c < s.heap.objs.size := by
      have e' : c = z ∨ c = TI ∨ c = TO ∨ c = i1 ∨ c = i2 := by simpa using hcm
      rcases e' with q | q | q | q | q
      · rw [q]; exact Heap.lt_size hz
      · rw [q]; exact Heap.lt_size hTI
      · rw [q]; exact Heap.lt_size hTO
      · rw [q]; obtain ⟨_, e1, _⟩ := h1.obj; exact Heap.lt_size e1
      · rw [q]; obtain ⟨_, e2, _⟩ := h2.obj; exact Heap.lt_size e2
    rw [upd_ne (Nat.ne_of_lt (Nat.lt_of_lt_of_le hlt hsz))]
    exact (hf c hcm).1
  done := by
    intro X hP hw hK hc i pins s σ H E I hf st hg
    subst hP hw hK
    obtain ⟨hz, hTI, ⟨x0, y0, hTO⟩, h1, h2⟩ := st
    obtain ⟨xs, ys, hqx, hqy, hend⟩ := hg
    obtain ⟨its, rv, p, _⟩ := src_of I hqx
    obtain ⟨its2, rv2, p2, _⟩ := src_of I hqy
    have l1 := rv.length
    have l2 := rv2.length
    have D1 := draws_seq (prog := X.prog) (w := X.w) (A := X.A.in1) (k := k) (I.ok.hd hc) i1 a h1a its.toArray
    have D2 := draws_seq (prog := X.prog) (w := X.w) (A := X.A.in1) (k := l) (I.ok.hd hc) i2 b h2b its2.toArray
    have W := WalksT.zipD2 (A := X.A) S D1 D2
    have ei : min its.toArray.size its2.toArray.size = i := by simp; omega
    have sub : ∀ c, c ∉ [z, TI, TO, i1, i2] → c ∉ [z, TO, i1, i2] := fun c h1 h2 => h1 (by simp at h2 ⊢; rcases h2 with q | q | q | q <;> simp [q])
    exact W.done s _ _ ⟨hz, hTI, ⟨x0, y0, hTO⟩, ⟨by rw [ei]; exact h1, p⟩, ⟨by rw [ei]; exact h2, p2⟩⟩ fun h' tk hk => ⟨rfl, I.turnedL (t' := tk) (ch := [z, TI, TO, i1, i2]) (fun c o hb q => hk c o (sub c hb) q) hf⟩
  self := fun A i s Q E st h => wpAny_pyIter_zip st.1 h
def iZipS (K : PySem.W.Frag) (ta : TA) : TI := fun σ H R => ta σ H fun vs H1 => ∃ k l a b xs ys, vs = [.ref a, .ref b] ∧ Sq K H1 k a xs ∧ Sq K H1 l b ys ∧ R (ItzS K k l a b) H1
theorem pi_zipS {X : Cx} {e e2 : Expr} {ta : TA} {p pos tpos : Pos} {elts : List Expr} {kk : Nat} (hg : Gl X "zip") (hm : X.mg "zip" = none) (ha : PA X [e, e2] ta)
    (hs : starEach [e, e2] X.env = (false, eval e X.env) :: starEach [e2] X.env := by rfl) (hpl : (backTo pos (starEach [e2] X.env)).any (·.1) = false := by rfl) :
    PI X (.Tuple elts kk tpos) (.Call (.Name "zip" p) [e, e2] [] pos) (iZipS X.K ta) := by
  refine ⟨fun pins s σ H R I h => ?_⟩
  refine Call_ (ld_blt I hg hm PyProof.Rows.boot_zip (PyProof.Rows.callWith_type1 (thn (ha.run pos pins s σ H _ I h) fun us s1 ⟨vs, H1, I1, r1, q1⟩ => ?_) hs hpl))
  obtain ⟨k, l, a, b, xs, ys, ex, hqx, hqy, q⟩ := q1
  subst ex
  cases r1 with
  | cons r rr =>
    cases rr with
    | cons r' rr =>
      cases rr
      cases r
      cases r'
      obtain ⟨its, rv, p1, la⟩ := src_of I1 hqx
      obtain ⟨its2, rv2, p2, lb⟩ := src_of I1 hqy
      refine zip_begins2 (begins_seq k a its.toArray) (begins_seq l b its2.toArray) p1 p2 fun h' hz hTI hTO h1 h2 hsz hk => wpAny_pyIter_zip hz ?_
      have I2 : Inv X pins σ H1 { s1 with heap := h' } := I1.kept (t' := s1.toks) hk
      have n2 : b ≠ s1.heap.objs.size + 1 := Nat.ne_of_lt (Nat.lt_succ_of_lt lb)
      refine ⟨s1.heap.objs.size + 4, [s1.heap.objs.size + 4, s1.heap.objs.size + 2, s1.heap.objs.size + 3, s1.heap.objs.size, s1.heap.objs.size + 1], _, _, H1, rfl, I2,
        turn_zipS (zip_sep2 (fp1 := [a]) (fp2 := [b]) (by simpa using la) (by simpa using lb)) (Nat.ne_of_lt la) n2, ⟨hz, hTI, ⟨_, _, hTO⟩, itAt_new h1, itAt_new h2⟩, fun c hcm => ?_, q⟩
      have e' : c = s1.heap.objs.size + 4 ∨ c = s1.heap.objs.size + 2 ∨ c = s1.heap.objs.size + 3 ∨ c = s1.heap.objs.size ∨ c = s1.heap.objs.size + 1 := by simpa using hcm
      have hle : s1.heap.objs.size ≤ c := by
        rcases e' with z | z | z | z | z
        · rw [z]; exact Nat.le_add_right _ _
        · rw [z]; exact Nat.le_add_right _ _
        · rw [z]; exact Nat.le_add_right _ _
        · rw [z]; exact Nat.le_refl _
        · rw [z]; exact Nat.le_add_right _ _
      exact I1.fpOk hle (I1.hok.fresh hle)
end DL

-- DIter
set_option maxHeartbeats 4000000
/-! DIter: what is walked, targets, list comprehensions -/
namespace DL
open PySem PySem.Spec PyProof.Rows L2

/-! ### readings with the slots' number -/
theorem PE.impL {X : Cx} {e : Expr} {t t' : TE} (h : PE X e t) (i : ∀ σ H Q, σ.length = X.N.length → t' σ H Q → t σ H Q) : PE X e t' := ⟨fun pins s σ H Q I q => h.run pins s σ H Q I (i _ _ _ I.len q)⟩
theorem PS.impL {X : Cx} {e : Stmt} {t t' : TS} (h : PS X e t) (i : ∀ D σ H, σ.length = X.N.length → t' D σ H → t D σ H) : PS X e t' := ⟨fun pins s σ H D I q => h.run pins s σ H D I (i _ _ _ I.len q)⟩
theorem PI.imp {X : Cx} {tg e : Expr} {t t' : TI} (h : PI X tg e t) (i : ∀ σ H R, t' σ H R → t σ H R) : PI X tg e t' := ⟨fun pins s σ H R I q => h.run pins s σ H R I (i _ _ _ q)⟩

/-! ### what is walked -/
/-- J gives ds, as long as what is known stays -/
def Wk (B : Bs) (G1 : Hp) (J : It) (ds : List D) : Prop := ∀ (i : Nat) (G H : Hp) (P : Pen), Same G1 G → Same G H → PenOk B G H P →
  (∀ d, ds[i]? = some d → J.go i H ∧ ∀ x H', J.yld i H x H' → ∃ G', Grow G H G' H' ∧ Rep B G' d x) ∧ (ds.length = i → J.stop i H)
def tI (B : Bs) (W : XK) (m : M (List D)) : TI := fun σ H R => ∃ G0 H0 G z r z', Rel B G0 H0 z G H σ ∧ m z = some (r, z') ∧ After B W G0 H0 G σ r z' fun ds G' H' => ∀ J, Wk B G' J ds → R J H'
abbrev DI (X : Cx) (B : Bs) (W : XK) (tg e : Expr) (m : M (List D)) : Prop := PI X tg e (tI B W m)

/-- a list or a tuple, walked -/
def iSeq (K : PySem.W.Frag) (tl : TE) : TI := fun σ H R => tl σ H fun x H1 => ∃ a, x = .ref a ∧ (((∃ xs, SqL K H1 a xs) ∧ R (Itl K a) H1) ∨ ((∃ xs, SqT K H1 a xs) ∧ R (Itt K a) H1))
theorem pi_seq {X : Cx} {tg l : Expr} {tl : TE} (hl : PE X l tl) : PI X tg l (iSeq X.K tl) := by
  refine ⟨fun pins s σ H R I h => ?_⟩
  refine thn (hl.run pins s σ H _ I h) fun v s1 ⟨x, H1, I1, r1, q1⟩ => ?_
  obtain ⟨a, e, q1⟩ := q1
  subst e
  cases r1
  rcases q1 with ⟨⟨xs, hq⟩, q⟩ | ⟨⟨xs, hq⟩, q⟩
  · obtain ⟨its, rv, p, hz⟩ := I1.list hq
    refine wpAny_pyIter_list p.isList ?_
    refine ⟨s1.heap.objs.size, [s1.heap.objs.size], _, _, H1, rfl, I1.kept (t' := s1.toks) fun b o e => Heap.get?_push_of_some _ e, turn_list a _, ⟨_, Heap.get?_push_size _ rfl, rfl, rfl⟩, fun b hb => ?_, q⟩
    have e : b = s1.heap.objs.size := by simpa using hb
    subst e
    exact I1.fpOk (Nat.le_refl _) (I1.hok.fresh (Nat.le_refl _))
  · obtain ⟨its, rv, p, hz⟩ := I1.tuple hq
    refine wpAny_pyIter_tuple (show s1.heap.IsTuple a its.toArray from p) ?_
    refine ⟨s1.heap.objs.size, [s1.heap.objs.size], _, _, H1, rfl, I1.kept (t' := s1.toks) fun b o e => Heap.get?_push_of_some _ e, turn_tuple a _, ⟨_, Heap.get?_push_size _ rfl, rfl, rfl⟩, fun b hb => ?_, q⟩
    have e : b = s1.heap.objs.size := by simpa using hb
    subst e
    exact I1.fpOk (Nat.le_refl _) (I1.hok.fresh (Nat.le_refl _))

section
variable {X : Cx} {B : Bs} {W : XK} {pos : Pos} {tg a b c e : Expr} {m : M D} {ms : M (List D)}

theorem some_get {xs : List V} {ds : List D} {G : Hp} {i : Nat} {d : D} (h : Reps B G ds xs) (hd : ds[i]? = some d) : ∃ v, xs[i]? = some v ∧ Rep B G d v := h.get hd
theorem wk_tup {G1 : Hp} {a : Addr} {ds : List D} {vs : List V} (h1 : SqT B.K G1 a vs) (h2 : Reps B G1 ds vs) : Wk B G1 (Itt B.K a) ds := fun i G H P s1 s2 pn => ⟨fun d hd => by
  obtain ⟨v, q1, q2⟩ := h2.get hd
  have q := sqT_mono s2 (sqT_mono s1 h1)
  refine ⟨⟨vs, v, q, q1⟩, fun x H' y => ?_⟩
  obtain ⟨rfl, y⟩ := y
  have := y vs q
  rw [q1] at this
  cases this
  exact ⟨G, .refl s2, Rep.mono s1 _ _ q2⟩, fun hl => ⟨vs, sqT_mono s2 (sqT_mono s1 h1), by rw [← h2.length, hl]; exact Nat.le_refl _⟩⟩
theorem wk_lst {G1 : Hp} {a : Addr} {ds : List D} {vs : List V} (h1 : SqL B.K G1 a vs) (h2 : Reps B G1 ds vs) : Wk B G1 (Itl B.K a) ds := fun i G H P s1 s2 pn => ⟨fun d hd => by
  obtain ⟨v, q1, q2⟩ := h2.get hd
  have q := sqL_mono s2 (sqL_mono s1 h1)
  refine ⟨⟨vs, v, q, q1⟩, fun x H' y => ?_⟩
  obtain ⟨rfl, y⟩ := y
  have := y vs q
  rw [q1] at this
  cases this
  exact ⟨G, .refl s2, Rep.mono s1 _ _ q2⟩, fun hl => ⟨vs, sqL_mono s2 (sqL_mono s1 h1), by rw [← h2.length, hl]; exact Nat.le_refl _⟩⟩
/-- the items of a list or tuple -/
def seqD : D → Option (List D)
  | .lst xs => some xs
  | .tup xs => some xs
  | _ => none
theorem di_seq (hc : Ctx X B W) (h : DE X B W e m) : DI X B W tg e (mLft m seqD) := PI.imp (pi_seq h) fun σ H R ⟨G0, H0, G, z, r, z', Rl, hm, hA⟩ => by
  obtain ⟨r1, z1, m1, A1⟩ := After.bnd (K := fun d G1 H1 => ∀ v, Rep B G1 d v → ∃ a, v = .ref a ∧ (((∃ xs, SqL X.K H1 a xs) ∧ R (Itl X.K a) H1) ∨ ((∃ xs, SqT X.K H1 a xs) ∧ R (Itt X.K a) H1))) hm hA fun d z1 G1 H1 R1 s1 hm hA v q1 => by
    obtain ⟨ds, hf, rfl, rfl⟩ := lft_ok hm
    rw [← hc.hK]
    cases d with
    | lst xs =>
      cases hf
      obtain ⟨a, vs, rfl, h1, h2⟩ := q1
      have hq : SqL B.K G1 a vs := .inl (.inl h1)
      exact ⟨a, rfl, .inl ⟨⟨vs, sqL_mono R1.ex hq⟩, hA G1 H1 R1 (Same.refl _) _ (wk_lst hq h2)⟩⟩
    | tup xs =>
      cases hf
      obtain ⟨a, vs, rfl, h1, h2⟩ := q1
      exact ⟨a, rfl, .inr ⟨⟨vs, sqT_mono R1.ex h1⟩, hA G1 H1 R1 (Same.refl _) _ (wk_tup h1 h2)⟩⟩
    | _ => cases hf
  exact ⟨G0, H0, G, z, r1, z1, Rl, m1, A1⟩

/-! ranges -/
def rngL (i j : Int) : List D := (List.range (j - i).toNat).map fun (k : Nat) => D.int (i + k)
def rng1 : List D → Option (List D)
  | [.int j] => if -(2 ^ 62) ≤ j ∧ j < 2 ^ 62 then some (rngL 0 j) else none
  | _ => none
def rng2 : List D → Option (List D)
  | [.int i, .int j] => if -(2 ^ 62) ≤ i ∧ i < 2 ^ 62 ∧ -(2 ^ 62) ≤ j ∧ j < 2 ^ 62 then some (rngL i j) else none
  | _ => none
theorem rng1_ok {ds r : List D} (h : rng1 ds = some r) : ∃ j : Int, ds = [.int j] ∧ -(2 ^ 62) ≤ j ∧ j < 2 ^ 62 ∧ r = rngL 0 j := by
  unfold rng1 at h
  split at h
  · split at h
    · rename_i hb
      injection h with h
      exact ⟨_, rfl, hb.1, hb.2, h.symm⟩
    · cases h
  · cases h
theorem rng2_ok {ds r : List D} (h : rng2 ds = some r) : ∃ i j : Int, ds = [.int i, .int j] ∧ (-(2 ^ 62) ≤ i ∧ i < 2 ^ 62 ∧ -(2 ^ 62) ≤ j ∧ j < 2 ^ 62) ∧ r = rngL i j := by
  unfold rng2 at h
  split at h
  · split at h
    · rename_i hb
      injection h with h
      exact ⟨_, _, rfl, hb, h.symm⟩
    · cases h
  · cases h
theorem wk_rng {G1 : Hp} {i j : Int} : Wk B G1 (Itr i (j - i).toNat) (rngL i j) := fun k G H P s1 s2 pn => by
  refine ⟨fun d hd => ?_, fun hl => ?_⟩
  · unfold rngL at hd
    rw [List.getElem?_map] at hd
    by_cases hk : k < (j - i).toNat
    · rw [List.getElem?_eq_getElem (by simpa using hk)] at hd
      simp at hd
      refine ⟨hk, fun x H' y => ?_⟩
      obtain ⟨rfl, rfl⟩ := y
      subst hd
      exact ⟨G, .refl s2, rfl⟩
    · rw [List.getElem?_eq_none (by simpa using hk)] at hd
      exact absurd hd (by simp)
  · have e : (rngL i j).length = (j - i).toNat := by simp [rngL]
    rw [e] at hl
    exact Nat.le_of_eq hl
theorem Reps.one {G : Hp} {ds : List D} {vs : List V} {d : D} (h : Reps B G [d] vs) : ∃ v, vs = [v] ∧ Rep B G d v := by
  obtain ⟨v, r, e, h1, h2⟩ := h
  cases h2
  exact ⟨v, e, h1⟩
theorem Reps.two {G : Hp} {vs : List V} {d e : D} (h : Reps B G [d, e] vs) : ∃ v u, vs = [v, u] ∧ Rep B G d v ∧ Rep B G e u := by
  obtain ⟨v, r, e1, h1, u, r', e2, h2, h3⟩ := h
  cases h3
  subst e2
  exact ⟨v, u, e1, h1, h2⟩
theorem di_rng1 {p : Pos} (hg : Gl X "range") (hm : X.mg "range" = none) (ha : DA X B W [a] ms) (hs : starEach [a] X.env = [(false, eval a X.env)] := by rfl) : DI X B W tg (.Call (.Name "range" p) [a] [] pos) (mLft ms rng1) := PI.imp (pi_range1 hg hm ha hs) fun σ H R ⟨G0, H0, G, z, r, z', Rl, hm, hA⟩ => by
  obtain ⟨r1, z1, m1, A1⟩ := After.bnd (K := fun ds G1 H1 => ∀ vs, Reps B G1 ds vs → ∃ j : Int, vs = [.int j] ∧ -(2 ^ 62) ≤ j ∧ j < 2 ^ 62 ∧ R (Itr 0 j.toNat) H1) hm hA fun ds z1 G1 H1 R1 s1 hm hA vs q1 => by
    obtain ⟨ds', hf, rfl, rfl⟩ := lft_ok hm
    obtain ⟨j, rfl, h1, h2, rfl⟩ := rng1_ok hf
    obtain ⟨v, rfl, q⟩ := Reps.one (ds := []) q1
    cases q
    have hh := hA G1 H1 R1 (Same.refl _) (Itr 0 (j - 0).toNat) wk_rng
    rw [Int.sub_zero] at hh
    exact ⟨j, rfl, h1, h2, hh⟩
  exact ⟨G0, H0, G, z, r1, z1, Rl, m1, A1⟩
theorem di_rng2 {p : Pos} (hg : Gl X "range") (hm : X.mg "range" = none) (ha : DA X B W [a, b] ms) (hs : starEach [a, b] X.env = [(false, eval a X.env), (false, eval b X.env)] := by rfl) (hs2 : starEach [b] X.env = [(false, eval b X.env)] := by rfl) :
    DI X B W tg (.Call (.Name "range" p) [a, b] [] pos) (mLft ms rng2) := PI.imp (pi_range2 hg hm ha hs hs2) fun σ H R ⟨G0, H0, G, z, r, z', Rl, hm, hA⟩ => by
  obtain ⟨r1, z1, m1, A1⟩ := After.bnd (K := fun ds G1 H1 => ∀ vs, Reps B G1 ds vs → ∃ i j : Int, vs = [.int i, .int j] ∧ (-(2 ^ 62) ≤ i ∧ i < 2 ^ 62 ∧ -(2 ^ 62) ≤ j ∧ j < 2 ^ 62) ∧ R (Itr i (j - i).toNat) H1) hm hA fun ds z1 G1 H1 R1 s1 hm hA vs q1 => by
    obtain ⟨ds', hf, rfl, rfl⟩ := lft_ok hm
    obtain ⟨i, j, rfl, hb, rfl⟩ := rng2_ok hf
    obtain ⟨v, u, rfl, q, q'⟩ := Reps.two q1
    cases q; cases q'
    exact ⟨i, j, rfl, hb, hA G1 H1 R1 (Same.refl _) _ wk_rng⟩
  exact ⟨G0, H0, G, z, r1, z1, Rl, m1, A1⟩

/-! enumerate, zip of two -/
def enD : List D → Option (List D)
  | [d] => (seqD d).map fun xs => (List.range xs.length).zipWith (fun (k : Nat) x => D.tup [.int k, x]) xs
  | _ => none
def zipL (xs ys : List D) : List D := List.zipWith (fun x y => D.tup [x, y]) xs ys
def zipD : List D → Option (List D)
  | [d, e] => match seqD d, seqD e with
    | some xs, some ys => some (zipL xs ys)
    | _, _ => none
  | _ => none
theorem sq_of {G : Hp} {d : D} {v : V} {xs : List D} (h : seqD d = some xs) (r : Rep B G d v) : ∃ k a vs, v = .ref a ∧ Sq B.K G k a vs ∧ Reps B G xs vs := by
  cases d with
  | lst ds =>
    cases h
    obtain ⟨a, vs, rfl, h1, h2⟩ := r
    exact ⟨true, a, vs, rfl, .inl (.inl h1), h2⟩
  | tup ds =>
    cases h
    obtain ⟨a, vs, rfl, h1, h2⟩ := r
    exact ⟨false, a, vs, rfl, h1, h2⟩
  | _ => cases h
theorem sq_mono {G G' : Hp} {K : PySem.W.Frag} {k : Bool} {a : Addr} {vs : List V} (s : Same G G') (h : Sq K G k a vs) : Sq K G' k a vs := by
  cases k with
  | true => exact sqL_mono s h
  | false => exact sqT_mono s h
theorem wk_enum {G1 : Hp} {k : Bool} {a : Addr} {ds : List D} {vs : List V} (h1 : Sq B.K G1 k a vs) (h2 : Reps B G1 ds vs) : Wk B G1 (IteS B.K k a) ((List.range ds.length).zipWith (fun (k : Nat) x => D.tup [.int k, x]) ds) := fun i G H P s1 s2 pn => by
  have q := sq_mono s2 (sq_mono s1 h1)
  refine ⟨fun d hd => ?_, fun hl => ⟨vs, q, ?_⟩⟩
  · rw [List.getElem?_zipWith] at hd
    cases e : ds[i]? with
    | none => rw [e] at hd; simp at hd
    | some u =>
      have hlt : i < ds.length := (List.getElem?_eq_some_iff.mp e).1
      rw [e, List.getElem?_range hlt] at hd
      simp at hd
      subst hd
      obtain ⟨v, q1, q2⟩ := h2.get e
      refine ⟨⟨vs, v, q, q1⟩, fun x H' y => ?_⟩
      obtain ⟨T, w, rfl, nT, rfl, y⟩ := y
      have y := y vs q
      rw [q1] at y
      cases y
      have g := Grow.new (o := .tup [.int (i : Nat), v]) s2 nT
      exact ⟨_, g, T, _, rfl, .inl (.inl upd_same), .cons rfl (.cons (Rep.mono (s1.trans g.g) _ _ q2) .nil)⟩
  · rw [← h2.length, ← hl]
    simp
theorem di_enum {p tpos : Pos} {elts : List Expr} {kk : Nat} (hc : Ctx X B W) (hg : Gl X "enumerate") (hm : X.mg "enumerate" = none) (ha : DA X B W [a] ms) (hs : starEach [a] X.env = [(false, eval a X.env)] := by rfl) : DI X B W (.Tuple elts kk tpos) (.Call (.Name "enumerate" p) [a] [] pos) (mLft ms enD) := PI.imp (pi_enumS hg hm ha hs) fun σ H R ⟨G0, H0, G, z, r, z', Rl, hm, hA⟩ => by
  obtain ⟨r1, z1, m1, A1⟩ := After.bnd (K := fun ds G1 H1 => ∀ vs, Reps B G1 ds vs → ∃ k a xs, vs = [.ref a] ∧ Sq X.K H1 k a xs ∧ R (IteS X.K k a) H1) hm hA fun ds z1 G1 H1 R1 s1 hm hA vs q1 => by
    obtain ⟨ds', hf, rfl, rfl⟩ := lft_ok hm
    rw [← hc.hK]
    match ds, hf with
    | [d], hf =>
      cases e : seqD d with
      | none => rw [show enD [d] = none by simp [enD, e]] at hf; cases hf
      | some xs =>
        rw [show enD [d] = some ((List.range xs.length).zipWith (fun (k : Nat) x => D.tup [.int k, x]) xs) by simp [enD, e]] at hf
        injection hf with hf
        subst hf
        obtain ⟨v, rfl, q⟩ := Reps.one (ds := []) q1
        obtain ⟨k, a, us, rfl, h1, h2⟩ := sq_of e q
        exact ⟨k, a, us, rfl, sq_mono R1.ex h1, hA G1 H1 R1 (Same.refl _) _ (wk_enum h1 h2)⟩
  exact ⟨G0, H0, G, z, r1, z1, Rl, m1, A1⟩
theorem wk_zip {G1 : Hp} {k l : Bool} {a b : Addr} {ds es : List D} {vs us : List V} (h1 : Sq B.K G1 k a vs) (h2 : Reps B G1 ds vs) (h3 : Sq B.K G1 l b us) (h4 : Reps B G1 es us) : Wk B G1 (ItzS B.K k l a b) (zipL ds es) := fun i G H P s1 s2 pn => by
  have q := sq_mono s2 (sq_mono s1 h1)
  have q' := sq_mono s2 (sq_mono s1 h3)
  refine ⟨fun d hd => ?_, fun hl => ⟨vs, us, q, q', ?_⟩⟩
  · unfold zipL at hd
    rw [List.getElem?_zipWith] at hd
    cases e : ds[i]? with
    | none => rw [e] at hd; simp at hd
    | some u =>
      cases e2 : es[i]? with
      | none => rw [e, e2] at hd; simp at hd
      | some w =>
        rw [e, e2] at hd
        simp at hd
        subst hd
        obtain ⟨v, q1, q2⟩ := h2.get e
        obtain ⟨v', q3, q4⟩ := h4.get e2
        refine ⟨⟨vs, us, v, v', q, q', q1, q3⟩, fun x H' y => ?_⟩
        obtain ⟨T, w1, w2, rfl, nT, rfl, y, y'⟩ := y
        have y := y vs q
        have y' := y' us q'
        rw [q1] at y
        rw [q3] at y'
        cases y; cases y'
        have g := Grow.new (o := .tup [v, v']) s2 nT
        exact ⟨_, g, T, _, rfl, .inl (.inl upd_same), .cons (Rep.mono (s1.trans g.g) _ _ q2) (.cons (Rep.mono (s1.trans g.g) _ _ q4) .nil)⟩
  · rw [← h2.length, ← h4.length, ← hl]
    simp [zipL]
theorem zipD_ok {ds r : List D} (h : zipD ds = some r) : ∃ d e xs ys, ds = [d, e] ∧ seqD d = some xs ∧ seqD e = some ys ∧ r = zipL xs ys := by
  unfold zipD at h
  split at h
  · split at h
    · injection h with h
      exact ⟨_, _, _, _, rfl, by assumption, by assumption, h.symm⟩
    · cases h
  · cases h
theorem di_zip {p tpos : Pos} {elts : List Expr} {kk : Nat} (hc : Ctx X B W) (hg : Gl X "zip") (hm : X.mg "zip" = none) (ha : DA X B W [a, b] ms) (hs : starEach [a, b] X.env = (false, eval a X.env) :: starEach [b] X.env := by rfl) (hpl : (backTo pos (starEach [b] X.env)).any (·.1) = false := by rfl) :
    DI X B W (.Tuple elts kk tpos) (.Call (.Name "zip" p) [a, b] [] pos) (mLft ms zipD) := PI.imp (pi_zipS hg hm ha hs hpl) fun σ H R ⟨G0, H0, G, z, r, z', Rl, hm, hA⟩ => by
  obtain ⟨r1, z1, m1, A1⟩ := After.bnd (K := fun ds G1 H1 => ∀ vs, Reps B G1 ds vs → ∃ k l a b xs ys, vs = [.ref a, .ref b] ∧ Sq X.K H1 k a xs ∧ Sq X.K H1 l b ys ∧ R (ItzS X.K k l a b) H1) hm hA fun ds z1 G1 H1 R1 s1 hm hA vs q1 => by
    obtain ⟨ds', hf, rfl, rfl⟩ := lft_ok hm
    rw [← hc.hK]
    obtain ⟨d, e, xs, ys, rfl, e1, e2, rfl⟩ := zipD_ok hf
    obtain ⟨v, u, rfl, q, q'⟩ := Reps.two q1
    obtain ⟨k, a, vs, rfl, h1, h2⟩ := sq_of e1 q
    obtain ⟨l, b, us, rfl, h3, h4⟩ := sq_of e2 q'
    exact ⟨k, l, a, b, vs, us, rfl, sq_mono R1.ex h1, sq_mono R1.ex h3, hA G1 H1 R1 (Same.refl _) _ (wk_zip h1 h2 h3 h4)⟩
  exact ⟨G0, H0, G, z, r1, z1, Rl, m1, A1⟩
end

/-! ### targets: vs the slots that change -/
def gD (B : Bs) (vs : List Nat) (f : D → Z → Option Z) : TG := fun v σ H Q => ∃ G0 H0 G z d z', Rel B G0 H0 z G H σ ∧ Rep B G d v ∧ f d z = some z' ∧ ∀ σ', σ'.length = σ.length → (∀ j, j ∉ vs → σ'[j]? = σ[j]?) → Rel B G0 H0 z' G H σ' → Q σ' H
def gDs (B : Bs) (vs : List Nat) (f : List D → Z → Option Z) : TGs := fun us σ H Q => ∃ G0 H0 G z ds z', Rel B G0 H0 z G H σ ∧ Reps B G ds us ∧ f ds z = some z' ∧ ∀ σ', σ'.length = σ.length → (∀ j, j ∉ vs → σ'[j]? = σ[j]?) → Rel B G0 H0 z' G H σ' → Q σ' H
abbrev DG (X : Cx) (B : Bs) (vs : List Nat) (tg : Expr) (f : D → Z → Option Z) : Prop := PG X tg (gD B vs f)
abbrev DGs (X : Cx) (B : Bs) (vs : List Nat) (tg : List Expr) (f : List D → Z → Option Z) : Prop := PGs X tg (gDs B vs f)
def setV (i : Nat) (d : D) (z : Z) : Option Z := some ⟨z.S.set i (.va d), z.P⟩
def setNil (ds : List D) (z : Z) : Option Z := match ds with
  | [] => some z
  | _ => none
def setCons (f : D → Z → Option Z) (g : List D → Z → Option Z) (ds : List D) (z : Z) : Option Z := match ds with
  | d :: r => (f d z).bind (g r)
  | [] => none
def setTup (n : Nat) (g : List D → Z → Option Z) (d : D) (z : Z) : Option Z := match d with
  | .tup ds => if ds.length = n then g ds z else none
  | _ => none
section
variable {X : Cx} {B : Bs} {W : XK} {pos : Pos} {tg a b c e : Expr} {m : M D} {ms : M (List D)}
theorem Rel.setV {G0 H0 G H : Hp} {z : Z} {σ : Sg} {i : Nat} {d : D} {v : V} (R : Rel B G0 H0 z G H σ) (hi : i < σ.length) (r : Rep B G d v) : Rel B G0 H0 ⟨z.S.set i (.va d), z.P⟩ G H (σ.set i (some v)) where
  ex := R.ex
  g0 := R.g0
  fr := R.fr
  nw := R.nw
  pen := R.pen
  va := fun j e q => by
    by_cases hj : i = j
    · subst hj
      have hl : i < z.S.length := by
        have := (List.getElem?_eq_some_iff.mp q).1
        simpa using this
      rw [List.getElem?_set_self hl] at q
      cases q
      exact ⟨v, by rw [List.getElem?_set_self hi], r⟩
    · rw [List.getElem?_set_ne hj] at q
      rw [List.getElem?_set_ne hj]
      exact R.va j e q
  ow := fun j e q => by
    by_cases hj : i = j
    · subst hj
      have hl : i < z.S.length := by
        have := (List.getElem?_eq_some_iff.mp q).1
        simpa using this
      rw [List.getElem?_set_self hl] at q
      cases q
    · rw [List.getElem?_set_ne hj] at q
      rw [List.getElem?_set_ne hj]
      exact R.ow j e q
  ap := fun j k x y b q1 q2 ne h1 h2 => by
    have key : ∀ {j : Nat} {x : D}, (z.S.set i (.va d))[j]? = some (.ow x) → i ≠ j ∧ z.S[j]? = some (.ow x) := fun {j x} q => by
      by_cases hj : i = j
      · subst hj
        have hl : i < z.S.length := by
          have := (List.getElem?_eq_some_iff.mp q).1
          simpa using this
        rw [List.getElem?_set_self hl] at q
        cases q
      · rw [List.getElem?_set_ne hj] at q
        exact ⟨hj, q⟩
    obtain ⟨n1, q1⟩ := key q1
    obtain ⟨n2, q2⟩ := key q2
    rw [List.getElem?_set_ne n1] at h1
    rw [List.getElem?_set_ne n2] at h2
    exact R.ap j k x y b q1 q2 ne h1 h2
theorem dg_name {i : Nat} {x : Str} (hc : Ctx X B W) (hi : X.N[i]? = some x) (hx : Loc X.env.scope x) (hf : X.fn x = true ∨ X.env.scope.names.lookup x = some .local := by first | exact .inl rfl | exact .inr rfl | assumption) : DG X B [i] (.Name x pos) (setV i) := by
  refine ⟨fun pins s σ H v u Q I r ⟨G0, H0, G, z, d, z', R, rp, hf', hk⟩ => (pg_name (pos := pos) hc.nd hi hx hf).run pins s σ H v u Q I r ?_⟩
  cases hf'
  have hl : i < σ.length := by rw [I.len]; exact (List.getElem?_eq_some_iff.mp hi).1
  exact hk _ (by simp) (fun j hj => by rw [List.getElem?_set_ne (fun e => hj (by simp [e]))]) (R.setV hl rp)
theorem dgs_nil {vs : List Nat} : DGs X B vs [] setNil := ⟨fun pins s σ H us u Q I r ⟨G0, H0, G, z, ds, z', R, rp, hf', hk⟩ => pgs_nil.run pins s σ H us u Q I r (by
  cases ds with
  | nil => cases rp; cases hf'; exact ⟨rfl, hk σ rfl (fun _ _ => rfl) R⟩
  | cons d r => cases hf')⟩
theorem dgs_cons {vs us : List Nat} {e : Expr} {es : List Expr} {f : D → Z → Option Z} {g : List D → Z → Option Z} (h1 : DG X B vs e f) (h2 : DGs X B us es g)
    (hs : (assignEach (e :: es) X.env).map (·.2) = assign e X.env :: (assignEach es X.env).map (·.2) := by rfl) : DGs X B (vs ++ us) (e :: es) (setCons f g) := ⟨fun pins s σ H xs u Q I r ⟨G0, H0, G, z, ds, z', R, rp, hf', hk⟩ => (pgs_cons h1 h2 hs).run pins s σ H xs u Q I r (by
  cases ds with
  | nil => cases hf'
  | cons d ds =>
    obtain ⟨v, rr, rfl, q1, q2⟩ := rp
    cases e1 : f d z with
    | none => simp [setCons, e1] at hf'
    | some z1 =>
      have hf' : g ds z1 = some z' := by simpa [setCons, e1] using hf'
      exact ⟨v, rr, rfl, G0, H0, G, z, d, z1, R, q1, e1, fun σ1 l1 a1 R1 => ⟨G0, H0, G, z1, ds, z', R1, q2, hf', fun σ2 l2 a2 R2 => hk σ2 (l2.trans l1) (fun j hj => by
        rw [a2 j (fun h => hj (List.mem_append_right _ h)), a1 j (fun h => hj (List.mem_append_left _ h))]) R2⟩⟩)⟩
theorem dg_tup {vs : List Nat} {es : List Expr} {k : Nat} {g : List D → Z → Option Z} {n : Nat} (hc : Ctx X B W) (h : DGs X B vs es g)
    (hn : (assignEach es X.env).length = n := by rfl) (hst : (assignEach es X.env).findIdx? (·.1) = none := by rfl) : DG X B vs (.Tuple es k pos) (setTup n g) := ⟨fun pins s σ H v u Q I r ⟨G0, H0, G, z, d, z', R, rp, hf', hk⟩ => (pg_tup hc.calm h hn hst).run pins s σ H v u Q I r (by
  unfold setTup at hf'
  split at hf'
  · split at hf'
    · rename_i ds hl
      obtain ⟨a, xs, rfl, h1, h2⟩ := rp
      exact ⟨a, xs, rfl, by rw [← hc.hK]; exact sqT_mono R.ex h1, by rw [← h2.length]; exact hl, G0, H0, G, z, ds, z', R, h2, hf', hk⟩
    · cases hf'
  · cases hf')⟩
end
end DL

-- DComp
set_option maxHeartbeats 4000000
/-! DComp: list comprehensions -/
namespace DL
open PySem PySem.Spec PyProof.Rows L2

/-! ### a new object of the frame's own is kept as it is -/
section
variable {B : Bs} {G0 H0 G H : Hp} {z : Z} {σ : Sg} {a : Addr} {o : HO} {us us' : List V}
theorem Rel.lay (R : Rel B G0 H0 z G H σ) (n : H a = none) : Rel B G0 (upd H0 a o) z G (upd H a o) σ := by
  have nG : G a = none := Same.dom R.ex n
  have np : B.cold a := (R.fresh n).2.2.1
  refine ⟨fun b u q => ?_, R.g0, fun b u q hp => ?_, fun b u q => ?_, R.pen.upd np (fun c q z => by rw [n] at z; cases z), R.va, fun i d q => ?_, R.ap⟩
  · rw [upd_ne (ne_of_none q nG)]; exact R.ex _ _ q
  · by_cases hb : b = a
    · subst hb; rw [upd_same] at q ⊢; exact q
    · rw [upd_ne hb] at q ⊢; exact R.fr b u q hp
  · have hb : b ≠ a := ne_of_none q nG
    rw [upd_ne hb]; exact R.nw b u q
  · obtain ⟨b, u, q1, q2, q3, q4, q5, q6⟩ := R.ow i d q
    have ne : b ≠ a := ne_of_none q2 n
    exact ⟨b, u, q1, by rw [upd_ne ne]; exact q2, q3, q4, by rw [upd_ne ne]; exact q5, q6⟩
theorem Rel.laid (R : Rel B G0 (upd H0 a o) z G H σ) (nG0 : G0 a = none) (np : B.cold a) : H a = some o ∧ G a = none := by
  refine ⟨R.fr a o upd_same np, ?_⟩
  cases q : G a with
  | none => rfl
  | some u =>
    rcases R.nw a u q with h | h
    · rw [nG0] at h; cases h
    · rw [upd_same] at h; cases h
theorem Rel.relay (R : Rel B G0 (upd H0 a (.lst us)) z G H σ) (nG0 : G0 a = none) (np : B.cold a) : Rel B G0 (upd H0 a (.lst us')) z G (upd H a (.lst us')) σ := by
  obtain ⟨ha, nG⟩ := R.laid nG0 np
  refine ⟨fun b u q => ?_, R.g0, fun b u q hp => ?_, fun b u q => ?_, R.pen.upd np (fun c q z => by rw [ha] at z; exact codeO_lst (Option.some.inj z).symm), R.va, fun i d q => ?_, R.ap⟩
  · rw [upd_ne (ne_of_none q nG)]; exact R.ex _ _ q
  · by_cases hb : b = a
    · subst hb; rw [upd_same] at q ⊢; exact q
    · rw [upd_ne hb] at q ⊢; exact R.fr b u (by rw [upd_ne hb]; exact q) hp
  · have hb : b ≠ a := ne_of_none q nG
    rw [upd_ne hb]
    have := R.nw b u q
    rw [upd_ne hb] at this
    exact this
  · obtain ⟨b, u, q1, q2, q3, q4, q5, q6⟩ := R.ow i d q
    have ne : b ≠ a := fun z => by subst z; rw [upd_same] at q5; cases q5
    rw [upd_ne ne] at q5
    exact ⟨b, u, q1, by rw [upd_ne ne]; exact q2, q3, q4, by rw [upd_ne ne]; exact q5, q6⟩
theorem Rel.unlay (R : Rel B G0 (upd H0 a o) z G H σ) (nG0 : G0 a = none) (nH0 : H0 a = none) : Rel B G0 H0 z G H σ where
  ex := R.ex
  g0 := R.g0
  fr := fun b u q hp => R.fr b u (by rw [upd_ne (ne_of_none q nH0)]; exact q) hp
  nw := fun b u q => by
    rcases R.nw b u q with h | h
    · exact .inl h
    · by_cases hb : b = a
      · subst hb; exact .inr nH0
      · rw [upd_ne hb] at h; exact .inr h
  pen := R.pen
  va := R.va
  ow := fun i d q => by
    obtain ⟨b, u, q1, q2, q3, q4, q5, q6⟩ := R.ow i d q
    have ne : b ≠ a := fun z => by subst z; rw [upd_same] at q5; cases q5
    rw [upd_ne ne] at q5
    exact ⟨b, u, q1, q2, q3, q4, q5, q6⟩
  ap := R.ap
end

/-! ### the block's own slots -/
def wipeS (S : List Sl) : List Nat → List Sl
  | [] => S
  | v :: vs => (wipeS S vs).set v .un
def wipeZ (vs : List Nat) (z : Z) : Z := ⟨wipeS z.S vs, z.P⟩
theorem wipeS_get {S : List Sl} {i : Nat} {x : Sl} : ∀ {vs : List Nat}, (wipeS S vs)[i]? = some x → x = .un ∨ (S[i]? = some x ∧ i ∉ vs)
  | [], h => .inr ⟨h, by simp⟩
  | v :: vs, h => by
    unfold wipeS at h
    by_cases hi : v = i
    · subst hi
      by_cases hv : v < (wipeS S vs).length
      · rw [List.getElem?_set_self hv] at h; exact .inl (by cases h; rfl)
      · rw [List.getElem?_eq_none (by simpa using hv)] at h; cases h
    · rw [List.getElem?_set_ne hi] at h
      rcases wipeS_get h with q | ⟨q1, q2⟩
      · exact .inl q
      · exact .inr ⟨q1, by simp [q2, Ne.symm hi]⟩
/-- behind the block: as it was -/
def backS (S0 S : List Sl) : List Nat → List Sl
  | [] => S
  | v :: vs => (backS S0 S vs).set v (match S0[v]? with
    | some (.va d) => .va d
    | _ => .un)
theorem backS_get {S0 S : List Sl} {i : Nat} {x : Sl} : ∀ {vs : List Nat}, (backS S0 S vs)[i]? = some x → x = .un ∨ (S[i]? = some x ∧ i ∉ vs) ∨ ∃ d, x = .va d ∧ S0[i]? = some (.va d)
  | [], h => .inr (.inl ⟨h, by simp⟩)
  | v :: vs, h => by
    unfold backS at h
    by_cases hi : v = i
    · subst hi
      by_cases hv : v < (backS S0 S vs).length
      · rw [List.getElem?_set_self hv] at h
        injection h with h
        split at h
        · rename_i d e
          exact .inr (.inr ⟨d, h.symm, e⟩)
        · exact .inl h.symm
      · rw [List.getElem?_eq_none (by simpa using hv)] at h; cases h
    · rw [List.getElem?_set_ne hi] at h
      rcases backS_get h with q | ⟨q1, q2⟩ | q
      · exact .inl q
      · exact .inr (.inl ⟨q1, by simp [q2, Ne.symm hi]⟩)
      · exact .inr (.inr q)
section
variable {B : Bs} {G0 H0 G H : Hp} {z : Z} {σ σ' : Sg} {vs : List Nat}
/-- slots outside vs as they were, vs forgotten -/
theorem Rel.wipe (R : Rel B G0 H0 z G H σ) (h : ∀ j, j ∉ vs → σ'[j]? = σ[j]?) : Rel B G0 H0 (wipeZ vs z) G H σ' where
  ex := R.ex
  g0 := R.g0
  fr := R.fr
  nw := R.nw
  pen := R.pen
  va := fun i d q => by
    rcases wipeS_get q with q | ⟨q, n⟩
    · cases q
    · rw [h i n]; exact R.va i d q
  ow := fun i d q => by
    rcases wipeS_get q with q | ⟨q, n⟩
    · cases q
    · rw [h i n]; exact R.ow i d q
  ap := fun i j d e a q1 q2 ne h1 h2 => by
    rcases wipeS_get q1 with q1 | ⟨q1, n1⟩
    · cases q1
    · rcases wipeS_get q2 with q2 | ⟨q2, n2⟩
      · cases q2
      · rw [h i n1] at h1
        rw [h j n2] at h2
        exact R.ap i j d e a q1 q2 ne h1 h2
theorem Rel.back {z0 : Z} (R : Rel B G0 H0 z G H σ') (h : ∀ j, j ∉ vs → σ'[j]? = σ[j]?) (h0 : ∀ (i : Nat) (d : D), z0.S[i]? = some (.va d) → ∃ v, σ[i]? = some (some v) ∧ Rep B G d v) : Rel B G0 H0 ⟨backS z0.S z.S vs, z.P⟩ G H σ where
  ex := R.ex
  g0 := R.g0
  fr := R.fr
  nw := R.nw
  pen := R.pen
  va := fun i d q => by
    rcases backS_get q with q | ⟨q, n⟩ | ⟨e, q1, q⟩
    · cases q
    · rw [← h i n]; exact R.va i d q
    · cases q1; exact h0 i d q
  ow := fun i d q => by
    rcases backS_get q with q | ⟨q, n⟩ | ⟨e, q1, q⟩
    · cases q
    · rw [← h i n]; exact R.ow i d q
    · cases q1
  ap := fun i j d e a q1 q2 ne h1 h2 => by
    rcases backS_get q1 with q1 | ⟨q1, n1⟩ | ⟨e, q1, _⟩
    · cases q1
    · rcases backS_get q2 with q2 | ⟨q2, n2⟩ | ⟨e, q2, _⟩
      · cases q2
      · rw [← h i n1] at h1
        rw [← h j n2] at h2
        exact R.ap i j d e a q1 q2 ne h1 h2
      · cases q2
    · cases q1
theorem wipe_off : ∀ {vs : List Nat}, ∀ j, j ∉ vs → (L2.wipe σ vs)[j]? = σ[j]? := fun j h => wipe_out h
theorem wipe_eq : ∀ {vs : List Nat} {σ σ' : Sg}, σ'.length = σ.length → (∀ j, j ∉ vs → σ'[j]? = σ[j]?) → L2.wipe σ' vs = L2.wipe σ vs
  | vs, σ, σ', hl, h => by
    apply List.ext_getElem?
    intro j
    by_cases hj : j ∈ vs
    · have key : ∀ {τ : Sg} {us : List Nat}, j ∈ us → (L2.wipe τ us)[j]? = if j < τ.length then some none else none := fun {τ us} => by
        induction us with
        | nil => intro h; cases h
        | cons u us ih =>
          intro h
          unfold L2.wipe
          by_cases hu : u = j
          · subst hu
            by_cases hl : u < τ.length
            · rw [if_pos hl, List.getElem?_set_self (by rw [wipe_length]; exact hl)]
            · rw [if_neg hl, List.getElem?_eq_none (by simpa [wipe_length] using hl)]
          · rw [List.getElem?_set_ne hu]
            exact ih (by simpa [Ne.symm hu] using h)
      rw [key hj, key hj, hl]
    · rw [wipe_out hj, wipe_out hj, h j hj]
end

/-! ### the loop -/
def lcGo (vs : List Nat) (tg : D → Z → Option Z) (mt : M Bool) (me : M D) : List D → List D → Z → Option (List D × Z)
  | [], acc, z => some (acc, z)
  | d :: ds, acc, z => match tg d z with
    | none => none
    | some z1 => match mt z1 with
      | some (.ok true, z2) => match me z2 with
        | some (.ok y, z3) => if acc.length < lim then lcGo vs tg mt me ds (acc ++ [y]) (wipeZ vs z3) else none
        | _ => none
      | some (.ok false, z2) => lcGo vs tg mt me ds acc (wipeZ vs z2)
      | _ => none
def mLc (vs : List Nat) (ms : M (List D)) (tg : D → Z → Option Z) (mt : M Bool) (me : M D) : M D := bnd ms fun ds => fun z => match lcGo vs tg mt me ds [] (wipeZ vs z) with
  | some (acc, z') => some (.ok (.lst acc), ⟨backS z.S z'.S vs, z'.P⟩)
  | none => none
def mYes : M Bool := ret true

section
variable {X : Cx} {B : Bs} {W : XK} {pos : Pos} {tg a b c e iter elt : Expr} {m : M D} {ms : M (List D)} {mt : M Bool} {me : M D} {f : D → Z → Option Z} {vs : List Nat}
theorem yes_t (σ : Sg) (H : Hp) (Q : Bool → Hp → Prop) (h : tDt B W mYes σ H Q) : tYes σ H Q := by
  obtain ⟨G0, H0, G, z, r, z', R, hm, hA⟩ := h
  obtain ⟨rfl, rfl⟩ := ret_ok hm
  exact hA G H R (Same.refl _)
theorem lc_turns {G1 G0 H0 : Hp} {J : It} {ds : List D} {σ : Sg} {D0 : Addr} {Q : VK} {acc' : List D} {z' : Z} (wk : Wk B G1 J ds) (nG0 : G0 D0 = none) (np : B.cold D0)
    (hQ : ∀ G H us, Same G1 G → Rel B G0 (upd H0 D0 (.lst us)) z' G H (L2.wipe σ vs) → Reps B G acc' us → Q (.ref D0) H) {H1 : Hp} {z1 : Z} (R1 : Rel B G0 (upd H0 D0 (.lst [])) z1 G1 H1 (L2.wipe σ vs)) (hgo : lcGo vs f mt me ds [] z1 = some (acc', z')) :
    ∃ Wi : Nat → Nat → Hp → Prop, (∃ m, Wi 0 m H1) ∧ ∀ i m H, Wi i m H →
      (J.stop i H ∧ Q (.ref D0) H) ∨ (J.go i H ∧ ∃ Nx : Hp → Prop, (∀ H', Nx H' → ∃ m', m' < m ∧ Wi (i + 1) m' H') ∧ ∀ x H', J.yld i H x H' → gD B vs f x (L2.wipe σ vs) H' fun σ2 H2 => L2.wipe σ2 vs = L2.wipe σ vs ∧ tDt B XF mt σ2 H2 fun b H3 =>
        if b = true then tD B XF me σ2 H3 fun y H4 => ∃ acc, H4 D0 = some (.lst acc) ∧ acc.length < sizeLine ∧ Nx (upd H4 D0 (.lst (acc ++ [y]))) else Nx H3) := by
  refine ⟨fun i m H => m = ds.length - i ∧ i ≤ ds.length ∧ ∃ G z acc us, Same G1 G ∧ Rel B G0 (upd H0 D0 (.lst us)) z G H (L2.wipe σ vs) ∧ Reps B G acc us ∧ lcGo vs f mt me (ds.drop i) acc z = some (acc', z'),
    ⟨ds.length, by simp, Nat.zero_le _, G1, z1, [], [], Same.refl _, R1, .nil, hgo⟩, ?_⟩
  rintro i m H ⟨rfl, hi, G, z, acc, us, s1, R, rus, go⟩
  by_cases hlt : i < ds.length
  · refine .inr ⟨((wk i G H z.P s1 R.ex R.pen).1 ds[i] (by simp [hlt])).1, fun H' => i + 1 ≤ ds.length ∧ ∃ G z acc us, Same G1 G ∧ Rel B G0 (upd H0 D0 (.lst us)) z G H' (L2.wipe σ vs) ∧ Reps B G acc us ∧ lcGo vs f mt me (ds.drop (i + 1)) acc z = some (acc', z'),
      fun H' p' => ⟨ds.length - (i + 1), by omega, rfl, p'.1, p'.2⟩, fun x H' y => ?_⟩
    obtain ⟨G', g, rx⟩ := ((wk i G H z.P s1 R.ex R.pen).1 ds[i] (by simp [hlt])).2 x H' y
    rw [List.drop_eq_getElem_cons hlt] at go
    unfold lcGo at go
    split at go
    · cases go
    · rename_i z1 e1
      refine ⟨G0, _, G', z, ds[i], z1, R.grow g, rx, e1, fun σ2 l2 a2 R2 => ⟨wipe_eq (by rw [l2]) (fun j hj => a2 j hj) |>.trans (by
        apply List.ext_getElem?
        intro j
        by_cases hj : j ∈ vs
        · exact congrArg (·[j]?) (wipe_eq (vs := vs) (σ := σ) (σ' := L2.wipe σ vs) (wipe_length _ _) (fun j hj => wipe_out hj))
        · rw [wipe_out hj]), ?_⟩⟩
      have off : ∀ j, j ∉ vs → (L2.wipe σ vs)[j]? = σ2[j]? := fun j hj => (a2 j hj).symm
      cases e2 : mt z1 with
      | none => rw [e2] at go; cases go
      | some p =>
        obtain ⟨r2, z2⟩ := p
        rw [e2] at go
        cases r2 with
        | error x => cases go
        | ok bb =>
          refine ⟨G0, _, G', z1, .ok bb, z2, R2, e2, fun G2 H2 R3 s2 => ?_⟩
          cases bb with
          | false =>
            exact iteF ⟨hlt, G2, _, acc, us, s1.trans (g.g.trans s2), R3.wipe off, Reps.mono (g.g.trans s2) _ _ rus, go⟩
          | true =>
            refine iteT ?_
            simp only at go
            cases e3 : me z2 with
            | none => rw [e3] at go; cases go
            | some p =>
              obtain ⟨r3, z3⟩ := p
              rw [e3] at go
              cases r3 with
              | error x => cases go
              | ok yd =>
                refine ⟨G0, _, G2, z2, .ok yd, z3, R3, e3, fun G3 H3 R4 s3 v rv => ?_⟩
                simp only at go
                split at go
                · rename_i hl
                  have L := R4.laid nG0 np
                  refine ⟨us, L.1, by rw [← rus.length, lim_eq]; exact hl, hlt, G3, _, acc ++ [yd], us ++ [v], s1.trans (g.g.trans (s2.trans s3)), (R4.relay nG0 np).wipe off, ?_, go⟩
                  exact (Reps.mono (g.g.trans (s2.trans s3)) _ _ rus).snoc rv
                · cases go
  · have e : i = ds.length := by omega
    subst e
    rw [List.drop_length] at go
    unfold lcGo at go
    injection go with go
    injection go with e1 e2
    subst e1 e2
    exact .inl ⟨(wk _ G H z.P s1 R.ex R.pen).2 rfl, hQ G H us s1 R rus⟩
theorem mLc_ok {z z' : Z} {r : Rs D} {ds : List D} (h : (match lcGo vs f mt me ds [] (wipeZ vs z) with
  | some (acc, z') => some (Except.ok (.lst acc), (⟨backS z.S z'.S vs, z'.P⟩ : Z))
  | none => none) = some (r, z')) : ∃ acc z1, lcGo vs f mt me ds [] (wipeZ vs z) = some (acc, z1) ∧ r = .ok (.lst acc) ∧ z' = ⟨backS z.S z1.S vs, z1.P⟩ := by
  split at h
  · rename_i acc z1 e
    injection h with h
    injection h with e1 e2
    exact ⟨acc, z1, e, e1.symm, e2.symm⟩
  · cases h
theorem tLc_of {wi : TI} (hi : ∀ σ H R, tI B W ms σ H R → wi σ H R) {ty : TT} (hy : ∀ σ H Q, tDt B XF mt σ H Q → ty σ H Q) (σ : Sg) (H : Hp) (Q : VK) (h : tO B W (mLc vs ms f mt me) σ H Q) : tLc wi (gD B vs f) ty (tD B XF me) vs σ H Q := by
  obtain ⟨G0, H0, G, z, r, z', R, hm, hA⟩ := h
  refine hi _ _ _ ?_
  obtain ⟨r1, z1, m1, A1⟩ := After.bnd (K := fun ds G1 H1 => ∀ J, Wk B G1 J ds → ∀ D0, H1 D0 = none → ∃ Wi : Nat → Nat → Hp → Prop, (∃ m, Wi 0 m (upd H1 D0 (.lst []))) ∧ ∀ i m H, Wi i m H →
      (J.stop i H ∧ Q (.ref D0) H) ∨ (J.go i H ∧ ∃ Nx : Hp → Prop, (∀ H', Nx H' → ∃ m', m' < m ∧ Wi (i + 1) m' H') ∧ ∀ x H', J.yld i H x H' → gD B vs f x (L2.wipe σ vs) H' fun σ2 H2 => L2.wipe σ2 vs = L2.wipe σ vs ∧ ty σ2 H2 fun b H3 =>
        if b = true then tD B XF me σ2 H3 fun y H4 => ∃ acc, H4 D0 = some (.lst acc) ∧ acc.length < sizeLine ∧ Nx (upd H4 D0 (.lst (acc ++ [y]))) else Nx H3)) hm hA fun ds z1 G1 H1 R1 s1 hm hA J wk D0 n0 => by
    obtain ⟨acc, z2, e1, rfl, rfl⟩ := mLc_ok hm
    obtain ⟨nG, nH0, np, fr⟩ := R1.fresh n0
    have nG0 : G0 D0 = none := Same.dom R1.g0 nG
    obtain ⟨Wi, w0, wt⟩ := lc_turns (Q := Q) (σ := σ) (f := f) (mt := mt) (me := me) (H0 := H0) wk nG0 np (fun G2 H2 us s2 R2 rus => by
      have R3 := R2.unlay nG0 nH0
      have R4 : Rel B G0 H0 ⟨backS z1.S z2.S vs, z2.P⟩ G2 H2 σ := R3.back (fun j hj => wipe_out hj) fun i d q => by
        obtain ⟨v, q1, q2⟩ := R1.va i d q
        exact ⟨v, q1, Rep.mono s2 _ _ q2⟩
      obtain ⟨l1, l2⟩ := R2.laid nG0 np
      refine hA G2 H2 R4 s2 D0 _ l1 l2 nH0 np (fun i e he hs => ?_) (.inl ⟨acc, us, rfl, rfl, rus⟩)
      rcases backS_get he with q | ⟨q, nq⟩ | ⟨d, q, _⟩
      · cases q
      · obtain ⟨a, o, q1, q2, q3, q4, q5, q6⟩ := R2.ow i e q
        rw [wipe_out nq, hs] at q1
        cases q1
        rw [upd_same] at q5; cases q5
      · cases q) ((R1.lay (o := .lst []) n0).wipe (vs := vs) (σ' := L2.wipe σ vs) fun j hj => wipe_out hj) e1
    refine ⟨Wi, w0, fun i m H w => ?_⟩
    rcases wt i m H w with h | ⟨go, Nx, hN, step⟩
    · exact .inl h
    · refine .inr ⟨go, Nx, hN, fun x H' y => ?_⟩
      obtain ⟨G0', H0', G', z', d, z'', p1, p2, p3, p4⟩ := step x H' y
      refine ⟨G0', H0', G', z', d, z'', p1, p2, p3, fun σ2 l2 a2 R2 => ?_⟩
      obtain ⟨q1, q2⟩ := p4 σ2 l2 a2 R2
      exact ⟨q1, hy _ _ _ q2⟩
  exact ⟨G0, H0, G, z, r1, z1, R, m1, A1⟩
/-- the block's context -/
theorem Ctx.blk (h : Ctx X B W) {s : Shared} {H : Hp} {scope : Scope} {ce : Env} {fp : List Addr} : Ctx (X.blk s H scope ce fp) B XF := ⟨h.hK, h.calm, h.nd, passL⟩
theorem do_lc {scope : Scope} {own : List (Str × Nat)} (hc : Ctx X B W) (hi : DI X B W tg iter ms) (ok : BlkOk X.N X.env.scope scope own)
    (hg : ∀ (s : Shared) (H : Hp) (C : Addr) (cl : List (Str × Addr)) (fp : List Addr), Ctx (X.blk s H scope (compEnvC scope cl C X.env) fp) B XF → DG (X.blk s H scope (compEnvC scope cl C X.env) fp) B (own.map (·.2)) tg f)
    (he : ∀ (s : Shared) (H : Hp) (C : Addr) (cl : List (Str × Addr)) (fp : List Addr), Ctx (X.blk s H scope (compEnvC scope cl C X.env) fp) B XF → DE (X.blk s H scope (compEnvC scope cl C X.env) fp) B XF elt me) (hs : ∀ x, foldedSetIterable iter X.env x = pure x := by intro _; rfl) :
    DO X B W (.ListComp elt [⟨tg, iter, [], 0⟩] scope pos) (mLc (own.map (·.2)) ms f mYes me) :=
  PE.imp (pe_lc hc.calm hc.nd hi ok (fun s H C cl fp => hg s H C cl fp hc.blk) (fun _ _ _ _ _ => pts_nil) (fun s H C cl fp => he s H C cl fp hc.blk) hs) (tLc_of (fun _ _ _ h => h) yes_t)
theorem do_lcIf {scope : Scope} {own : List (Str × Nat)} (hc : Ctx X B W) (hi : DI X B W tg iter ms) (ok : BlkOk X.N X.env.scope scope own)
    (hg : ∀ (s : Shared) (H : Hp) (C : Addr) (cl : List (Str × Addr)) (fp : List Addr), Ctx (X.blk s H scope (compEnvC scope cl C X.env) fp) B XF → DG (X.blk s H scope (compEnvC scope cl C X.env) fp) B (own.map (·.2)) tg f)
    (ht : ∀ (s : Shared) (H : Hp) (C : Addr) (cl : List (Str × Addr)) (fp : List Addr), Ctx (X.blk s H scope (compEnvC scope cl C X.env) fp) B XF → DT (X.blk s H scope (compEnvC scope cl C X.env) fp) B XF c mt)
    (he : ∀ (s : Shared) (H : Hp) (C : Addr) (cl : List (Str × Addr)) (fp : List Addr), Ctx (X.blk s H scope (compEnvC scope cl C X.env) fp) B XF → DE (X.blk s H scope (compEnvC scope cl C X.env) fp) B XF elt me) (hs : ∀ x, foldedSetIterable iter X.env x = pure x := by intro _; rfl) :
    DO X B W (.ListComp elt [⟨tg, iter, [c], 0⟩] scope pos) (mLc (own.map (·.2)) ms f mt me) :=
  PE.imp (pe_lc hc.calm hc.nd hi ok (fun s H C cl fp => hg s H C cl fp hc.blk) (fun s H C cl fp => pts_one (ht s H C cl fp hc.blk)) (fun s H C cl fp => he s H C cl fp hc.blk) hs) (tLc_of (fun _ _ _ h => h) fun _ _ _ h => h)
end
end DL

-- DStmt
set_option maxHeartbeats 4000000
/-! DStmt: statements by plain functions -/
namespace DL
open PySem PySem.Spec PyProof.Rows L2

inductive Fl where
  | nx | bk | ct | rt (d : D)

/-- a frame's slots: their number stays; where me, the first one too -/
structure Kp (me : Bool) (σ σ' : Sg) : Prop where
  len : σ'.length = σ.length
  slf : me = true → σ'[0]? = σ[0]?
theorem Kp.refl {me : Bool} {σ : Sg} : Kp me σ σ := ⟨rfl, fun _ => rfl⟩
theorem Kp.trans {me : Bool} {σ σ1 σ2 : Sg} (a : Kp me σ σ1) (b : Kp me σ1 σ2) : Kp me σ σ2 := ⟨b.len.trans a.len, fun h => (b.slf h).trans (a.slf h)⟩
theorem Kp.set {me : Bool} {σ : Sg} {i : Nat} {v : Option V} (h : i ≠ 0 ∨ me = false) : Kp me σ (σ.set i v) := ⟨by simp, fun e => by
  rcases h with h | h
  · rw [List.getElem?_set_ne h]
  · rw [h] at e; cases e⟩
theorem Kp.off {me : Bool} {σ σ' : Sg} {vs : List Nat} (hl : σ'.length = σ.length) (a : ∀ j, j ∉ vs → σ'[j]? = σ[j]?) (h : 0 ∉ vs ∨ me = false) : Kp me σ σ' := ⟨hl, fun e => by
  rcases h with h | h
  · exact a 0 h
  · rw [h] at e; cases e⟩
/-- the body's first name is self -/
def meOf (X : Cx) : Bool := decide (X.N[0]? = some ("self" : Str))
/-- what must hold behind a statement -/
def AfS (B : Bs) (W : XK) (G0 H0 G : Hp) (me : Bool) (σ : Sg) (r : Rs Fl) (z' : Z) (E : Ends) : Prop := match r with
  | .ok .nx => ∀ σ' G' H', Kp me σ σ' → Rel B G0 H0 z' G' H' σ' → Same G G' → E.nx σ' H'
  | .ok .bk => ∀ σ' G' H', Kp me σ σ' → Rel B G0 H0 z' G' H' σ' → Same G G' → E.bk σ' H'
  | .ok .ct => ∀ σ' G' H', Kp me σ σ' → Rel B G0 H0 z' G' H' σ' → Same G G' → E.ct σ' H'
  | .ok (.rt d) => ∀ σ' G' H' v, Kp me σ σ' → Rel B G0 H0 z' G' H' σ' → Same G G' → Rep B G' d v → E.rt v H'
  | .error x => ∀ dx σ' G' H', Kp me σ σ' → Rel B G0 H0 z' G' H' σ' → Same G G' → XRep B G' H' x dx → W (.ref x.C) (some dx) H'
def tS (me : Bool) (B : Bs) (W : XK) (m : M Fl) : TS := fun E σ H => ∃ G0 H0 G z r z', Rel B G0 H0 z G H σ ∧ m z = some (r, z') ∧ AfS B W G0 H0 G me σ r z' E
abbrev DS (X : Cx) (B : Bs) (W : XK) (st : Stmt) (m : M Fl) : Prop := PS X st (tS (meOf X) B W m)
abbrev DSs (X : Cx) (B : Bs) (W : XK) (sts : List Stmt) (m : M Fl) : Prop := PSs X sts (tS (meOf X) B W m)

section
variable {B : Bs} {W : XK} {G0 H0 G G1 H H1 : Hp} {me : Bool} {z z' : Z} {σ : Sg} {E : Ends}
theorem AfS.up {r : Rs Fl} (h : AfS B W G0 H0 G me σ r z' E) (s : Same G G1) : AfS B W G0 H0 G1 me σ r z' E := by
  match r, h with
  | .ok .nx, h => exact fun σ' G' H' l R s' => h σ' G' H' l R (s.trans s')
  | .ok .bk, h => exact fun σ' G' H' l R s' => h σ' G' H' l R (s.trans s')
  | .ok .ct, h => exact fun σ' G' H' l R s' => h σ' G' H' l R (s.trans s')
  | .ok (.rt d), h => exact fun σ' G' H' v l R s' => h σ' G' H' v l R (s.trans s')
  | .error x, h => exact fun dx σ' G' H' l R s' q => h dx σ' G' H' l R (s.trans s') q
theorem AfS.at {r : Rs Fl} {σ1 : Sg} (h : AfS B W G0 H0 G me σ r z' E) (k : Kp me σ σ1) (s : Same G G1) : AfS B W G0 H0 G1 me σ1 r z' E := by
  match r, h with
  | .ok .nx, h => exact fun σ' G' H' l R s' => h σ' G' H' (k.trans l) R (s.trans s')
  | .ok .bk, h => exact fun σ' G' H' l R s' => h σ' G' H' (k.trans l) R (s.trans s')
  | .ok .ct, h => exact fun σ' G' H' l R s' => h σ' G' H' (k.trans l) R (s.trans s')
  | .ok (.rt d), h => exact fun σ' G' H' v l R s' => h σ' G' H' v (k.trans l) R (s.trans s')
  | .error x, h => exact fun dx σ' G' H' l R s' q => h dx σ' G' H' (k.trans l) R (s.trans s') q
theorem AfS.bnd {α : Type} {m : M α} {f : α → M Fl} {r : Rs Fl} {K : α → Hp → Hp → Prop} (hm : DL.bnd m f z = some (r, z')) (hA : AfS B W G0 H0 G me σ r z' E)
    (hf : ∀ a z1 G1 H1, Rel B G0 H0 z1 G1 H1 σ → Same G G1 → f a z1 = some (r, z') → AfS B W G0 H0 G1 me σ r z' E → K a G1 H1) : ∃ r1 z1, m z = some (r1, z1) ∧ After B W G0 H0 G σ r1 z1 K := by
  rcases bnd_ok hm with ⟨a, z1, m1, h⟩ | ⟨x, m1, rfl⟩
  · exact ⟨_, _, m1, fun G1 H1 R1 s1 => hf a z1 G1 H1 R1 s1 h (hA.up s1)⟩
  · exact ⟨_, _, m1, fun dx G' H' R s q => hA dx σ G' H' .refl R s q⟩
end

/-! ### sequences, if -/
def mNx : M Fl := ret .nx
def mSeq (m n : M Fl) : M Fl := fun z => match m z with
  | some (.ok .nx, z1) => n z1
  | r => r
section
variable {X : Cx} {B : Bs} {W : XK} {pos : Pos} {tg a b c e o : Expr} {st : Stmt} {sts sts' : List Stmt} {m : M D} {ms : M (List D)} {mt : M Bool} {k l : M Fl} {f : D → Z → Option Z} {vs : List Nat}
theorem nx_r {E : Ends} {σ : Sg} {H : Hp} {me : Bool} (h : tS me B W mNx E σ H) : E.nx σ H := by
  obtain ⟨G0, H0, G, z, r, z', R, hm, hA⟩ := h
  obtain ⟨rfl, rfl⟩ := ret_ok hm
  exact hA σ G H .refl R (Same.refl _)
theorem ds_pass : DS X B W (.Pass pos) mNx := PS.imp ps_pass fun _ _ _ h => nx_r h
theorem ds_doc {x j pos'} : DS X B W (.Expr (.Constant (.str x) j pos) pos') mNx := PS.imp ps_doc fun _ _ _ h => nx_r h
theorem dss_nil : DSs X B W [] mNx := PSs.imp pss_nil fun _ _ _ h => nx_r h
theorem dss_one (h : DS X B W st k) : DSs X B W [st] k := pss_one h
theorem dss_cons (h : DS X B W st k) (t : DSs X B W sts l) : DSs X B W (st :: sts) (mSeq k l) := PSs.imp (pss_cons h t) fun E σ H ⟨G0, H0, G, z, r, z', R, hm, hA⟩ => by
  unfold mSeq at hm
  split at hm
  · rename_i z1 e
    exact ⟨G0, H0, G, z, _, z1, R, e, fun σ' G' H' l1 R' s => ⟨G0, H0, G', z1, r, z', R', hm, hA.at l1 s⟩⟩
  · rename_i hne
    refine ⟨G0, H0, G, z, r, z', R, hm, ?_⟩
    match r, hA, hm with
    | .ok .nx, _, hm => exact absurd hm (hne z')
    | .ok .bk, hA, _ => exact hA
    | .ok .ct, hA, _ => exact hA
    | .ok (.rt d), hA, _ => exact hA
    | .error x, hA, _ => exact hA
theorem ds_if (hc : DT X B W c mt) (ha : DSs X B W sts k) (hb : DSs X B W sts' l) : DS X B W (.If c sts sts' pos) (mIf mt k l) := PS.imp (ps_if hc ha hb) fun E σ H ⟨G0, H0, G, z, r, z', R, hm, hA⟩ => by
  obtain ⟨r1, z1, m1, A1⟩ := AfS.bnd (K := fun b G1 H1 => if b = true then tS (meOf X) B W k E σ H1 else tS (meOf X) B W l E σ H1) hm hA fun b z1 G1 H1 R1 s1 hm hA => by
    cases b with
    | true =>
      rw [if_pos rfl] at hm
      exact iteT ⟨G0, H0, G1, z1, r, z', R1, hm, hA⟩
    | false =>
      rw [if_neg (by decide)] at hm
      exact iteF ⟨G0, H0, G1, z1, r, z', R1, hm, hA⟩
  exact ⟨G0, H0, G, z, r1, z1, R, m1, A1⟩

/-! ### return, raise by a def's end -/
def mRet (m : M D) : M Fl := bnd m fun d => ret (.rt d)
theorem ds_ret (h : DE X B W e m) : DS X B W (.Return (some e) pos) (mRet m) := PS.imp (ps_ret h) fun E σ H ⟨G0, H0, G, z, r, z', R, hm, hA⟩ => by
  obtain ⟨r1, z1, m1, A1⟩ := AfS.bnd (K := fun d G1 H1 => ∀ v, Rep B G1 d v → E.rt v H1) hm hA fun d z1 G1 H1 R1 s1 hm hA v q1 => by
    obtain ⟨rfl, rfl⟩ := ret_ok hm
    exact hA σ G1 H1 v .refl R1 (Same.refl _) q1
  exact ⟨G0, H0, G, z, r1, z1, R, m1, A1⟩
theorem ds_retN : DS X B W (.Return none pos) (ret (.rt .non)) := PS.imp ps_retN fun E σ H ⟨G0, H0, G, z, r, z', R, hm, hA⟩ => by
  obtain ⟨rfl, rfl⟩ := ret_ok hm
  exact hA σ G H .non .refl R (Same.refl _) rfl
theorem ds_break : DS X B W (.Break pos) (ret .bk) := PS.imp ps_break fun E σ H ⟨G0, H0, G, z, r, z', R, hm, hA⟩ => by
  obtain ⟨rfl, rfl⟩ := ret_ok hm
  exact hA σ G H .refl R (Same.refl _)
theorem ds_continue : DS X B W (.Continue pos) (ret .ct) := PS.imp ps_continue fun E σ H ⟨G0, H0, G, z, r, z', R, hm, hA⟩ => by
  obtain ⟨rfl, rfl⟩ := ret_ok hm
  exact hA σ G H .refl R (Same.refl _)

/-! ### assignments -/
def mSet (i : Nat) (m : M D) : M Fl := bnd m fun d => fun z => some (.ok .nx, ⟨z.S.set i (.va d), z.P⟩)
def mOwn (i : Nat) (m : M D) : M Fl := bnd m fun d => fun z => some (.ok .nx, ⟨z.S.set i (.ow d), z.P⟩)
theorem asg_r {me : Bool} {i : Nat} {te : TE} {E : Ends} {σ : Sg} {H : Hp} (h0 : i ≠ 0 ∨ me = false) (hi : i < σ.length) (ht : ∀ σ H Q, tD B W m σ H Q → te σ H Q) (h : tS me B W (mSet i m) E σ H) : tAsg te (gName i) E σ H := by
  obtain ⟨G0, H0, G, z, r, z', R, hm, hA⟩ := h
  obtain ⟨r1, z1, m1, A1⟩ := AfS.bnd (K := fun d G1 H1 => ∀ v, Rep B G1 d v → E.nx (σ.set i (some v)) H1) hm hA fun d z1 G1 H1 R1 s1 hm hA v q1 => by
    injection hm with hm
    injection hm with e1 e2
    subst e1 e2
    exact hA _ G1 H1 (.set h0) (R1.setV hi q1) (Same.refl _)
  exact ht _ _ _ ⟨G0, H0, G, z, r1, z1, R, m1, A1⟩
theorem Rel.setO {G0 H0 G H : Hp} {z : Z} {σ : Sg} {i : Nat} {d : D} {a : Addr} {o : HO} (R : Rel B G0 H0 z G H σ) (hi : i < σ.length) (h1 : H a = some o) (h2 : G a = none) (h3 : H0 a = none) (h4 : B.cold a)
    (h5 : ∀ (i : Nat) (e : D), z.S[i]? = some (.ow e) → σ[i]? ≠ some (some (.ref a))) (h6 : OwR B G o d) : Rel B G0 H0 ⟨z.S.set i (.ow d), z.P⟩ G H (σ.set i (some (.ref a))) := by
  have key : ∀ {j : Nat} {x : Sl}, (z.S.set i (.ow d))[j]? = some x → (i = j ∧ x = .ow d) ∨ (i ≠ j ∧ z.S[j]? = some x) := fun {j x} q => by
    by_cases hj : i = j
    · subst hj
      have hl : i < z.S.length := by
        have := (List.getElem?_eq_some_iff.mp q).1
        simpa using this
      rw [List.getElem?_set_self hl] at q
      cases q
      exact .inl ⟨rfl, rfl⟩
    · rw [List.getElem?_set_ne hj] at q
      exact .inr ⟨hj, q⟩
  refine ⟨R.ex, R.g0, R.fr, R.nw, R.pen, fun j e q => ?_, fun j e q => ?_, fun j k x y b q1 q2 ne s1 s2 => ?_⟩
  · rcases key q with ⟨_, z⟩ | ⟨n, q⟩
    · cases z
    · rw [List.getElem?_set_ne n]; exact R.va j e q
  · rcases key q with ⟨rfl, z⟩ | ⟨n, q⟩
    · cases z
      exact ⟨a, o, by rw [List.getElem?_set_self hi], h1, h2, h6, h3, h4⟩
    · rw [List.getElem?_set_ne n]; exact R.ow j e q
  · rcases key q1 with ⟨rfl, z⟩ | ⟨n1, q1⟩
    · rcases key q2 with ⟨rfl, z⟩ | ⟨n2, q2⟩
      · exact ne rfl
      · rw [List.getElem?_set_self hi] at s1
        rw [List.getElem?_set_ne n2] at s2
        cases s1
        exact h5 k y q2 s2
    · rw [List.getElem?_set_ne n1] at s1
      rcases key q2 with ⟨rfl, z⟩ | ⟨n2, q2⟩
      · rw [List.getElem?_set_self hi] at s2
        cases s2
        exact h5 j x q1 s1
      · rw [List.getElem?_set_ne n2] at s2
        exact R.ap j k x y b q1 q2 ne s1 s2
theorem own_r {me : Bool} {i : Nat} {te : TE} {E : Ends} {σ : Sg} {H : Hp} (h0 : i ≠ 0 ∨ me = false) (hi : i < σ.length) (ht : ∀ σ H Q, tO B W m σ H Q → te σ H Q) (h : tS me B W (mOwn i m) E σ H) : tAsg te (gName i) E σ H := by
  obtain ⟨G0, H0, G, z, r, z', R, hm, hA⟩ := h
  rcases bnd_ok hm with ⟨d, z1, m1, hm⟩ | ⟨x, m1, rfl⟩
  · injection hm with hm
    injection hm with e1 e2
    subst e1 e2
    exact ht _ _ _ ⟨G0, H0, G, z, _, z1, R, m1, fun G' H' R' s a o h1 h2 h3 h4 h5 h6 => hA _ G' H' (.set h0) (R'.setO hi h1 h2 h3 h4 h5 h6) s⟩
  · exact ht _ _ _ ⟨G0, H0, G, z, _, z', R, m1, fun dx G' H' R s q => hA dx σ G' H' .refl R s q⟩
variable {i : Nat} {x : Str} {pos' : Pos}
theorem lt_of {σ : Sg} (hi : X.N[i]? = some x) (hl : σ.length = X.N.length) : i < σ.length := by rw [hl]; exact (List.getElem?_eq_some_iff.mp hi).1
theorem ds_set (hC : Ctx X B W) (hi : X.N[i]? = some x) (hx : Loc X.env.scope x) (he : DE X B W e m) (hs : swapsWith e (some (.Name x pos')) pos.line X.env = pure false := by rfl) (hf : X.fn x = true ∨ X.env.scope.names.lookup x = some .local := by first | exact .inl rfl | exact .inr rfl | assumption) (h0 : i ≠ 0 ∨ meOf X = false := by first | exact .inl (by decide) | exact .inr rfl) :
    DS X B W (.Assign [.Name x pos'] e pos) (mSet i m) := PS.impL (ps_set hC.nd hi hx he hs hf) fun E σ H hl h => asg_r h0 (lt_of hi hl) (fun _ _ _ h => h) h
theorem ds_own (hC : Ctx X B W) (hi : X.N[i]? = some x) (hx : Loc X.env.scope x) (he : DO X B W e m) (hs : swapsWith e (some (.Name x pos')) pos.line X.env = pure false := by rfl) (hf : X.fn x = true ∨ X.env.scope.names.lookup x = some .local := by first | exact .inl rfl | exact .inr rfl | assumption) (h0 : i ≠ 0 ∨ meOf X = false := by first | exact .inl (by decide) | exact .inr rfl) :
    DS X B W (.Assign [.Name x pos'] e pos) (mOwn i m) := PS.impL (ps_set hC.nd hi hx he hs hf) fun E σ H hl h => own_r h0 (lt_of hi hl) (fun _ _ _ h => h) h
/-- a target of any form -/
def mAsg (f : D → Z → Option Z) (m : M D) : M Fl := bnd m fun d => fun z => (f d z).map fun z' => (.ok .nx, z')
theorem ds_asg (he : DE X B W e m) (hg : DG X B vs tg f) (hs : swapsWithSole [tg] e pos.line X.env = pure false := by rfl) (hw : swappedStores [tg] e X.env = pure none := by rfl)
    (h1 : (assignEach [tg] X.env).map (·.2) = [assign tg X.env] := by rfl) (h0 : 0 ∉ vs ∨ meOf X = false := by first | exact .inl (by decide) | exact .inr rfl) : DS X B W (.Assign [tg] e pos) (mAsg f m) := PS.imp (ps_asg he hg hs hw h1) fun E σ H ⟨G0, H0, G, z, r, z', R, hm, hA⟩ => by
  obtain ⟨r1, z1, m1, A1⟩ := AfS.bnd (K := fun d G1 H1 => ∀ v, Rep B G1 d v → gD B vs f v σ H1 E.nx) hm hA fun d z1 G1 H1 R1 s1 hm hA v q1 => by
    cases hf : f d z1 with
    | none => rw [hf] at hm; cases hm
    | some z2 =>
      rw [hf] at hm
      injection hm with hm
      injection hm with e1 e2
      subst e1 e2
      exact ⟨G0, H0, G1, z1, d, z2, R1, q1, hf, fun σ' l a R' => hA σ' G1 H1 (.off l a h0) R' (Same.refl _)⟩
  exact ⟨G0, H0, G, z, r1, z1, R, m1, A1⟩
/-- a, b = x, y of plain names -/
def mPar (i j : Nat) (ms : M (List D)) : M Fl := bnd ms fun ds => fun z => match ds with
  | [d, e] => some (.ok .nx, ⟨(z.S.set i (.va d)).set j (.va e), z.P⟩)
  | _ => none
theorem ds_par {i j : Nat} {x y : Str} {px py pt : Pos} {kt k2 pt2} (hC : Ctx X B W) (hi : X.N[i]? = some x) (hj : X.N[j]? = some y) (hij : i ≠ j)
    (hx : X.env.scope.names.lookup x = some .local) (hy : X.env.scope.names.lookup y = some .local) (ha : DA X B W [a, b] ms)
    (hw : swappedStores [.Tuple [.Name x px, .Name y py] kt pt] (.Tuple [a, b] k2 pt2) X.env = pure (some [x, y]))
    (hs : swapsWithSole [.Tuple [.Name x px, .Name y py] kt pt] (.Tuple [a, b] k2 pt2) pos.line X.env = pure false := by rfl) (h0 : (i ≠ 0 ∧ j ≠ 0) ∨ meOf X = false := by first | exact .inl (by decide) | exact .inr rfl) :
    DS X B W (.Assign [.Tuple [.Name x px, .Name y py] kt pt] (.Tuple [a, b] k2 pt2) pos) (mPar i j ms) := PS.impL (ps_par hC.calm hC.nd hi hj hij hx hy ha hw hs) fun E σ H hl ⟨G0, H0, G, z, r, z', R, hm, hA⟩ => by
  obtain ⟨r1, z1, m1, A1⟩ := AfS.bnd (K := fun ds G1 H1 => ∀ vs, Reps B G1 ds vs → ∃ v w, vs = [v, w] ∧ E.nx ((σ.set i (some v)).set j (some w)) H1) hm hA fun ds z1 G1 H1 R1 s1 hm hA vs q1 => by
    split at hm
    · rename_i d e
      injection hm with hm
      injection hm with e1 e2
      subst e1 e2
      obtain ⟨v, u, rfl, q, q'⟩ := Reps.two q1
      exact ⟨v, u, rfl, hA _ G1 H1 ((Kp.set (h0.imp And.left id)).trans (Kp.set (h0.imp And.right id))) ((R1.setV (lt_of hi hl) q).setV (by simpa using lt_of hj hl) q') (Same.refl _)⟩
    · cases hm
  exact ⟨G0, H0, G, z, r1, z1, R, m1, A1⟩

/-! ### an expression alone -/
def mDrop (m : M D) : M Fl := bnd m fun _ => ret .nx
theorem ds_expr (he : DE X B W e m) (hs : swapsWith e none pos.line X.env = pure false := by rfl) : DS X B W (.Expr e pos) (mDrop m) := PS.imp (ps_expr he hs) fun E σ H ⟨G0, H0, G, z, r, z', R, hm, hA⟩ => by
  obtain ⟨r1, z1, m1, A1⟩ := AfS.bnd (K := fun d G1 H1 => ∀ v, Rep B G1 d v → E.nx σ H1) hm hA fun d z1 G1 H1 R1 s1 hm hA v q1 => by
    obtain ⟨rfl, rfl⟩ := ret_ok hm
    exact hA σ G1 H1 .refl R1 (Same.refl _)
  exact ⟨G0, H0, G, z, r1, z1, R, m1, A1⟩

/-! ### for -/
def forGo (f : D → Z → Option Z) (body : M Fl) : List D → Z → Option (Rs Fl × Z)
  | [], z => some (.ok .nx, z)
  | d :: ds, z => match f d z with
    | none => none
    | some z1 => match body z1 with
      | some (.ok .nx, z2) => forGo f body ds z2
      | some (.ok .ct, z2) => forGo f body ds z2
      | some (.ok .bk, z2) => some (.ok .nx, z2)
      | some (.ok (.rt d), z2) => some (.ok (.rt d), z2)
      | some (.error x, z2) => some (.error x, z2)
      | none => none
def mFor (ms : M (List D)) (f : D → Z → Option Z) (body : M Fl) : M Fl := bnd ms fun ds => forGo f body ds
theorem ds_for {iter : Expr} {body : List Stmt} (hp : PassesOwn (model X.prog X.w) X.A X.env X.xe) (hC : Ctx X B W) (hi : DI X B W tg iter ms) (hg : DG X B vs tg f) (hb : DSs X B W body k)
    (hs : ∀ x, foldedSetIterable iter X.env x = pure x := by intro _; rfl) (h0 : 0 ∉ vs ∨ meOf X = false := by first | exact .inl (by decide) | exact .inr rfl) : DS X B W (.For tg iter body [] pos) (mFor ms f k) := PS.imp (ps_for hp hC.calm hi hg hb hs) fun E σ H ⟨G0, H0, G, z, r, z', R, hm, hA⟩ => by
  obtain ⟨r1, z1, m1, A1⟩ := AfS.bnd (K := fun ds G1 H1 => ∀ J, Wk B G1 J ds → ∃ Wi : Nat → Nat → Sg → Hp → Prop, (∃ m, Wi 0 m σ H1) ∧ ∀ i m σ H, Wi i m σ H →
      (J.stop i H ∧ E.nx σ H) ∨ (J.go i H ∧ ∃ N : Sg → Hp → Prop, (∀ σ' H', N σ' H' → ∃ m', m' < m ∧ Wi (i + 1) m' σ' H') ∧ ∀ x H', J.yld i H x H' → gD B vs f x σ H' fun σ2 H2 => tS (meOf X) B W k { E with nx := N, ct := N, bk := E.nx } σ2 H2)) hm hA fun ds z1 G1 H1 R1 s1 hm hA J wk => by
    refine ⟨fun i m τ H => m = ds.length - i ∧ i ≤ ds.length ∧ Kp (meOf X) σ τ ∧ ∃ G z, Same G1 G ∧ Rel B G0 H0 z G H τ ∧ forGo f k (ds.drop i) z = some (r, z'), ⟨ds.length, by simp, Nat.zero_le _, .refl, G1, z1, Same.refl _, R1, hm⟩, ?_⟩
    rintro i m τ H ⟨rfl, hil, hl, G, z, sg, R, go⟩
    by_cases hlt : i < ds.length
    · refine .inr ⟨((wk i G H z.P sg R.ex R.pen).1 ds[i] (by simp [hlt])).1, fun τ H' => i + 1 ≤ ds.length ∧ Kp (meOf X) σ τ ∧ ∃ G z, Same G1 G ∧ Rel B G0 H0 z G H' τ ∧ forGo f k (ds.drop (i + 1)) z = some (r, z'),
        fun τ H' p' => ⟨ds.length - (i + 1), by omega, rfl, p'.1, p'.2⟩, fun x H' y => ?_⟩
      obtain ⟨G', g, rx⟩ := ((wk i G H z.P sg R.ex R.pen).1 ds[i] (by simp [hlt])).2 x H' y
      rw [List.drop_eq_getElem_cons hlt] at go
      unfold forGo at go
      split at go
      · cases go
      · rename_i z1 e1
        refine ⟨G0, _, G', z, ds[i], z1, R.grow g, rx, e1, fun σ2 l2 a2 R2 => ?_⟩
        have l2 : Kp (meOf X) σ σ2 := hl.trans (.off l2 a2 h0)
        split at go
        · rename_i z2 e2
          exact ⟨G0, H0, G', z1, _, z2, R2, e2, fun σ' G'' H'' l R s => ⟨hlt, l2.trans l, G'', z2, sg.trans (g.g.trans s), R, go⟩⟩
        · rename_i z2 e2
          exact ⟨G0, H0, G', z1, _, z2, R2, e2, fun σ' G'' H'' l R s => ⟨hlt, l2.trans l, G'', z2, sg.trans (g.g.trans s), R, go⟩⟩
        · rename_i z2 e2
          injection go with go
          injection go with q1 q2
          subst q1 q2
          exact ⟨G0, H0, G', z1, _, z2, R2, e2, fun σ' G'' H'' l R s => hA σ' G'' H'' (l2.trans l) R (sg.trans (g.g.trans s))⟩
        · rename_i d z2 e2
          injection go with go
          injection go with q1 q2
          subst q1 q2
          exact ⟨G0, H0, G', z1, _, z2, R2, e2, fun σ' G'' H'' v l R s q => hA σ' G'' H'' v (l2.trans l) R (sg.trans (g.g.trans s)) q⟩
        · rename_i x z2 e2
          injection go with go
          injection go with q1 q2
          subst q1 q2
          exact ⟨G0, H0, G', z1, _, z2, R2, e2, fun dx σ' G'' H'' l R s q => hA dx σ' G'' H'' (l2.trans l) R (sg.trans (g.g.trans s)) q⟩
        · cases go
    · have e : i = ds.length := by omega
      subst e
      rw [List.drop_length] at go
      unfold forGo at go
      injection go with go
      injection go with e1 e2
      subst e1 e2
      exact .inl ⟨(wk _ G H z.P sg R.ex R.pen).2 rfl, hA τ G H hl R sg⟩
  exact ⟨G0, H0, G, z, r1, z1, R, m1, A1⟩

/-! ### while -/
def whGo (mt : M Bool) (body : M Fl) : Nat → Z → Option (Rs Fl × Z)
  | 0, _ => none
  | n + 1, z => match mt z with
    | none => none
    | some (.error x, z1) => some (.error x, z1)
    | some (.ok false, z1) => some (.ok .nx, z1)
    | some (.ok true, z1) => match body z1 with
      | some (.ok .nx, z2) => whGo mt body n z2
      | some (.ok .ct, z2) => whGo mt body n z2
      | some (.ok .bk, z2) => some (.ok .nx, z2)
      | some (.ok (.rt d), z2) => some (.ok (.rt d), z2)
      | some (.error x, z2) => some (.error x, z2)
      | none => none
def mWh (n : Nat) (mt : M Bool) (body : M Fl) : M Fl := whGo mt body n
end
end DL

-- DObj
set_option maxHeartbeats 4000000
/-! DObj: own objects are changed; fields; while; built-in calls -/
namespace DL
open PySem PySem.Spec PyProof.Rows L2

section
variable {X : Cx} {B : Bs} {W : XK} {pos : Pos} {tg a b c e o : Expr} {st : Stmt} {sts sts' body : List Stmt} {m : M D} {ms : M (List D)} {mt : M Bool} {k l : M Fl} {f : D → Z → Option Z} {vs : List Nat}
/-- an own object is rewritten -/
theorem Rel.own {G0 H0 G H : Hp} {z : Z} {σ : Sg} {i : Nat} {d d' : D} {a : Addr} {o' : HO} (R : Rel B G0 H0 z G H σ) (hi : z.S[i]? = some (.ow d)) (ha : σ[i]? = some (some (.ref a))) (h6 : OwR B G o' d') : Rel B G0 H0 ⟨z.S.set i (.ow d'), z.P⟩ G (upd H a o') σ := by
  obtain ⟨a', o, q1, q2, q3, q4, q5, q6⟩ := R.ow i d hi
  rw [ha] at q1
  cases q1
  have hl : i < z.S.length := (List.getElem?_eq_some_iff.mp hi).1
  have key : ∀ {j : Nat} {x : Sl}, (z.S.set i (.ow d'))[j]? = some x → (i = j ∧ x = .ow d') ∨ (i ≠ j ∧ z.S[j]? = some x) := fun {j x} q => by
    by_cases hj : i = j
    · subst hj
      rw [List.getElem?_set_self hl] at q
      cases q
      exact .inl ⟨rfl, rfl⟩
    · rw [List.getElem?_set_ne hj] at q
      exact .inr ⟨hj, q⟩
  refine ⟨fun b u q => ?_, R.g0, fun b u q hp => ?_, R.nw, R.pen.upd q6 (fun c q z => ?_), fun j e q => ?_, fun j e q => ?_, fun j k x y b q1 q2 ne s1 s2 => ?_⟩
  · rw [upd_ne (ne_of_none q q3)]; exact R.ex _ _ q
  · rw [upd_ne (ne_of_none q q5)]; exact R.fr b u q hp
  · rw [q2] at z
    rcases q4 with ⟨_, _, _, e, _⟩ | ⟨_, _, _, _, _, _, e, _⟩
    · subst e; exact codeO_lst (Option.some.inj z).symm
    · subst e; exact codeO_ins (Option.some.inj z).symm
  · rcases key q with ⟨_, z⟩ | ⟨n, q⟩
    · cases z
    · exact R.va j e q
  · rcases key q with ⟨rfl, z⟩ | ⟨n, q⟩
    · cases z
      exact ⟨a, o', ha, upd_same, q3, h6, q5, q6⟩
    · obtain ⟨b, u, p1, p2, p3, p4, p5, p6⟩ := R.ow j e q
      have ne : b ≠ a := fun z => R.ap i j d e a hi q n ha (by rw [← z]; exact p1)
      exact ⟨b, u, p1, by rw [upd_ne ne]; exact p2, p3, p4, p5, p6⟩
  · have k1 : ∃ x', z.S[j]? = some (.ow x') := by
      rcases key q1 with ⟨rfl, _⟩ | ⟨_, q⟩
      · exact ⟨d, hi⟩
      · exact ⟨x, q⟩
    have k2 : ∃ x', z.S[k]? = some (.ow x') := by
      rcases key q2 with ⟨rfl, _⟩ | ⟨_, q⟩
      · exact ⟨d, hi⟩
      · exact ⟨y, q⟩
    obtain ⟨x', k1⟩ := k1
    obtain ⟨y', k2⟩ := k2
    exact R.ap j k x' y' b k1 k2 ne s1 s2

/-! ### xs.append(e) -/
def appZ (i : Nat) (d : D) (z : Z) : Option (Rs Fl × Z) := match z.S[i]? with
  | some (.ow (.lst xs)) => if xs.length < lim then some (.ok .nx, ⟨z.S.set i (.ow (.lst (xs ++ [d]))), z.P⟩) else none
  | _ => none
theorem appZ_ok {i : Nat} {d : D} {z z' : Z} {r : Rs Fl} (h : appZ i d z = some (r, z')) : ∃ xs, z.S[i]? = some (.ow (.lst xs)) ∧ xs.length < lim ∧ r = .ok .nx ∧ z' = ⟨z.S.set i (.ow (.lst (xs ++ [d]))), z.P⟩ := by
  unfold appZ at h
  split at h
  · split at h
    · injection h with h
      injection h with h1 h2
      exact ⟨_, by assumption, by assumption, h1.symm, h2.symm⟩
    · cases h
  · cases h
def mApp (i : Nat) (m : M D) : M Fl := fun z => match z.S[i]? with
  | some (.ow (.lst _)) => bnd m (fun d => appZ i d) z
  | _ => none
theorem OwR.lst {G : Hp} {o : HO} {xs : List D} (h : OwR B G o (.lst xs)) : ∃ vs, o = .lst vs ∧ Reps B G xs vs := by
  rcases h with ⟨ds, vs, h1, h2, h3⟩ | ⟨_, _, _, _, _, h1, _⟩
  · cases h1; exact ⟨vs, h2, h3⟩
  · cases h1
/-- the own slot i as the expression that is changed; the item then; i must not be told by the item's own expression -/
theorem ds_app {i : Nat} {apos cpos : Pos} (ho : PE X o (tVar i)) (ha : DA X B W [e] (mCons m mNil)) (hs : swapsWith (.Call (.Attribute o "append" apos) [e] [] cpos) none pos.line X.env = pure false := by rfl)
    (hbase : attributeBase o "append" X.env (eval o X.env) = eval o X.env := by rfl)
    (hfew : ((backTo cpos (starEach (e :: []) X.env)).all (fun x => !x.1) && (backToKw cpos (keywordEach [] X.env)).all (fun x => x.1.isSome)
      && decide ((e :: []).length + ([] : List Keyword).length + (if ([] : List Keyword).isEmpty then 0 else 1) < 30)) = true := by rfl)
    (hline : (apos.endLine == cpos.line) = true := by rfl) (hst : starEach (e :: []) X.env = (false, eval e X.env) :: starEach [] X.env := by rfl) (hplain : (backTo cpos (starEach [] X.env)).any (·.1) = false := by rfl) : DS X B W (.Expr (.Call (.Attribute o "append" apos) [e] [] cpos) pos) (mApp i m) := by
  refine PS.imp (ps_expr (pe_bm PySem.F.plainAttrs_list PySem.F.slot_list_append PySem.F.type_list_append mt_append ho ha hbase hfew hline hst hplain) hs) fun E σ H ⟨G0, H0, G, z, r, z', R, hm, hA⟩ => ?_
  unfold mApp at hm
  split at hm
  · rename_i ys hy
    obtain ⟨a, ob, p1, p2, p3, p4, p5, p6⟩ := R.ow i _ hy
    obtain ⟨us, rfl, rus⟩ := p4.lst
    refine ⟨_, p1, .inl ⟨rfl, _, .inl (.inl p2)⟩, ?_⟩
    rcases bnd_ok hm with ⟨d, z1, m1, hm⟩ | ⟨x, m1, rfl⟩
    · refine ⟨G0, H0, G, z, .ok [d], z1, R, ?_, fun G' H' R' s xs rxs => ?_⟩
      · show bnd m _ z = _
        unfold bnd
        rw [m1]
        rfl
      · obtain ⟨xs', q1, q2, rfl, rfl⟩ := appZ_ok hm
        obtain ⟨v, rfl, rv⟩ := Reps.one (ds := []) rxs
        obtain ⟨a', ob, t1, t2, t3, t4, t5, t6⟩ := R'.ow i _ q1
        rw [p1] at t1
        cases t1
        obtain ⟨ws, rfl, rws⟩ := t4.lst
        refine ⟨a, ws, v, rfl, rfl, t2, by rw [← rws.length, lim_eq]; exact q2, ?_⟩
        exact hA σ G' _ .refl (R'.own q1 p1 (.inl ⟨_, _, rfl, rfl, rws.snoc rv⟩)) s
    · refine ⟨G0, H0, G, z, .error x, z', R, ?_, fun dx G' H' R' s xr => hA dx σ G' H' .refl R' s xr⟩
      show bnd m _ z = _
      unfold bnd
      rw [m1]
  · cases hm

/-! ### o.f = value, the own object i -/
def putN (f : Str) (d : D) : List Str → List D → List Str × List D
  | [], _ => ([f], [d])
  | n :: ns, e :: es => if n = f then (n :: ns, d :: es) else (n :: (putN f d ns es).1, e :: (putN f d ns es).2)
  | n :: ns, [] => (n :: ns, [])
theorem putN_rep {G : Hp} {f : Str} {d : D} {v : V} (rv : Rep B G d v) : ∀ {fs : List (Str × V)} {ds : List D}, Reps B G ds (fs.map (·.2)) → ((putF f v fs).map (·.1)) = (putN f d (fs.map (·.1)) ds).1 ∧ Reps B G (putN f d (fs.map (·.1)) ds).2 ((putF f v fs).map (·.2))
  | [], ds, h => by
    cases ds with
    | nil => exact ⟨rfl, .cons rv .nil⟩
    | cons d r => obtain ⟨_, _, e, _⟩ := h; cases e
  | (n, x) :: fs, [], h => by cases h
  | (n, x) :: fs, d0 :: ds, h => by
    obtain ⟨v0, r0, e, h1, h2⟩ := h
    cases e
    by_cases hn : n = f
    · have e1 : putF f v ((n, x) :: fs) = (n, v) :: fs := by show (if n = f then _ else _) = _; rw [if_pos hn]
      have e2 : putN f d (((n, x) :: fs).map (·.1)) (d0 :: ds) = (n :: fs.map (·.1), d :: ds) := by show (if n = f then _ else _) = _; rw [if_pos hn]
      rw [e1, e2]
      exact ⟨rfl, .cons rv h2⟩
    · have e1 : putF f v ((n, x) :: fs) = (n, x) :: putF f v fs := by show (if n = f then _ else _) = _; rw [if_neg hn]
      have e2 : putN f d (((n, x) :: fs).map (·.1)) (d0 :: ds) = (n :: (putN f d (fs.map (·.1)) ds).1, d0 :: (putN f d (fs.map (·.1)) ds).2) := by show (if n = f then _ else _) = _; rw [if_neg hn]
      rw [e1, e2]
      obtain ⟨i1, i2⟩ := putN_rep rv h2
      exact ⟨by simp [i1], .cons h1 i2⟩
def fldZ (C : Addr) (i : Nat) (f : Str) (d : D) (z : Z) : Option (Rs Fl × Z) := match z.S[i]? with
  | some (.ow (.obj C' ns ds)) => if C' = C ∧ ns.length < 1000 then some (.ok .nx, ⟨z.S.set i (.ow (.obj C (putN f d ns ds).1 (putN f d ns ds).2)), z.P⟩) else none
  | _ => none
theorem fldZ_ok {C : Addr} {i : Nat} {f : Str} {d : D} {z z' : Z} {r : Rs Fl} (h : fldZ C i f d z = some (r, z')) :
    ∃ ns ds, z.S[i]? = some (.ow (.obj C ns ds)) ∧ ns.length < 1000 ∧ r = .ok .nx ∧ z' = ⟨z.S.set i (.ow (.obj C (putN f d ns ds).1 (putN f d ns ds).2)), z.P⟩ := by
  unfold fldZ at h
  split at h
  · rename_i C' ns ds hs
    split at h
    · rename_i hc
      injection h with h
      injection h with h1 h2
      obtain ⟨rfl, hc⟩ := hc
      exact ⟨_, _, hs, hc, h1.symm, h2.symm⟩
    · cases h
  · cases h
theorem OwR.obj {G : Hp} {ob : HO} {C : Addr} {ns : List Str} {ds : List D} (h : OwR B G ob (.obj C ns ds)) : ∃ dx fs, ob = .ins C dx fs ∧ fs.map (·.1) = ns ∧ Reps B G ds (fs.map (·.2)) := by
  rcases h with ⟨ds, vs, h1, h2, h3⟩ | ⟨_, _, _, dx, fs, h1, h2, h3, h4⟩
  · cases h1
  · cases h1; exact ⟨dx, fs, h2, h3, h4⟩
def mFldS (C : Addr) (i : Nat) (f : Str) (m : M D) : M Fl := bnd m fun d => fldZ C i f d
theorem ds_fld {C : Addr} {i : Nat} {f : Str} {pos' : Pos} (hC : Ctx X B W) (hc : Cls B.K C) (hn : NoAttr B.K C f) (ho : PE X o (tVar i)) (hv : DE X B W e m) (hs : swapsWith e (some (.Attribute o f pos')) pos.line X.env = pure false := by rfl) : DS X B W (.Assign [.Attribute o f pos'] e pos) (mFldS C i f m) :=
  PS.imp (ps_fld ho hv hs) fun E σ H ⟨G0, H0, G, z, r, z', R, hm, hA⟩ => by
    obtain ⟨r1, z1, m1, A1⟩ := AfS.bnd (K := fun d G1 H1 => ∀ v, Rep B G1 d v → tVar i σ H1 fun x H2 => ∃ a C dx fs, x = .ref a ∧ H2 a = some (.ins C dx fs) ∧ Cls X.K C ∧ NoAttr X.K C f ∧ fs.length < 1000 ∧ E.nx σ (upd H2 a (.ins C dx (putF f v fs)))) hm hA fun d z1 G1 H1 R1 s1 hm hA v q1 => by
      obtain ⟨ns, ds, p1, p2, rfl, rfl⟩ := fldZ_ok hm
      obtain ⟨a, ob, t1, t2, t3, t4, t5, t6⟩ := R1.ow i _ p1
      obtain ⟨dx, fs, rfl, rfl, rfs⟩ := t4.obj
      obtain ⟨w1, w2⟩ := putN_rep (f := f) q1 rfs
      refine ⟨_, t1, a, C, dx, fs, rfl, t2, by rw [← hC.hK]; exact hc, by rw [← hC.hK]; exact hn, by simpa using p2, hA σ G1 _ .refl (R1.own p1 t1 (.inr ⟨C, _, _, dx, _, rfl, rfl, w1, w2⟩)) (Same.refl _)⟩
    exact ⟨G0, H0, G, z, r1, z1, R, m1, A1⟩

/-! ### e.f -/
def lookN (f : Str) : List Str → List D → Option D
  | n :: ns, d :: ds => if n = f then some d else lookN f ns ds
  | _, _ => none
theorem lookN_rep {G : Hp} {f : Str} {d : D} : ∀ {fs : List (Str × V)} {ds : List D}, Reps B G ds (fs.map (·.2)) → lookN f (fs.map (·.1)) ds = some d → ∃ v, fs.lookup f = some v ∧ Rep B G d v
  | [], _, _, e => by cases e
  | (n, x) :: fs, [], h, e => by cases e
  | (n, x) :: fs, d0 :: ds, h, e => by
    obtain ⟨v0, r0, e0, h1, h2⟩ := h
    cases e0
    by_cases hn : n = f
    · have e' : some d0 = some d := by rw [← e]; show _ = (if n = f then _ else _); rw [if_pos hn]
      cases e'
      exact ⟨x, by rw [List.lookup_cons]; simp [hn], h1⟩
    · have e' : lookN f (fs.map (·.1)) ds = some d := by rw [← e]; show _ = (if n = f then _ else _); rw [if_neg hn]
      obtain ⟨v, q1, q2⟩ := lookN_rep h2 e'
      exact ⟨v, by rw [List.lookup_cons]; rw [show (f == n) = false from by simp [Ne.symm hn]]; exact q1, q2⟩
/-- of an object of one of these classes -/
def fldD (Cs : List Addr) (f : Str) : D → Option D
  | .obj C ns ds => if C ∈ Cs then lookN f ns ds else none
  | _ => none
theorem de_fld {Cs : List Addr} {f : Str} (hC : Ctx X B W) (hc : ∀ C ∈ Cs, Cls B.K C ∧ NoAttr B.K C f) (he : DE X B W e m) (hb : attributeBase e f X.env (eval e X.env) = eval e X.env := by rfl) : DE X B W (.Attribute e f pos) (mLft m (fldD Cs f)) :=
  PE.imp (pe_fld he hb) fun σ H Q ⟨G0, H0, G, z, r, z', R, hm, hA⟩ => by
    obtain ⟨r1, z1, m1, A1⟩ := After.bnd (K := fun d G1 H1 => ∀ v, Rep B G1 d v → ∃ a C dx fs w, v = .ref a ∧ H1 a = some (.ins C dx fs) ∧ Cls X.K C ∧ NoAttr X.K C f ∧ fs.lookup f = some w ∧ Q w H1) hm hA fun d z1 G1 H1 R1 s1 hm hA v q1 => by
      obtain ⟨y, hf, rfl, rfl⟩ := lft_ok hm
      cases d with
      | obj C ns ds =>
        by_cases hin : C ∈ Cs
        · have hf : lookN f ns ds = some y := by rw [← hf]; show _ = (if C ∈ Cs then _ else _); rw [if_pos hin]
          obtain ⟨a, dx, fs, rfl, h1, rfl, h2⟩ := q1
          obtain ⟨w, w1, w2⟩ := lookN_rep h2 hf
          obtain ⟨c1, c2⟩ := hc C hin
          exact ⟨a, C, dx, fs, w, rfl, R1.ex _ _ h1, by rw [← hC.hK]; exact c1, by rw [← hC.hK]; exact c2, w1, hA G1 H1 R1 (Same.refl _) w w2⟩
        · have hf : none = some y := by rw [← hf]; show _ = (if C ∈ Cs then _ else _); rw [if_neg hin]
          cases hf
      | _ => cases hf
    exact ⟨G0, H0, G, z, r1, z1, R, m1, A1⟩

/-! ### while -/
theorem ds_while {n : Nat} (hp : PassesOwn (model X.prog X.w) X.A X.env X.xe) (hc : DT X B W c mt) (hb : DSs X B W body k) : DS X B W (.While c body [] pos) (mWh n mt k) := PS.imp (ps_while hp hc hb) fun E σ H ⟨G0, H0, G, z, r, z', R, hm, hA⟩ => by
  refine ⟨fun m τ H => Kp (meOf X) σ τ ∧ ∃ G1 z, Same G G1 ∧ Rel B G0 H0 z G1 H τ ∧ whGo mt k m z = some (r, z'), ⟨n, .refl, G, z, Same.refl _, R, hm⟩, ?_⟩
  rintro m τ H1 ⟨hl, G1, z1, s1, R1, go⟩
  cases m with
  | zero => cases go
  | succ m =>
    unfold whGo at go
    cases e : mt z1 with
    | none => rw [e] at go; cases go
    | some p =>
      obtain ⟨r1, z2⟩ := p
      rw [e] at go
      cases r1 with
      | error x =>
        injection go with go
        injection go with q1 q2
        subst q1 q2
        exact ⟨G0, H0, G1, z1, _, z2, R1, e, fun dx G' H' R' s xr => hA dx τ G' H' hl R' (s1.trans s) xr⟩
      | ok b =>
        refine ⟨G0, H0, G1, z1, _, z2, R1, e, fun G2 H2 R2 s2 => ?_⟩
        cases b with
        | false =>
          injection go with go
          injection go with q1 q2
          subst q1 q2
          exact iteF (hA τ G2 H2 hl R2 (s1.trans s2))
        | true =>
          refine iteT ⟨fun τ H => Kp (meOf X) σ τ ∧ ∃ G1 z, Same G G1 ∧ Rel B G0 H0 z G1 H τ ∧ whGo mt k m z = some (r, z'), fun σ' H' h => ⟨m, Nat.lt_succ_self _, h⟩, ?_⟩
          simp only at go
          split at go
          · rename_i z3 e2
            exact ⟨G0, H0, G2, z2, _, z3, R2, e2, fun σ' G'' H'' l R s => ⟨hl.trans l, G'', z3, s1.trans (s2.trans s), R, go⟩⟩
          · rename_i z3 e2
            exact ⟨G0, H0, G2, z2, _, z3, R2, e2, fun σ' G'' H'' l R s => ⟨hl.trans l, G'', z3, s1.trans (s2.trans s), R, go⟩⟩
          · rename_i z3 e2
            injection go with go
            injection go with q1 q2
            subst q1 q2
            exact ⟨G0, H0, G2, z2, _, z3, R2, e2, fun σ' G'' H'' l R s => hA σ' G'' H'' (hl.trans l) R (s1.trans (s2.trans s))⟩
          · rename_i d z3 e2
            injection go with go
            injection go with q1 q2
            subst q1 q2
            exact ⟨G0, H0, G2, z2, _, z3, R2, e2, fun σ' G'' H'' v l R s q => hA σ' G'' H'' v (hl.trans l) R (s1.trans (s2.trans s)) q⟩
          · rename_i x z3 e2
            injection go with go
            injection go with q1 q2
            subst q1 q2
            exact ⟨G0, H0, G2, z2, _, z3, R2, e2, fun dx σ' G'' H'' l R s q => hA dx σ' G'' H'' (hl.trans l) R (s1.trans (s2.trans s)) q⟩
          · cases go

/-! ### built-in calls -/
/-- a plain function of the arguments by CallR -/
theorem tA_fn {f : List D → Option D} {r : List V → Hp → VK → Prop} (hr : ∀ x H Q, rDs B f x H Q → r x H Q) (σ : Sg) (H : Hp) (Q : VK) (h : tD B W (mLft ms f) σ H Q) : tDs B W ms σ H fun xs H1 => r xs H1 Q := tDs_fn hr σ H Q h
end
end DL

-- DRaw2
set_option maxHeartbeats 4000000
/-! DRaw2: max, min of a tuple of ints -/
namespace DL
open PySem PySem.Spec PyProof.Rows L2

section
variable {prog : Program} {w : World} {A : Around} {E : Value → Shared → Prop} {s : Shared} {l : Addr} {xs : Array (Int × Tok)}
theorem iter_intTup {Q : Value → Shared → Prop} (hl : s.heap.IsTuple l (intItems xs))
    (h : ∀ s₂ : Shared, s₂ = { s with heap := s.heap.push { cls := .type "tuple_iterator", data := .fields #[.ref l, .int 0 0] } } →
      (s₂.heap.IsTupleIter s.heap.objs.size l 0 ∧ s₂.heap.IsTuple l (intItems xs)) → (∀ b ∈ [s.heap.objs.size, l], b < s₂.heap.objs.size) → l ≠ s.heap.objs.size → Q (.ref s.heap.objs.size) s₂) :
    wpAny (model prog w) A (pyIter (.ref l)) Q E s := by
  have hlt : l < s.heap.objs.size := by obtain ⟨_, e, _⟩ := hl; exact Heap.lt_size e
  refine wpAny_pyIter_tuple hl (h _ rfl ⟨⟨_, Heap.get?_push_size _ rfl, rfl, rfl⟩, hl.push _⟩ (fun b hb => ?_) (Nat.ne_of_lt hlt))
  show b < (s.heap.push _).objs.size
  rw [Heap.size_push]
  rcases List.mem_cons.mp hb with rfl | hb
  · exact Nat.lt_succ_self _
  · rcases List.mem_cons.mp hb with rfl | hb
    · exact Nat.lt_succ_of_lt hlt
    · cases hb
theorem old_keptT {h' : Heap} (hk : ∀ b o, b ∉ [s.heap.objs.size] → (s.heap.push { cls := .type "tuple_iterator", data := .fields #[.ref l, .int 0 0] }).get? b = some o → h'.get? b = some o) :
    ∀ b o, s.heap.get? b = some o → h'.get? b = some o := fun b o e => by
  refine hk b o (fun hm => ?_) (Heap.get?_push_of_some _ e)
  rcases List.mem_cons.mp hm with e1 | hm
  · exact absurd (e1 ▸ Heap.lt_size e) (Nat.lt_irrefl _)
  · cases hm
theorem max_intTup {Q : Value → Shared → Prop} (hh : A.handled = none) (hl : s.heap.IsTuple l (intItems xs)) (hne : 0 < xs.size)
    (h : ∀ v h' tk, (intItems xs)[argBest (fun i j => decide (numAt xs i > numAt xs j)) (xs.size - 1)]? = some v → (∀ b o, s.heap.get? b = some o → h'.get? b = some o) → Q v { s with heap := h', toks := tk }) :
    wpAny (model prog w) A (call (.builtin "max") [.ref l]) Q E s := by
  refine call_max_walk (iter_intTup hl fun s₂ e st hfp hlI => ?_)
  subst e
  refine ⟨_, _, _, _, _, _, _, rfl, Walks.tuple (A := A.in1) hh _ l hlI (intItems xs), st, hfp, by simpa [intItems] using hne, CmpOf.ints_gt (numAt xs) (fun _ _ => intItems_at), fun v h' tk hP hk => ?_⟩
  exact h v h' tk (by simpa [intItems] using hP) (old_keptT hk)
theorem min_intTup {Q : Value → Shared → Prop} (hh : A.handled = none) (hl : s.heap.IsTuple l (intItems xs)) (hne : 0 < xs.size)
    (h : ∀ v h' tk, (intItems xs)[argBest (fun i j => decide (numAt xs i < numAt xs j)) (xs.size - 1)]? = some v → (∀ b o, s.heap.get? b = some o → h'.get? b = some o) → Q v { s with heap := h', toks := tk }) :
    wpAny (model prog w) A (call (.builtin "min") [.ref l]) Q E s := by
  refine call_min_walk (iter_intTup hl fun s₂ e st hfp hlI => ?_)
  subst e
  refine ⟨_, _, _, _, _, _, _, rfl, Walks.tuple (A := A.in1) hh _ l hlI (intItems xs), st, hfp, by simpa [intItems] using hne, CmpOf.ints_lt (numAt xs) (fun _ _ => intItems_at), fun v h' tk hP hk => ?_⟩
  exact h v h' tk (by simpa [intItems] using hP) (old_keptT hk)
variable {its : List Value} {ns : List Int}
theorem max_rawT {Q : Value → Shared → Prop} (hh : A.handled = none) (hl : s.heap.IsTuple l its.toArray) (hi : IntsAre its ns) (hne : 0 < ns.length)
    (h : ∀ h' tk M t', (∀ b o, s.heap.get? b = some o → h'.get? b = some o) → M ∈ ns → (∀ a, a ∈ ns → a ≤ M) → Q (.int M t') { s with heap := h', toks := tk }) : wpAny (model prog w) A (call (.builtin "max") [.ref l]) Q E s := by
  obtain ⟨xs, e⟩ := hi.allInts.items
  have hn : numsOf (intItems xs).toList = ns := by rw [← e]; exact hi.numsOf
  rw [nums_intItems] at hn
  subst hn
  rw [e] at hl
  have hsz : 0 < xs.size := by simpa using hne
  refine max_intTup hh hl hsz fun v h' tk hv hk => ?_
  obtain ⟨t, rfl⟩ := intItems_at hv
  obtain ⟨h1, h2⟩ := argBest_gt (numAt xs) (xs.size - 1)
  refine h h' tk _ t hk ?_ fun a ha => ?_
  · rw [numAt_eq]; exact PySem.getD_mem (by rw [List.length_map, Array.length_toList]; omega)
  · obtain ⟨j, hj, rfl⟩ := mem_getD ha
    rw [List.length_map, Array.length_toList] at hj
    rw [← numAt_eq]; exact h2 j (by omega)
theorem min_rawT {Q : Value → Shared → Prop} (hh : A.handled = none) (hl : s.heap.IsTuple l its.toArray) (hi : IntsAre its ns) (hne : 0 < ns.length)
    (h : ∀ h' tk M t', (∀ b o, s.heap.get? b = some o → h'.get? b = some o) → M ∈ ns → (∀ a, a ∈ ns → M ≤ a) → Q (.int M t') { s with heap := h', toks := tk }) : wpAny (model prog w) A (call (.builtin "min") [.ref l]) Q E s := by
  obtain ⟨xs, e⟩ := hi.allInts.items
  have hn : numsOf (intItems xs).toList = ns := by rw [← e]; exact hi.numsOf
  rw [nums_intItems] at hn
  subst hn
  rw [e] at hl
  have hsz : 0 < xs.size := by simpa using hne
  refine min_intTup hh hl hsz fun v h' tk hv hk => ?_
  obtain ⟨t, rfl⟩ := intItems_at hv
  obtain ⟨h1, h2⟩ := argBest_lt (numAt xs) (xs.size - 1)
  refine h h' tk _ t hk ?_ fun a ha => ?_
  · rw [numAt_eq]; exact PySem.getD_mem (by rw [List.length_map, Array.length_toList]; omega)
  · obtain ⟨j, hj, rfl⟩ := mem_getD ha
    rw [List.length_map, Array.length_toList] at hj
    rw [← numAt_eq]; exact h2 j (by omega)
end
section
variable {X : Cx}
def rMaxS (K : PySem.W.Frag) : List V → Hp → VK → Prop := fun vs H Q => ∃ (a : Addr) (ns : List Int), vs = [V.ref a] ∧ (SqL K H a (ns.map V.int) ∨ SqT K H a (ns.map V.int)) ∧ 0 < ns.length ∧ ∀ m, m ∈ ns → (∀ y, y ∈ ns → y ≤ m) → Q (.int m) H
def rMinS (K : PySem.W.Frag) : List V → Hp → VK → Prop := fun vs H Q => ∃ (a : Addr) (ns : List Int), vs = [V.ref a] ∧ (SqL K H a (ns.map V.int) ∨ SqT K H a (ns.map V.int)) ∧ 0 < ns.length ∧ ∀ m, m ∈ ns → (∀ y, y ∈ ns → m ≤ y) → Q (.int m) H
theorem cr_maxS (hc : X.calm = true) : CallR X (.builtin "max") (rMaxS X.K) := by
  intro pins s σ H vs us Q I r h
  obtain ⟨a, ns, rfl, hs | hs, hne, q⟩ := h
  · exact cr_max hc pins s σ H _ us Q I r ⟨a, ns, rfl, hs, hne, q⟩
  · obtain ⟨its, rv, p, _⟩ := I.tuple hs
    rw [Vals.ref1 r]
    exact max_rawT (I.ok.hd hc) (show s.heap.IsTuple a its.toArray from p) rv.ints hne fun h' tk m t' hk h1 h2 => ⟨.int _, H, I.kept hk, ⟨_, rfl⟩, q m h1 h2⟩
theorem cr_minS (hc : X.calm = true) : CallR X (.builtin "min") (rMinS X.K) := by
  intro pins s σ H vs us Q I r h
  obtain ⟨a, ns, rfl, hs | hs, hne, q⟩ := h
  · exact cr_min hc pins s σ H _ us Q I r ⟨a, ns, rfl, hs, hne, q⟩
  · obtain ⟨its, rv, p, _⟩ := I.tuple hs
    rw [Vals.ref1 r]
    exact min_rawT (I.ok.hd hc) (show s.heap.IsTuple a its.toArray from p) rv.ints hne fun h' tk m t' hk h1 h2 => ⟨.int _, H, I.kept hk, ⟨_, rfl⟩, q m h1 h2⟩
end
end DL

-- DDef
set_option maxHeartbeats 4000000
/-! DDef: what a def promises, by a plain function; calls -/
namespace DL
open PySem PySem.Spec PyProof.Rows L2

abbrev Mf := List D → Pen → Option (Rs D × Pen)
def spD (B : Bs) (n : Nat) (m : Mf) : Sp := fun vs H Q E => vs.length = n ∧ ∃ G P ds r P', Same G H ∧ PenOk B G H P ∧ Reps B G ds vs ∧ m ds P = some (r, P') ∧ match r with
  | .ok d => ∀ v G' H', GrowP B G H G' H' P' → Rep B G' d v → Q v H'
  | .error x => ∀ dx G' H', GrowP B G H G' H' P' → XRep B G' H' x dx → E (.ref x.C) (some dx) H'
def fin (r : Option (Rs Fl × Z)) : Option (Rs D × Pen) := match r with
  | some (.ok .nx, z) => some (.ok .non, z.P)
  | some (.ok (.rt d), z) => some (.ok d, z.P)
  | some (.error x, z) => some (.error x, z.P)
  | _ => none
def z0 (N : Nat) (ds : List D) (P : Pen) : Z := ⟨ds.map .va ++ List.replicate (N - ds.length) .un, P⟩
def runF (N : Nat) (m : M Fl) : Mf := fun ds P => fin (m (z0 N ds P))

section
variable {B : Bs} {G H : Hp} {P : Pen}
theorem start_va {N : List Str} {vs : List V} {i : Nat} {v : V} (h : vs[i]? = some v) : (L2.start N vs)[i]? = some (some v) := by
  have hl : i < vs.length := (List.getElem?_eq_some_iff.mp h).1
  unfold L2.start
  rw [List.getElem?_append_left (by simpa using hl), List.getElem?_map, h]
  rfl
theorem z0_get {N : Nat} {ds : List D} {P : Pen} {i : Nat} {x : Sl} (h : (z0 N ds P).S[i]? = some x) : x = .un ∨ ∃ d, x = .va d ∧ ds[i]? = some d := by
  unfold z0 at h
  by_cases hi : i < ds.length
  · rw [List.getElem?_append_left (by simpa using hi), List.getElem?_map] at h
    cases e : ds[i]? with
    | none => rw [e] at h; cases h
    | some d => rw [e] at h; cases h; exact .inr ⟨d, rfl, rfl⟩
  · rw [List.getElem?_append_right (by simpa using hi), List.getElem?_replicate] at h
    split at h <;> cases h
    exact .inl rfl
theorem Rel.start {N : List Str} {n : Nat} {ds : List D} {vs : List V} (sg : Same G H) (pn : PenOk B G H P) (r : Reps B G ds vs) : Rel B G H (z0 n ds P) G H (L2.start N vs) where
  ex := sg
  g0 := Same.refl _
  fr := fun _ _ q _ => q
  nw := fun _ _ q => .inl q
  pen := pn
  va := fun i d q => by
    rcases z0_get q with q | ⟨e, q, h⟩
    · cases q
    · cases q
      obtain ⟨v, h1, h2⟩ := r.get h
      exact ⟨v, start_va h1, h2⟩
  ow := fun i d q => by
    rcases z0_get q with q | ⟨e, q, h⟩ <;> cases q
  ap := fun i j d e a q _ _ _ _ => by
    rcases z0_get q with q | ⟨e, q, h⟩ <;> cases q
theorem Rel.done {G' H' : Hp} {z : Z} {σ : Sg} (R : Rel B G H z G' H' σ) : GrowP B G H G' H' z.P := ⟨R.g0, R.fr, R.ex, R.nw, R.pen⟩
end

section
variable {P : Program} {w : World} {K : PySem.W.Frag} {mg : Str → Option Value} {base : Heap} {B : Bs}
theorem fin_r {m : M Fl} {N : List Str} {n : Nat} {vs : List V} {H : Hp} {Q : VK} {E : XK} {me : Bool} (h : spD B n (runF N.length m) vs H Q E) : tS me B E m { nx := fun _ H' => Q .non H', rt := Q } (L2.start N vs) H := by
  obtain ⟨hl, G, P, ds, r, P', sg, pn, rp, hm, hA⟩ := h
  unfold runF at hm
  cases e : m (z0 N.length ds P) with
  | none => rw [e] at hm; cases hm
  | some p =>
    obtain ⟨r1, z1⟩ := p
    rw [e] at hm
    refine ⟨G, H, G, _, r1, z1, Rel.start sg pn rp, e, ?_⟩
    match r1, hm with
    | .ok .nx, hm =>
      injection hm with hm
      injection hm with q1 q2
      subst q1 q2
      exact fun σ' G' H' l R s => hA .non G' H' R.done rfl
    | .ok (.rt d), hm =>
      injection hm with hm
      injection hm with q1 q2
      subst q1 q2
      exact fun σ' G' H' v l R s q => hA v G' H' R.done q
    | .error x, hm =>
      injection hm with hm
      injection hm with q1 q2
      subst q1 q2
      exact fun dx σ' G' H' l R s q => hA dx G' H' R.done q
    | .ok .bk, hm => cases hm
    | .ok .ct, hm => cases hm
/-- what a body's rules are given -/
structure Bd (X : Cx) (B : Bs) (W : XK) (k : Nat) : Prop where
  c : Ctx X B W
  room : Room k X.A
  own : PassesOwn (model X.prog X.w) X.A X.env X.xe
  tk : Takes X (fun c d _ H => W c d H)
theorem fn_D {x qual : Str} {st : Stmt} {f : Addr} {fd : FuncData} {N ps : List Str} {k : Nat} {m : M Fl} (F : Fun K x qual st f fd) (S : FnScope N ps (defScope st)) (hB : B.K = K)
    (hbody : ∀ (cdv : Value) (A : Around) (outer : List Env) (s : Shared) (H : Hp) (E : XK), Bd (cxOf (L2.CX P w) P w K mg base N qual (defScope st) f cdv A outer s H E) B E k → DSs (cxOf (L2.CX P w) P w K mg base N qual (defScope st) f cdv A outer s H E) B E (defBody st) m) :
    FnOk P w K mg base (L2.CX P w) (k + 1) f fd ps (spD B ps.length (runF N.length m)) :=
  F.okX S (fun vs H Q E h => h.1) fun cdv A outer s H vs Q E hr h => by
    have tk : Takes (cxOf (L2.CX P w) P w K mg base N qual (defScope st) f cdv A outer s H E) (fun c d _ H => E c d H) := takes_of rfl rfl rfl rfl
    exact ⟨_, hbody cdv A outer s H E ⟨⟨hB, rfl, S.nd, passes_call tk fun _ _ _ _ h => h⟩, hr, passes_of rfl, tk⟩, fin_r h⟩
theorem fn_DD {x qual : Str} {params : Arguments} {body : List Stmt} {scope : Scope} {dvs : List V} {kws : List (Str × V)} {f : Addr} {fd : FuncData} {N ps : List Str} {k : Nat} {m : M Fl} (F : FunD K x qual params body scope dvs kws f fd) (S : FnScope N ps scope) (hB : B.K = K)
    (hbody : ∀ (cdv : Value) (A : Around) (outer : List Env) (s : Shared) (H : Hp) (E : XK), Bd (cxOf (L2.CX P w) P w K mg base N qual scope f cdv A outer s H E) B E k → DSs (cxOf (L2.CX P w) P w K mg base N qual scope f cdv A outer s H E) B E body m) :
    FnOk P w K mg base (L2.CX P w) (k + 1) f fd ps (spD B ps.length (runF N.length m)) :=
  F.ok S (fun vs H Q E h => h.1) fun cdv A outer s H vs Q E hr h => by
    have tk : Takes (cxOf (L2.CX P w) P w K mg base N qual scope f cdv A outer s H E) (fun c d _ H => E c d H) := takes_of rfl rfl rfl rfl
    exact ⟨_, hbody cdv A outer s H E ⟨⟨hB, rfl, S.nd, passes_call tk fun _ _ _ _ h => h⟩, hr, passes_of rfl, tk⟩, fin_r h⟩
end

/-! ### calls -/
def callM (m : Mf) (ds : List D) : M D := fun z => match m ds z.P with
  | some (r, P') => some (r, ⟨z.S, P'⟩)
  | none => none
theorem callM_ok {m : Mf} {ds : List D} {z z' : Z} {r : Rs D} (h : callM m ds z = some (r, z')) : ∃ P', m ds z.P = some (r, P') ∧ z' = ⟨z.S, P'⟩ := by
  unfold callM at h
  split at h
  · rename_i r1 P' e
    injection h with h
    injection h with h1 h2
    subst h1
    exact ⟨P', e, h2.symm⟩
  · cases h
def mCall (m : Mf) (dd : List D) (ms : M (List D)) : M D := bnd ms fun ds => callM m (ds ++ dd)
section
variable {X : Cx} {B : Bs} {W : XK} {pos apos p : Pos} {a b c e o : Expr} {es : List Expr} {mo : M D} {ms : M (List D)} {k n : Nat} {f C : Addr} {fd : FuncData} {ps : List Str} {m : Mf} {x : Str} {dvs : List V} {ds : List Value} {dd : List D}
/-- the promise holds where the call stands -/
theorem sp_call {G0 H0 G H : Hp} {σ : Sg} {z z' : Z} {r : Rs D} {vs : List V} {xs : List D} {Q : VK} (R : Rel B G0 H0 z G H σ) (rx : Reps B G xs vs) (hl : vs.length = n) (hm : callM m xs z = some (r, z'))
    (hA : After B W G0 H0 G σ r z' fun d G' H' => ∀ v, Rep B G' d v → Q v H') : spD B n m vs H Q W := by
  obtain ⟨P', e, rfl⟩ := callM_ok hm
  refine ⟨hl, G, z.P, xs, r, P', R.ex, R.pen, rx, e, ?_⟩
  cases r with
  | ok d => exact fun v G' H' g rv => hA G' H' (R.growP g) g.g v rv
  | error x => exact fun dx G' H' g xr => hA dx G' H' (R.growP g) g.g xr
theorem de_call (hC : Ctx X B W) (F : FnOk X.prog X.w X.K X.mg X.base (L2.CX X.prog X.w) k f fd ps (spD B n m)) (hr : Room k X.A) (hg : Gl X x) (hm : X.mg x = some (.ref f)) (hk : PySem.W.keepIn X.K (.ref f) = true) (hb : Binds X.K fd ps ds) (hd : Vals dvs ds)
    (hdd : ∀ G, Reps B G dd dvs) (hn : ∀ z xs z', ms z = some (.ok xs, z') → xs.length + dd.length = n)
    (ha : DA X B W (e :: es) ms) (hdb : (x == ("__debug__" : Str)) = false := by decide) (he : starEach (e :: es) X.env = (false, eval e X.env) :: starEach es X.env := by rfl) (hpl : (backTo pos (starEach es X.env)).any (·.1) = false := by rfl) :
    DE X B W (.Call (.Name x p) (e :: es) [] pos) (mCall m dd ms) := PE.imp (pe_call F hr hg hm hk hb hd hC.pass ha hdb he hpl) fun σ H Q ⟨G0, H0, G, z, r, z', R, hm, hA⟩ => by
  rcases bnd_ok hm with ⟨xs, z1, m1, hm⟩ | ⟨x, m1, rfl⟩
  · refine ⟨G0, H0, G, z, _, z1, R, m1, fun G1 H1 R1 s1 vs rx => ?_⟩
    have rr := rx.append (hdd G1)
    exact sp_call R1 rr (by rw [← rr.length, List.length_append]; exact hn _ _ _ m1) hm (hA.up s1)
  · exact ⟨G0, H0, G, z, _, z', R, m1, hA⟩
theorem de_call0 (hC : Ctx X B W) (F : FnOk X.prog X.w X.K X.mg X.base (L2.CX X.prog X.w) k f fd ps (spD B n m)) (hr : Room k X.A) (hg : Gl X x) (hm : X.mg x = some (.ref f)) (hk : PySem.W.keepIn X.K (.ref f) = true) (hb : Binds X.K fd ps ds) (hd : Vals dvs ds)
    (hdd : ∀ G, Reps B G dd dvs) (hn : dd.length = n) (hdb : (x == ("__debug__" : Str)) = false := by decide) :
    DE X B W (.Call (.Name x p) [] [] pos) (mCall m dd mNil) := PE.imp (pe_call0 F hr hg hm hk hb hd hC.pass hdb) fun σ H Q ⟨G0, H0, G, z, r, z', R, hm, hA⟩ => by
  rcases bnd_ok hm with ⟨xs, z1, m1, hm⟩ | ⟨x, m1, rfl⟩
  · obtain ⟨q1, rfl⟩ := ret_ok m1
    cases q1
    exact sp_call R (hdd G) (by show dvs.length = n; rw [← (hdd G).length]; exact hn) hm hA
  · obtain ⟨q1, _⟩ := ret_ok m1
    cases q1
/-! ### methods -/
def mMeth (C : Addr) (nm : Str) (m : Mf) (dd : List D) (mo : M D) (ms : M (List D)) : M D := bnd mo fun o => match o with
  | .obj C' ns ds => if C' = C ∧ nm ∉ ns then bnd ms fun xs => callM m (.obj C' ns ds :: (xs ++ dd)) else fun _ => none
  | _ => fun _ => none
theorem look_none {nm : Str} : ∀ {fs : List (Str × V)}, nm ∉ fs.map (·.1) → fs.lookup nm = none
  | [], _ => rfl
  | (n, x) :: fs, h => by
    rw [List.lookup_cons]
    have h1 : (nm == n) = false := by
      simp only [List.map_cons, List.mem_cons, not_or] at h
      simp [h.1]
    rw [h1]
    exact look_none fun q => h (List.mem_cons_of_mem _ q)
theorem tMeth_of {nm : Str} {t : TA} (ht : ∀ σ H Q, tDs B W ms σ H Q → t σ H Q) (hdd : ∀ G, Reps B G dd dvs) (hn : ∀ z xs z', ms z = some (.ok xs, z') → xs.length + dd.length + 1 = n) (σ : Sg) (H : Hp) (Q : VK) (h : tD B W (mMeth C nm m dd mo ms) σ H Q) : tMeth C nm (spD B n m) dvs W (tD B W mo) t σ H Q := by
  obtain ⟨G0, H0, G, z, r, z', R, hm, hA⟩ := h
  obtain ⟨r1, z1, m1, A1⟩ := After.bnd (K := fun d G1 H1 => ∀ v, Rep B G1 d v → ∃ a dx fs, v = .ref a ∧ H1 a = some (.ins C dx fs) ∧ fs.lookup nm = none ∧ t σ H1 fun vs H2 => spD B n m (v :: (vs ++ dvs)) H2 Q W) hm hA fun d z1 G1 H1 R1 s1 hm hA v q1 => by
    split at hm
    · rename_i C' ns ds
      split at hm
      · rename_i hc
        obtain ⟨rfl, hc⟩ := hc
        obtain ⟨a, dx, fs, rfl, h1, rfl, h2⟩ := id q1
        refine ⟨a, dx, fs, rfl, R1.ex _ _ h1, look_none hc, ht _ _ _ ?_⟩
        rcases bnd_ok hm with ⟨xs, z2, m2, hm⟩ | ⟨x, m2, rfl⟩
        · refine ⟨G0, H0, G1, z1, _, z2, R1, m2, fun G2 H2 R2 s2 vs rx => ?_⟩
          have rr := (Reps.cons (Rep.mono s2 _ _ q1) (rx.append (hdd G2)))
          refine sp_call R2 rr ?_ hm (hA.up s2)
          rw [← rr.length, List.length_cons, List.length_append]
          exact hn _ _ _ m2
        · exact ⟨G0, H0, G1, z1, _, z', R1, m2, hA⟩
      · cases hm
    · cases hm
  exact ⟨G0, H0, G, z, r1, z1, R, m1, A1⟩
theorem de_meth {nm : Str} {pl : Sem Bool} (hC : Ctx X B W) (ho : DE X B W o mo) (c : Cls X.K C) (hm : Meth X.K C nm f) (F : FnOk X.prog X.w X.K X.mg X.base (L2.CX X.prog X.w) k f fd ps (spD B n m)) (hr : Room k X.A) (hb : Binds X.K fd ps ds) (hd : Vals dvs ds)
    (hdd : ∀ G, Reps B G dd dvs) (hn : ∀ z xs z', ms z = some (.ok xs, z') → xs.length + dd.length + 1 = n) (ha : DA X B W (e :: es) ms)
    (hst : starEach (e :: es) X.env = (false, eval e X.env) :: starEach es X.env := by rfl) (hpl : (backTo pos (starEach es X.env)).any (·.1) = false := by rfl)
    (ht : eval (.Call (.Attribute o nm apos) (e :: es) [] pos) X.env = (do
      let ov ← eval o X.env
      standAt apos.atName
      let (f, first) ← holding [ov] (getMethod ov nm pl)
      callWith pos f first (backTo pos (starEach (e :: es) X.env)) (backToKw pos (keywordEach [] X.env))) := by rfl) :
    DE X B W (.Call (.Attribute o nm apos) (e :: es) [] pos) (mMeth C nm m dd mo ms) := PE.imp (pe_meth ho c hm F hr hb hd hC.pass ha hst hpl ht) (tMeth_of (fun _ _ _ h => h) hdd hn)
theorem nil_t (σ : Sg) (H : Hp) (Q : List V → Hp → Prop) (h : tDs B W mNil σ H Q) : tNil σ H Q := by
  obtain ⟨G0, H0, G, z, r, z', R, hm, hA⟩ := h
  obtain ⟨rfl, rfl⟩ := ret_ok hm
  exact hA G H R (Same.refl _) [] .nil
theorem de_meth0 {nm : Str} {pl : Sem Bool} (hC : Ctx X B W) (ho : DE X B W o mo) (c : Cls X.K C) (hm : Meth X.K C nm f) (F : FnOk X.prog X.w X.K X.mg X.base (L2.CX X.prog X.w) k f fd ps (spD B n m)) (hr : Room k X.A) (hb : Binds X.K fd ps ds) (hd : Vals dvs ds)
    (hdd : ∀ G, Reps B G dd dvs) (hn : dd.length + 1 = n)
    (ht : eval (.Call (.Attribute o nm apos) [] [] pos) X.env = (do
      let ov ← eval o X.env
      standAt apos.atName
      let (f, first) ← holding [ov] (getMethod ov nm pl)
      callWith pos f first (backTo pos (starEach [] X.env)) (backToKw pos (keywordEach [] X.env))) := by rfl) :
    DE X B W (.Call (.Attribute o nm apos) [] [] pos) (mMeth C nm m dd mo mNil) := PE.imp (pe_meth0 ho c hm F hr hb hd hC.pass ht) (tMeth_of nil_t hdd fun z xs z' h => by
      obtain ⟨q, _⟩ := ret_ok h
      cases q
      simpa using hn)
end
end DL

-- DCall
set_option maxHeartbeats 4000000
/-! DCall: built-in calls by plain functions -/
namespace DL
open PySem PySem.Spec PyProof.Rows L2

def lenD : List D → Option D
  | [.lst xs] => some (.int xs.length)
  | [.tup xs] => some (.int xs.length)
  | [.str x] => if x.length ≤ lim then some (.int x.length) else none
  | _ => none
def absD : List D → Option D
  | [.int i] => some (.int (if i < 0 then -i else i))
  | _ => none
def intD : List D → Option D
  | [.int i] => some (.int i)
  | [.bl k] => some (.int (if k then 1 else 0))
  | _ => none
def boolD : List D → Option D
  | [.int i] => some (.bl (i != 0))
  | [.bl k] => some (.bl k)
  | _ => none
def intsOf : List D → Option (List Int)
  | [] => some []
  | .int i :: r => (intsOf r).map (i :: ·)
  | _ :: _ => none
def blsOf : List D → Option (List Bool)
  | [] => some []
  | .bl i :: r => (blsOf r).map (i :: ·)
  | _ :: _ => none
def maxD : List D → Option D
  | [.int i, .int j] => some (.int (if j > i then j else i))
  | [.lst xs] => (intsOf xs).bind fun ns => ns.max?.map D.int
  | [.tup xs] => (intsOf xs).bind fun ns => ns.max?.map D.int
  | _ => none
def minD : List D → Option D
  | [.int i, .int j] => some (.int (if j < i then j else i))
  | [.lst xs] => (intsOf xs).bind fun ns => ns.min?.map D.int
  | [.tup xs] => (intsOf xs).bind fun ns => ns.min?.map D.int
  | _ => none
def sumD : List D → Option D
  | [.lst xs] => (intsOf xs).map fun ns => D.int ns.sum
  | _ => none
def allD : List D → Option D
  | [.lst xs] => (blsOf xs).map fun bs => D.bl (bs.all id)
  | _ => none
def anyD : List D → Option D
  | [.lst xs] => (blsOf xs).map fun bs => D.bl (bs.any id)
  | _ => none
def tupD : List D → Option D
  | [.lst xs] => some (.tup xs)
  | [.tup xs] => some (.tup xs)
  | _ => none
def lstD : List D → Option D
  | [.lst xs] => some (.lst xs)
  | [.tup xs] => some (.lst xs)
  | _ => none

section
variable {B : Bs} {G H : Hp}
theorem ints_rep : ∀ {xs : List D} {ns : List Int} {vs : List V}, intsOf xs = some ns → Reps B G xs vs → vs = ns.map V.int
  | [], ns, vs, h, r => by cases h; cases r; rfl
  | .int i :: xs, ns, vs, h, r => by
    obtain ⟨v, t, rfl, h1, h2⟩ := r
    cases h1
    cases e : intsOf xs with
    | none => simp [intsOf, e] at h
    | some ms =>
      have : ns = i :: ms := by simp [intsOf, e] at h; exact h.symm
      subst this
      rw [ints_rep e h2]
      rfl
theorem bls_rep : ∀ {xs : List D} {ns : List Bool} {vs : List V}, blsOf xs = some ns → Reps B G xs vs → vs = ns.map V.bl
  | [], ns, vs, h, r => by cases h; cases r; rfl
  | .bl i :: xs, ns, vs, h, r => by
    obtain ⟨v, t, rfl, h1, h2⟩ := r
    cases h1
    cases e : blsOf xs with
    | none => simp [blsOf, e] at h
    | some ms =>
      have : ns = i :: ms := by simp [blsOf, e] at h; exact h.symm
      subst this
      rw [bls_rep e h2]
      rfl
end

section
variable {X : Cx} {B : Bs} {W : XK} {pos p : Pos} {a b c e o t : Expr} {es : List Expr} {m : M D} {ms : M (List D)} {id T : String} {x : Str} {r : List V → Hp → VK → Prop} {f : List D → Option D}
theorem de_cb (hr : ∀ xs H Q, rDs B f xs H Q → r xs H Q) (hc : CallR X (.builtin id) r) (hg : Gl X x) (hm : X.mg x = none) (hv : bootBuiltins x = some (.builtin id)) (ha : DA X B W (e :: es) ms) (hn : x ≠ "__name__" := by decide) (hdb : (x == ("__debug__" : Str)) = false := by decide)
    (he : starEach (e :: es) X.env = (false, eval e X.env) :: starEach es X.env := by rfl) (hpl : (backTo pos (starEach es X.env)).any (·.1) = false := by rfl) : DE X B W (.Call (.Name x p) (e :: es) [] pos) (mLft ms f) :=
  PE.imp (pe_callB hc hg hm hv ha hn hdb he hpl) fun σ H Q h => tDs_fn hr σ H Q h
theorem de_ct (hr : ∀ xs H Q, rDs B f xs H Q → r xs H Q) (hc : CallR X (.type T) r) (hg : Gl X x) (hm : X.mg x = none) (hv : bootBuiltins x = some (.type T)) (ha : DA X B W (e :: es) ms) (hn : x ≠ "__name__" := by decide) (hdb : (x == ("__debug__" : Str)) = false := by decide)
    (he : starEach (e :: es) X.env = (false, eval e X.env) :: starEach es X.env := by rfl) (hpl : (backTo pos (starEach es X.env)).any (·.1) = false := by rfl) : DE X B W (.Call (.Name x p) (e :: es) [] pos) (mLft ms f) :=
  PE.imp (pe_callTy hc hg hm hv ha hn hdb he hpl) fun σ H Q h => tDs_fn hr σ H Q h
theorem or_r {r r' : List V → Hp → VK → Prop} {g : Value} (h : CallR X g r) (h' : CallR X g r') : CallR X g (fun xs H Q => r xs H Q ∨ r' xs H Q) := fun pins s σ H xs us Q I rx h0 => by
  rcases h0 with h0 | h0
  · exact h pins s σ H xs us Q I rx h0
  · exact h' pins s σ H xs us Q I rx h0

theorem r_len (hK : B.K = X.K) (xs : List V) (H : Hp) (Q : VK) (h : rDs B lenD xs H Q) : (∃ p ys, xs = [.ref p] ∧ (SqL X.K H p ys ∨ SqT X.K H p ys) ∧ Q (.int ys.length) H) ∨ (∃ z, xs = [.str z] ∧ z.length ≤ sizeLine ∧ Q (.int z.length) H) := by
  obtain ⟨G, P, ds, y, sg, pn, rd, hf, hq⟩ := h
  unfold lenD at hf
  split at hf
  · rename_i ys
    cases hf
    obtain ⟨v, rfl, a, vs, rfl, h1, h2⟩ := Reps.one (ds := []) rd
    exact .inl ⟨a, vs, rfl, .inl (.inl (.inl (sg _ _ h1))), hq _ G H (.refl sg) (by rw [h2.length]; rfl)⟩
  · rename_i ys
    cases hf
    obtain ⟨v, rfl, a, vs, rfl, h1, h2⟩ := Reps.one (ds := []) rd
    exact .inl ⟨a, vs, rfl, .inr (by rw [← hK]; exact sqT_mono sg h1), hq _ G H (.refl sg) (by rw [h2.length]; rfl)⟩
  · split at hf <;> cases hf
    rename_i hl
    obtain ⟨v, rfl, h1⟩ := Reps.one (ds := []) rd
    cases h1
    exact .inr ⟨_, rfl, by rw [lim_eq]; exact hl, hq _ G H (.refl sg) rfl⟩
  · cases hf
theorem de_len (hC : Ctx X B W) (hg : Gl X "len") (hm : X.mg "len" = none) (ha : DA X B W [e] ms) (he : starEach (e :: []) X.env = (false, eval e X.env) :: starEach [] X.env := by rfl) : DE X B W (.Call (.Name "len" p) [e] [] pos) (mLft ms lenD) :=
  de_cb (r_len hC.hK) (or_r call_len_seq call_len_str) hg hm PySem.boot_len ha (by decide) (by decide) he
theorem r_abs (xs : List V) (H : Hp) (Q : VK) (h : rDs B absD xs H Q) : ∃ i, xs = [.int i] ∧ Q (.int (if i < 0 then -i else i)) H := by
  obtain ⟨G, P, ds, y, sg, pn, rd, hf, hq⟩ := h
  unfold absD at hf
  split at hf
  · cases hf
    obtain ⟨v, rfl, h1⟩ := Reps.one (ds := []) rd
    cases h1
    exact ⟨_, rfl, hq _ G H (.refl sg) rfl⟩
  · cases hf
theorem de_abs (hg : Gl X "abs") (hm : X.mg "abs" = none) (hv : bootBuiltins "abs" = some (.builtin "abs")) (ha : DA X B W [e] ms) (he : starEach (e :: []) X.env = (false, eval e X.env) :: starEach [] X.env := by rfl) : DE X B W (.Call (.Name "abs" p) [e] [] pos) (mLft ms absD) :=
  de_cb r_abs call_abs hg hm hv ha (by decide) (by decide) he
theorem r_int (xs : List V) (H : Hp) (Q : VK) (h : rDs B intD xs H Q) : (∃ i, xs = [.int i] ∧ Q (.int i) H) ∨ ∃ k, xs = [.bl k] ∧ Q (.int (if k then 1 else 0)) H := by
  obtain ⟨G, P, ds, y, sg, pn, rd, hf, hq⟩ := h
  unfold intD at hf
  split at hf
  · cases hf
    obtain ⟨v, rfl, h1⟩ := Reps.one (ds := []) rd
    cases h1
    exact .inl ⟨_, rfl, hq _ G H (.refl sg) rfl⟩
  · cases hf
    obtain ⟨v, rfl, h1⟩ := Reps.one (ds := []) rd
    cases h1
    exact .inr ⟨_, rfl, hq _ G H (.refl sg) rfl⟩
  · cases hf
theorem de_int1 (hg : Gl X "int") (hm : X.mg "int" = none) (hv : bootBuiltins "int" = some (.type "int")) (ha : DA X B W [e] ms) (he : starEach (e :: []) X.env = (false, eval e X.env) :: starEach [] X.env := by rfl) : DE X B W (.Call (.Name "int" p) [e] [] pos) (mLft ms intD) :=
  de_ct r_int call_int1 hg hm hv ha (by decide) (by decide) he
theorem max_is {ns : List Int} {m : Int} (h : ns.max? = some m) : m ∈ ns ∧ ∀ y, y ∈ ns → y ≤ m := List.max?_eq_some_iff.mp h
theorem min_is {ns : List Int} {m : Int} (h : ns.min? = some m) : m ∈ ns ∧ ∀ y, y ∈ ns → m ≤ y := List.min?_eq_some_iff.mp h
theorem mm_r {d : D} {xs : List D} {g : List Int → Option Int} {y : D} (h : ((intsOf xs).bind fun ns => (g ns).map D.int) = some y) : ∃ ns m, intsOf xs = some ns ∧ g ns = some m ∧ y = .int m := by
  cases e : intsOf xs with
  | none => rw [e] at h; cases h
  | some ns =>
    rw [e] at h
    have h : (g ns).map D.int = some y := h
    cases e2 : g ns with
    | none => rw [e2] at h; cases h
    | some m => rw [e2] at h; cases h; exact ⟨ns, m, rfl, e2, rfl⟩
theorem r_max (hK : B.K = X.K) (xs : List V) (H : Hp) (Q : VK) (h : rDs B maxD xs H Q) : rMaxS X.K xs H Q ∨ ∃ i j, xs = [.int i, .int j] ∧ Q (.int (if j > i then j else i)) H := by
  obtain ⟨G, P, ds, y, sg, pn, rd, hf, hq⟩ := h
  have key : ∀ {ys : List D} {a : Addr} {vs : List V}, ((intsOf ys).bind fun ns => ns.max?.map D.int) = some y → (SqL B.K G a vs ∨ SqT B.K G a vs) → Reps B G ys vs → rMaxS X.K [.ref a] H Q := fun {ys a vs} hf hs hr => by
    obtain ⟨ns, m, e1, e2, rfl⟩ := mm_r (d := .non) hf
    have hv := ints_rep e1 hr
    subst hv
    obtain ⟨i1, i2⟩ := max_is e2
    refine ⟨a, ns, rfl, ?_, List.length_pos_of_mem i1, fun m' h1 h2 => ?_⟩
    · rw [← hK]
      rcases hs with hs | hs
      · exact .inl (sqL_mono sg hs)
      · exact .inr (sqT_mono sg hs)
    · have : m' = m := Int.le_antisymm (i2 _ h1) (h2 _ i1)
      subst this
      exact hq _ G H (.refl sg) rfl
  unfold maxD at hf
  split at hf
  · cases hf
    obtain ⟨v, u, rfl, h1, h2⟩ := Reps.two rd
    cases h1; cases h2
    exact .inr ⟨_, _, rfl, hq _ G H (.refl sg) rfl⟩
  · obtain ⟨v, rfl, a, vs, rfl, h1, h2⟩ := Reps.one (ds := []) rd
    exact .inl (key hf (.inl (.inl (.inl h1))) h2)
  · obtain ⟨v, rfl, a, vs, rfl, h1, h2⟩ := Reps.one (ds := []) rd
    exact .inl (key hf (.inr h1) h2)
  · cases hf
theorem r_min (hK : B.K = X.K) (xs : List V) (H : Hp) (Q : VK) (h : rDs B minD xs H Q) : rMinS X.K xs H Q ∨ ∃ i j, xs = [.int i, .int j] ∧ Q (.int (if j < i then j else i)) H := by
  obtain ⟨G, P, ds, y, sg, pn, rd, hf, hq⟩ := h
  have key : ∀ {ys : List D} {a : Addr} {vs : List V}, ((intsOf ys).bind fun ns => ns.min?.map D.int) = some y → (SqL B.K G a vs ∨ SqT B.K G a vs) → Reps B G ys vs → rMinS X.K [.ref a] H Q := fun {ys a vs} hf hs hr => by
    obtain ⟨ns, m, e1, e2, rfl⟩ := mm_r (d := .non) hf
    have hv := ints_rep e1 hr
    subst hv
    obtain ⟨i1, i2⟩ := min_is e2
    refine ⟨a, ns, rfl, ?_, List.length_pos_of_mem i1, fun m' h1 h2 => ?_⟩
    · rw [← hK]
      rcases hs with hs | hs
      · exact .inl (sqL_mono sg hs)
      · exact .inr (sqT_mono sg hs)
    · have : m' = m := Int.le_antisymm (h2 _ i1) (i2 _ h1)
      subst this
      exact hq _ G H (.refl sg) rfl
  unfold minD at hf
  split at hf
  · cases hf
    obtain ⟨v, u, rfl, h1, h2⟩ := Reps.two rd
    cases h1; cases h2
    exact .inr ⟨_, _, rfl, hq _ G H (.refl sg) rfl⟩
  · obtain ⟨v, rfl, a, vs, rfl, h1, h2⟩ := Reps.one (ds := []) rd
    exact .inl (key hf (.inl (.inl (.inl h1))) h2)
  · obtain ⟨v, rfl, a, vs, rfl, h1, h2⟩ := Reps.one (ds := []) rd
    exact .inl (key hf (.inr h1) h2)
  · cases hf
theorem de_max (hC : Ctx X B W) (hg : Gl X "max") (hm : X.mg "max" = none) (hv : bootBuiltins "max" = some (.builtin "max")) (ha : DA X B W (e :: es) ms) (he : starEach (e :: es) X.env = (false, eval e X.env) :: starEach es X.env := by rfl) (hpl : (backTo pos (starEach es X.env)).any (·.1) = false := by rfl) : DE X B W (.Call (.Name "max" p) (e :: es) [] pos) (mLft ms maxD) :=
  de_cb (r_max hC.hK) (or_r (cr_maxS hC.calm) (call_max2 hC.calm)) hg hm hv ha (by decide) (by decide) he hpl
theorem de_min (hC : Ctx X B W) (hg : Gl X "min") (hm : X.mg "min" = none) (hv : bootBuiltins "min" = some (.builtin "min")) (ha : DA X B W (e :: es) ms) (he : starEach (e :: es) X.env = (false, eval e X.env) :: starEach es X.env := by rfl) (hpl : (backTo pos (starEach es X.env)).any (·.1) = false := by rfl) : DE X B W (.Call (.Name "min" p) (e :: es) [] pos) (mLft ms minD) :=
  de_cb (r_min hC.hK) (or_r (cr_minS hC.calm) (call_min2 hC.calm)) hg hm hv ha (by decide) (by decide) he hpl
theorem r_all (hK : B.K = X.K) (xs : List V) (H : Hp) (Q : VK) (h : rDs B allD xs H Q) : rAll X.K xs H Q := by
  obtain ⟨G, P, ds, y, sg, pn, rd, hf, hq⟩ := h
  unfold allD at hf
  split at hf
  · rename_i ys
    cases e : blsOf ys with
    | none => rw [e] at hf; cases hf
    | some bs =>
      rw [e] at hf
      cases hf
      obtain ⟨v, rfl, a, vs, rfl, h1, h2⟩ := Reps.one (ds := []) rd
      have := bls_rep e h2
      subst this
      exact ⟨a, bs, rfl, .inl (.inl (sg _ _ h1)), hq _ G H (.refl sg) rfl⟩
  · cases hf
theorem r_any (hK : B.K = X.K) (xs : List V) (H : Hp) (Q : VK) (h : rDs B anyD xs H Q) : rAny X.K xs H Q := by
  obtain ⟨G, P, ds, y, sg, pn, rd, hf, hq⟩ := h
  unfold anyD at hf
  split at hf
  · rename_i ys
    cases e : blsOf ys with
    | none => rw [e] at hf; cases hf
    | some bs =>
      rw [e] at hf
      cases hf
      obtain ⟨v, rfl, a, vs, rfl, h1, h2⟩ := Reps.one (ds := []) rd
      have := bls_rep e h2
      subst this
      exact ⟨a, bs, rfl, .inl (.inl (sg _ _ h1)), hq _ G H (.refl sg) rfl⟩
  · cases hf
theorem r_sum (hK : B.K = X.K) (xs : List V) (H : Hp) (Q : VK) (h : rDs B sumD xs H Q) : rSum X.K xs H Q := by
  obtain ⟨G, P, ds, y, sg, pn, rd, hf, hq⟩ := h
  unfold sumD at hf
  split at hf
  · rename_i ys
    cases e : intsOf ys with
    | none => rw [e] at hf; cases hf
    | some bs =>
      rw [e] at hf
      cases hf
      obtain ⟨v, rfl, a, vs, rfl, h1, h2⟩ := Reps.one (ds := []) rd
      have := ints_rep e h2
      subst this
      exact ⟨a, bs, rfl, .inl (.inl (sg _ _ h1)), hq _ G H (.refl sg) rfl⟩
  · cases hf
theorem de_all (hC : Ctx X B W) (hg : Gl X "all") (hm : X.mg "all" = none) (hv : bootBuiltins "all" = some (.builtin "all")) (ha : DA X B W [e] ms) (he : starEach (e :: []) X.env = (false, eval e X.env) :: starEach [] X.env := by rfl) : DE X B W (.Call (.Name "all" p) [e] [] pos) (mLft ms allD) :=
  de_cb (r_all hC.hK) (cr_all hC.calm) hg hm hv ha (by decide) (by decide) he
theorem de_any (hC : Ctx X B W) (hg : Gl X "any") (hm : X.mg "any" = none) (hv : bootBuiltins "any" = some (.builtin "any")) (ha : DA X B W [e] ms) (he : starEach (e :: []) X.env = (false, eval e X.env) :: starEach [] X.env := by rfl) : DE X B W (.Call (.Name "any" p) [e] [] pos) (mLft ms anyD) :=
  de_cb (r_any hC.hK) (cr_any hC.calm) hg hm hv ha (by decide) (by decide) he
theorem de_sum (hC : Ctx X B W) (hg : Gl X "sum") (hm : X.mg "sum" = none) (hv : bootBuiltins "sum" = some (.builtin "sum")) (ha : DA X B W [e] ms) (he : starEach (e :: []) X.env = (false, eval e X.env) :: starEach [] X.env := by rfl) : DE X B W (.Call (.Name "sum" p) [e] [] pos) (mLft ms sumD) :=
  de_cb (r_sum hC.hK) (cr_sum hC.calm) hg hm hv ha (by decide) (by decide) he
theorem r_tup (hK : B.K = X.K) (xs : List V) (H : Hp) (Q : VK) (h : rDs B tupD xs H Q) : ∃ p ys, xs = [.ref p] ∧ ((SqL X.K H p ys ∧ ∀ l, H l = none → Q (.ref l) (upd H l (.tup ys))) ∨ (SqT X.K H p ys ∧ Q (.ref p) H)) := by
  obtain ⟨G, P, ds, y, sg, pn, rd, hf, hq⟩ := h
  unfold tupD at hf
  split at hf
  · cases hf
    obtain ⟨v, rfl, a, vs, rfl, h1, h2⟩ := Reps.one (ds := []) rd
    refine ⟨a, vs, rfl, .inl ⟨.inl (.inl (sg _ _ h1)), fun l hl => ?_⟩⟩
    have g := Grow.new (o := .tup vs) sg hl
    exact hq _ _ _ g ⟨l, _, rfl, .inl (.inl upd_same), Reps.mono g.g _ _ h2⟩
  · cases hf
    obtain ⟨v, rfl, a, vs, rfl, h1, h2⟩ := Reps.one (ds := []) rd
    exact ⟨a, vs, rfl, .inr ⟨by rw [← hK]; exact sqT_mono sg h1, hq _ G H (.refl sg) ⟨a, vs, rfl, h1, h2⟩⟩⟩
  · cases hf
theorem de_tuple (hC : Ctx X B W) (hg : Gl X "tuple") (hm : X.mg "tuple" = none) (hv : bootBuiltins "tuple" = some (.type "tuple")) (ha : DA X B W [e] ms) (he : starEach (e :: []) X.env = (false, eval e X.env) :: starEach [] X.env := by rfl) : DE X B W (.Call (.Name "tuple" p) [e] [] pos) (mLft ms tupD) :=
  de_ct (r_tup hC.hK) call_tuple_of hg hm hv ha (by decide) (by decide) he
/-- list(xs): a new list -/
theorem do_list (hC : Ctx X B W) (hg : Gl X "list") (hm : X.mg "list" = none) (hv : bootBuiltins "list" = some (.type "list")) (ha : DA X B W [e] ms) (he : starEach (e :: []) X.env = (false, eval e X.env) :: starEach [] X.env := by rfl) : DO X B W (.Call (.Name "list" p) [e] [] pos) (mLft ms lstD) :=
  PE.imp (pe_callTy call_list_of hg hm hv ha (by decide) (by decide) he) fun σ H Q ⟨G0, H0, G, z, r, z', R, hm, hA⟩ => by
    obtain ⟨r1, z1, m1, A1⟩ := After.bnd (K := fun ds G1 H1 => ∀ vs, Reps B G1 ds vs → ∃ p ys, vs = [V.ref p] ∧ (SqL X.K H1 p ys ∨ SqT X.K H1 p ys) ∧ ∀ l, H1 l = none → Q (.ref l) (upd H1 l (.lst ys))) hm hA fun ds z1 G1 H1 R1 s1 hm hA vs q1 => by
      obtain ⟨y, hf, rfl, rfl⟩ := lft_ok hm
      unfold lstD at hf
      split at hf
      · cases hf
        obtain ⟨v, rfl, a, vs, rfl, h1, h2⟩ := Reps.one (ds := []) q1
        exact ⟨a, vs, rfl, .inl (.inl (.inl (R1.ex _ _ h1))), tO_of (k := fun _ _ _ => True) R1 (.inl ⟨_, vs, rfl, rfl, h2⟩) hA⟩
      · cases hf
        obtain ⟨v, rfl, a, vs, rfl, h1, h2⟩ := Reps.one (ds := []) q1
        exact ⟨a, vs, rfl, .inr (by rw [← hC.hK]; exact sqT_mono R1.ex h1), tO_of (k := fun _ _ _ => True) R1 (.inl ⟨_, vs, rfl, rfl, h2⟩) hA⟩
      · cases hf
    exact ⟨G0, H0, G, z, r1, z1, R, m1, A1⟩

/-! ### isinstance -/
/-- a value's type -/
def tyD : D → Option Value
  | .non => some (.type "NoneType")
  | .bl _ => some (.type "bool")
  | .int _ => some (.type "int")
  | .str _ => some (.type "str")
  | .lst _ => some (.type "list")
  | .tup _ => some (.type "tuple")
  | .obj C _ _ => some (.ref C)
  | _ => none
/-- an own class whose instances may be asked -/
structure IsC (K : PySem.W.Frag) (C : Addr) : Prop where
  cl : Cls K C
  ha : PySem.W.findIn K (.ref C) "__class__" = some (some (.builtin "object.__class__"))
  hn : PySem.W.specialIn K (.builtin "object.__class__") "__get__" = some (some (.builtin "getset_descriptor.__get__"))
  htk : PySem.W.takesIn K (.builtin "object.__class__") = some true
  hm : PySem.W.mroIn K C (.type "object") = some true
theorem tyx_of {G H : Hp} {d : D} {v : V} {t : Value} (hc : ∀ C, t = .ref C → IsC B.K C) (sg : Same G H) (h : tyD d = some t) (r : Rep B G d v) : TyX B.K H v t := by
  cases d with
  | non => cases h; cases r; exact .base .non
  | bl b => cases h; cases r; exact .base (.bl _)
  | int i => cases h; cases r; exact .base (.int _)
  | str x => cases h; cases r; exact .base (.str _)
  | lst xs =>
    cases h
    obtain ⟨a, vs, rfl, h1, _⟩ := r
    exact .base (.lst (sg _ _ h1))
  | tup xs =>
    cases h
    obtain ⟨a, vs, rfl, h1, _⟩ := r
    rcases sqT_mono sg h1 with (h | ⟨o, h⟩) | ⟨o, its, n, h, hc, _⟩
    · exact .base (.tup h)
    · exact .fTuple h
    · exact .kTuple h hc
  | obj C ns ds =>
    cases h
    obtain ⟨a, dx, fs, rfl, h1, _⟩ := r
    have c := hc C rfl
    exact .base (.ins (sg _ _ h1) c.cl c.ha c.hn c.htk c.hm)
  | _ => cases h
/-- the answers, by the value's type: built-in types, own classes -/
def isiF (ts : List (String × Bool)) (cs : List (Addr × Bool)) : Value → Option Bool
  | .type n => ts.lookup n
  | .ref C => cs.lookup C
  | _ => none
def isiD (ts : List (String × Bool)) (cs : List (Addr × Bool)) (d : D) : Option D := (tyD d).bind fun t => (isiF ts cs t).map D.bl
theorem isiD_ok {ts : List (String × Bool)} {cs : List (Addr × Bool)} {d y : D} (h : isiD ts cs d = some y) : ∃ t b, tyD d = some t ∧ isiF ts cs t = some b ∧ y = .bl b := by
  unfold isiD at h
  cases e : tyD d with
  | none => rw [e] at h; cases h
  | some t =>
    rw [e] at h
    have h : (isiF ts cs t).map D.bl = some y := h
    cases e2 : isiF ts cs t with
    | none => rw [e2] at h; cases h
    | some b => rw [e2] at h; cases h; exact ⟨t, b, rfl, e2, rfl⟩
theorem look_mem {α β : Type} [BEq α] [LawfulBEq α] {k : α} {v : β} : ∀ {l : List (α × β)}, l.lookup k = some v → (k, v) ∈ l
  | (a, b) :: l, h => by
    rw [List.lookup_cons] at h
    cases e : k == a with
    | true => rw [e] at h; cases h; rw [eq_of_beq e]; exact List.mem_cons_self
    | false => rw [e] at h; exact List.mem_cons_of_mem _ (look_mem h)
theorem isiF_by {ts : List (String × Bool)} {cs : List (Addr × Bool)} {g : Value → Option Bool} (h1 : ∀ p ∈ ts, g (.type p.1) = some p.2) (h2 : ∀ p ∈ cs, g (.ref p.1) = some p.2) {t : Value} {b : Bool} (h : isiF ts cs t = some b) : g t = some b := by
  unfold isiF at h
  split at h
  · exact h1 _ (look_mem h)
  · exact h2 _ (look_mem h)
  · cases h
theorem isi_cls {ts : List (String × Bool)} {cs : List (Addr × Bool)} (hc : ∀ p ∈ cs, IsC B.K p.1) {t : Value} {b : Bool} (h : isiF ts cs t = some b) : ∀ C, t = .ref C → IsC B.K C := fun C e => by
  subst e
  exact hc _ (look_mem (show cs.lookup C = some b from h))
theorem de_isi {ts : List (String × Bool)} {cs : List (Addr × Bool)} {cv : V} {u : Value} (hC : Ctx X B W) (hg : Gl X "isinstance") (hm : X.mg "isinstance" = none) (hv : bootBuiltins "isinstance" = some (.builtin "isinstance")) (ha : DE X B W e m) (ht : PE X t (tC cv)) (hcv : ClsV cv u)
    (h1 : ∀ p ∈ ts, PySem.W.kitOne B.K (.type p.1) u = some p.2) (h2 : ∀ p ∈ cs, PySem.W.kitOne B.K (.ref p.1) u = some p.2) (h3 : ∀ p ∈ cs, IsC B.K p.1)
    (hs : starEach [e, t] X.env = (false, eval e X.env) :: starEach [t] X.env := by rfl) (hs2 : starEach [t] X.env = (false, eval t X.env) :: starEach [] X.env := by rfl) (hpl : (backTo pos (starEach [t] X.env)).any (·.1) = false := by rfl) :
    DE X B W (.Call (.Name "isinstance" p) [e, t] [] pos) (mLft m (isiD ts cs)) := PE.imp (pe_callB call_isi hg hm hv (pa_cons ha (pa_cons ht pa_nil hs2) hs) (by decide) (by decide) hs hpl) fun σ H Q h => by
  refine tD_un (f := isiD ts cs) (r := fun x H1 Q => rIsi X.K [x, cv] H1 Q) (fun x H Q ⟨G, P, d, y, sg, pn, rd, hf, hq⟩ => ?_) σ H Q h
  obtain ⟨t, b, e1, e2, rfl⟩ := isiD_ok hf
  rw [← hC.hK]
  exact ⟨x, cv, t, u, b, rfl, hcv, tyx_of (isi_cls h3 e2) sg e1 rd, isiF_by (g := fun t => PySem.W.kitOne B.K t u) h1 h2 e2, hq _ G H (.refl sg) rfl⟩
/-- isinstance(e, (c1, c2, ..)) -/
def tVs (cs : List V) : TA := fun _ H Q => Q cs H
theorem de_isiT {ts : List (String × Bool)} {cs : List (Addr × Bool)} {cvs : List V} {us : List Value} {x1 : Nat} {tpos : Pos} (hC : Ctx X B W) (hg : Gl X "isinstance") (hm : X.mg "isinstance" = none) (hv : bootBuiltins "isinstance" = some (.builtin "isinstance")) (ha : DE X B W e m) (ht : PA X es (tVs cvs)) (hcv : Paired ClsV cvs us)
    (h1 : ∀ p ∈ ts, PySem.W.kitAny B.K (.type p.1) us = some p.2) (h2 : ∀ p ∈ cs, PySem.W.kitAny B.K (.ref p.1) us = some p.2) (h3 : ∀ p ∈ cs, IsC B.K p.1) (hl : cvs.length ≤ lim)
    (hs : starEach [e, .Tuple es x1 tpos] X.env = (false, eval e X.env) :: starEach [.Tuple es x1 tpos] X.env := by rfl) (hs2 : starEach [.Tuple es x1 tpos] X.env = (false, eval (.Tuple es x1 tpos) X.env) :: starEach [] X.env := by rfl) (hpl : (backTo pos (starEach [.Tuple es x1 tpos] X.env)).any (·.1) = false := by rfl) :
    DE X B W (.Call (.Name "isinstance" p) [e, .Tuple es x1 tpos] [] pos) (mLft m (isiD ts cs)) := PE.imp (pe_callB call_isiT hg hm hv (pa_cons ha (pa_cons (pe_tup ht) pa_nil hs2) hs) (by decide) (by decide) hs hpl) fun σ H Q h => by
  refine tD_un (f := isiD ts cs) (r := fun x H1 Q => cvs.length ≤ sizeLine ∧ ∀ p, H1 p = none → rIsiT X.K [x, .ref p] (upd H1 p (.tup cvs)) Q) (fun x H Q ⟨G, P, d, y, sg, pn, rd, hf, hq⟩ => ?_) σ H Q h
  obtain ⟨t, b, e1, e2, rfl⟩ := isiD_ok hf
  rw [← hC.hK]
  refine ⟨by rw [lim_eq]; exact hl, fun p np => ?_⟩
  have g := Grow.own (o := .tup cvs) sg np
  exact ⟨x, p, cvs, t, us, b, rfl, upd_same, hcv, tyx_of (isi_cls h3 e2) (g.g.trans g.ex) e1 rd, isiF_by (g := fun t => PySem.W.kitAny B.K t us) h1 h2 e2, hq _ G _ g rfl⟩
end
end DL

-- DRaw4
set_option maxHeartbeats 4000000
/-! DRaw4: an own exception class over ValueError whose __init__ says super().__init__(..) first -/
namespace DL
open PySem PySem.Spec PyProof.Rows L2

/-- the names of such an __init__ -/
structure SupScope (N ps : List Str) (sc : Scope) : Prop where
  kind : sc.kind = .function
  co : sc.isCoroutine = false
  gen : sc.isGenerator = false
  nd : N.Nodup
  pre : N.take ps.length = ps
  par : ∀ x ∈ ps, sc.names.lookup x = some .local
  nocell : ∀ y ∈ sc.names, y.2 ≠ .cell
  free : ∀ y ∈ sc.names, y.2 = .free → y.1 = ("__class__" : Str)
  hks : sc.names.lookup ("super" : Str) = some .globalImplicit
  hkc : sc.names.lookup ("__class__" : Str) = some .free

def supCx (CX : CXT) (P : Program) (w : World) (K : PySem.W.Frag) (mg : Str → Option Value) (base : Heap) (N : List Str) (qual : Str) (scope : Scope) (f : Addr) (cd : Value) (cc : Addr) (A : Around) (outer : List Env) (s : Shared) (H : Hp) (E : XK) : Cx where
  prog := P
  w := w
  K := K
  mg := mg
  base := base
  A := A.deeper (PySem.W.ksEnv qual scope s.heap.objs.size f cd cc)
  N := N
  s_0 := s
  H_0 := H
  env := PySem.W.ksEnv qual scope s.heap.objs.size f cd cc
  outer := outer
  stack := PySem.W.ksEnv qual scope s.heap.objs.size f cd cc :: outer
  ex := []
  calm := true
  fn := fun _ => false
  pn := []
  xe := fun e s' => wpAny (model P w) (A.deeper (PySem.W.ksEnv qual scope s.heap.objs.size f cd cc)) (leaving (PySem.W.ksEnv qual scope s.heap.objs.size f cd cc) e) (fun _ s'' => CX outer H s E e s'') (fun e' s'' => CX outer H s E e' s'') s'

theorem look_nodup {β : Type} {k : Str} {v : β} : ∀ {l : List (Str × β)}, (l.map (·.1)).Nodup → (k, v) ∈ l → l.lookup k = some v
  | [], _, h => by cases h
  | (a, b) :: l, nd, h => by
    rw [List.lookup_cons]
    rw [List.map_cons, List.nodup_cons] at nd
    rcases List.mem_cons.mp h with e | h
    · cases e
      simp
    · have hne : (k == a) = false := by
        have : k ≠ a := fun z => nd.1 (z ▸ List.mem_map.mpr ⟨(k, v), h, rfl⟩)
        simpa using this
      rw [hne]
      exact look_nodup nd.2 h

section
variable {CX : CXT} {P : Program} {w : World} {K : PySem.W.Frag} {mg : Str → Option Value} {base : Heap} {N ps : List Str} {qual : Str} {scope : Scope} {f cc C : Addr} {cd : Value} {A : Around} {outer : List Env} {s : Shared} {H : Hp} {E : XK} {us : List Value} {vs : List V}
theorem sup_start (S : SupScope N ps scope) (hd : A.handled = none) (e0 : Env0 P w K mg base A outer s H) (hl : vs.length = ps.length) (r : Vals vs us) {cl : Value} {cld : Option Addr} {csl : Array (Option Value)} (hcell : K.lookup cc = some ⟨cl, cld, .cell (some (.ref C)), csl⟩)
    {h₁ : Heap} {tk : Nat} (hns : h₁.Ns s.heap.objs.size (fun x => (ps.zip us).reverse.lookup x)) (hk : ∀ b o, s.heap.get? b = some o → h₁.get? b = some o) :
    Inv (supCx CX P w K mg base N qual scope f cd cc A outer s H E) [] (L2.start N vs) H { s with heap := h₁, toks := tk } := by
  have hpl : ps.length ≤ N.length := by have := congrArg List.length S.pre; rw [List.length_take] at this; omega
  have noA : ∀ b : Addr, b ∉ (supCx CX P w K mg base N qual scope f cd cc A outer s H E).ex := fun b z => absurd (show b ∈ ([] : List Addr) from z) (by simp)
  have cI : ∀ {x : Str} {c : Addr}, ([(("__class__" : Str), cc)] : List (Str × Addr)).lookup x = some c → x = ("__class__" : Str) ∧ c = cc := fun {x c} h => by
    rw [List.lookup_cons] at h
    cases e : (x == ("__class__" : Str)) with
    | true => rw [e] at h; cases h; exact ⟨eq_of_beq e, rfl⟩
    | false => rw [e] at h; cases h
  have bcell : base.get? cc = some ⟨cl, cld, .cell (some (.ref C)), csl⟩ := e0.mod.kin _ _ hcell
  have scell := (e0.bs _ _ bcell)
  have hcc : h₁.get? cc = some ⟨cl, cld, .cell (some (.ref C)), csl⟩ := hk _ _ scell.1
  refine ⟨⟨e0.mod, S.kind, rfl, rfl, Nat.le_refl _, fun y z c h1 h2 => (cI h1).1.trans (cI h2).1.symm, fun y hy => ?_, fun y c z _ => ?_, fun _ => hd, Around.frames_deeper e0.frames, .inr ⟨rfl, rfl⟩, fun b z => absurd z (noA b), e0.bs, e0.bsz, fun b _ _ => noA b, fun b z => absurd z (noA b), e0.funs, e0.frf⟩,
    rfl, e0.bare, Un.kept hk, ⟨_, hns, fun i y v h1 h2 h3 => ?_⟩, fun y c h => ?_, e0.hok.fresh (Nat.le_refl _), fun y c h => ?_, fun p hp => absurd (show p ∈ ([] : List (Addr × Obj)) from hp) (by simp), e0.hok.kept hk, ?_⟩
  · have hy : scope.names.lookup y = some .cell ∨ scope.names.lookup y = some .free := hy
    rcases hy with hy | hy
    · exact absurd rfl (S.nocell _ (PySem.mem_of_lookup hy))
    · have := S.free _ (PySem.mem_of_lookup hy) rfl
      exact ⟨cc, by show ([(("__class__" : Str), cc)] : List (Str × Addr)).lookup y = some cc; rw [show y = ("__class__" : Str) from this]; rfl⟩
  · have z : false = true := z
    cases z
  · have hi : i < vs.length := by
      unfold L2.start at h2
      by_cases hi : i < vs.length
      · exact hi
      · rw [List.getElem?_append_right (by simpa using hi)] at h2
        rw [List.getElem?_replicate] at h2
        split at h2 <;> cases h2
    have ha : vs[i]? = some v := by
      unfold L2.start at h2
      rw [List.getElem?_append_left (by simpa using hi), List.getElem?_map] at h2
      cases e : vs[i]? with
      | none => rw [e] at h2; cases h2
      | some a => rw [e] at h2; cases h2; rfl
    obtain ⟨u, hu, rv⟩ := r.get ha
    have hp : ps[i]? = some y := by
      rw [← S.pre, List.getElem?_take_of_lt (by omega)]; exact h1
    have ndP : ps.Nodup := by rw [← S.pre]; exact S.nd.sublist (List.take_sublist _ _)
    refine ⟨u, rv, .inl ⟨S.par y (List.mem_of_getElem? hp), ?_⟩⟩
    refine look_nodup ?_ ?_
    · rw [List.map_reverse]
      show List.Pairwise (· ≠ ·) _
      rw [List.pairwise_reverse, List.map_fst_zip (by rw [← r.length, hl]; exact Nat.le_refl _)]
      exact List.Pairwise.imp (fun h => Ne.symm h) ndP
    · rw [List.mem_reverse]
      refine List.mem_of_getElem? (i := i) ?_
      rw [List.getElem?_zip_eq_some]
      exact ⟨hp, hu⟩
  · obtain ⟨e1, e2⟩ := cI h
    subst e2
    exact ⟨_, _, hcc, rfl⟩
  · obtain ⟨e1, e2⟩ := cI h
    subst e2
    exact scell.2
  · unfold L2.start
    show _ = N.length
    rw [List.length_append, List.length_map, List.length_replicate]
    omega

/-- the class's facts for super().__init__ in its own __init__ -/
structure SupC (P : Program) (K : PySem.W.Frag) (C fI cda cc : Addr) : Prop where
  x : OexC K C
  own : PySem.W.mroIn K C (.ref C) = some true
  sup : PySem.W.ks_superIn K C C "__init__" = some (some (.builtin "ValueError.__init__"))
  sub : PySem.W.subIn K (.ref C) (.type "ValueError") = some true
  cell : ∃ cl cld csl, K.lookup cc = some ⟨cl, cld, .cell (some (.ref C)), csl⟩
  code : ∃ ccl cdd vs ccs file tf, K.lookup cda = some ⟨ccl, cdd, .fields vs, ccs⟩ ∧ vs[2]? = some (.str file tf) ∧ ((P.main.file : Str) == file) = true
  any : PySem.W.nsIn K cStatics "thirdparty.any" = some none
  top : (P.main.scope.names.lookup ("super" : Str)).isSome = false

/-- such an __init__'s record -/
structure FunS (K : PySem.W.Frag) (x qual : Str) (st : Stmt) (fI cda cc : Addr) (fd : FuncData) : Prop where
  ex : ∃ (oc : Value) (od : Option Addr) (kV doc pm : Value) (an : Option Addr) (ct : Value) (osl : Array (Option Value)),
    fd = PySem.W.ksFn x qual (defArgs st) (defBody st) (defScope st) .none kV doc pm an (.ref cda) ct cc ∧ K.lookup fI = some ⟨oc, od, .func fd, osl⟩ ∧ PySem.W.codeIn K (.ref cda) qual = true

section
variable {P : Program} {w : World} {K : PySem.W.Frag} {mg : Str → Option Value} {base : Heap} {N ps : List Str} {x qual : Str} {st : Stmt} {fI cda cc C : Addr} {fd : FuncData} {k : Nat} {sp : Sp}
theorem boot_super : bootBuiltins (("super" : String) : Str) = some (.type "super") := by decide +kernel
open PySem.W in
theorem sup_stmt {X : Cx} {pins : List (Addr × Obj)} {σ : L2.St} {H : Hp} {s : Shared} {a : Addr} {ar : Arg} {oc : Value} {od : Option Addr} {osl : Array (Option Value)} {e : Expr} {es : List Expr} {p0 p1 pa pc ps' : Pos} {body : List Stmt} {ta : TA} {scope : Scope} {L : Addr}
    (I : Inv X pins σ H s) (hE : X.env = PySem.W.ksEnv qual scope L fI (.ref cda) cc) (T : SupC X.prog X.K C fI cda cc) (hks : scope.names.lookup ("super" : Str) = some .globalImplicit) (hkc : scope.names.lookup ("__class__" : Str) = some .free) (hka : scope.names.lookup ar.arg = some .local) (hk : scope.kind = .function)
    (hf : X.K.lookup fI = some ⟨oc, od, .func fd, osl⟩) (hp : (fd.params.posonlyargs ++ fd.params.args).head? = some ar) (h0 : X.N[0]? = some ar.arg) (hσ : σ[0]? = some (some (.ref a))) (ea : H a = some (exo a C none)) (hms : X.mg "super" = none)
    (hta : PA X (e :: es) ta) (qta : ta σ H fun ws H1 => H1 = H ∧ ws.length ≤ 1000) (hs : starEach (e :: es) X.env = (false, eval e X.env) :: starEach es X.env) (hpl : (backTo pc (starEach es X.env)).any (·.1) = false) {pl : Sem Bool}
    (ht : eval (.Call (.Attribute (.Call (.Name "super" p0) [] [] p1) "__init__" pa) (e :: es) [] pc) X.env = (do
      let ov ← attributeBase (.Call (.Name "super" p0) [] [] p1) "__init__" X.env (eval (.Call (.Name "super" p0) [] [] p1) X.env)
      standAt pa.atName
      let (f, first) ← holding [ov] (getMethod ov "__init__" pl)
      callWith pc f first (backTo pc (starEach (e :: es) X.env)) [])) :
    PySem.wpAt (model X.prog X.w) X.A (.func body X.env) (exec (.Expr (.Call (.Attribute (.Call (.Name "super" p0) [] [] p1) "__init__" pa) (e :: es) [] pc) ps') X.env) (fun f s' => f = .next ∧ Inv X pins σ H s') X.xe s := by
  obtain ⟨ccl, cdd, cvs, ccs, file, tf, hcode, hvs, hfile⟩ := T.code
  obtain ⟨cl, cld, csl, hcell⟩ := T.cell
  obtain ⟨nm, q, NN, bs, bm, sn, sub, ab, col, dd, k0, k1, k2, k3, k5, hC, hbm⟩ := T.x.cls
  have hclC : PySem.W.clsIn X.K C = some { name := nm, bases := bs, mro := .ref C :: bm, ns := NN, qualname := q, hasDict := true, slotNames := sn, subclasses := sub, abstract := ab, collection := col, hasDel := false } := by unfold PySem.W.clsIn; rw [hC] <;> rfl
  have kf : X.env.kindOf "super" = some .globalImplicit := by rw [hE]; exact hks
  have kc : X.env.kindOf "__class__" = some .free := by rw [hE]; exact hkc
  have ka : X.env.kindOf ar.arg = some .local := by rw [hE]; exact hka
  refine PySem.ks_wpAt_Expr_any ?_ I.quiet rfl
  refine PySem.ks_wpAt_MethodCall (pl := pl) ?_ ht
  refine PySem.ks_wpAt_super_base kf kc (by decide) (by rw [hE]) (I.kIn _ _ hf) rfl hp (by rw [hE]) (I.kIn _ _ hcode) rfl hvs hfile T.top ?_
  obtain ⟨mb, h1, h2⟩ := I.ok.mod.blt
  refine PySem.W.ks_loadName_global I.ok.kind kf (Calls.loadGlobal_builtin (by rw [I.ok.glob]; exact I.ok.mod.glob.keeps I.bk) hms (by rw [I.ok.blt]; exact h1.keeps I.bk) ((h2 _ (by decide)).trans boot_super) ⟨rfl, ?_⟩)
  refine wpAny_loadName_free I.ok.kind kc (by rw [hE]; rfl) ⟨_, I.kIn _ _ hcell, rfl⟩ ?_
  obtain ⟨m, hn, hlook⟩ := I.loc
  obtain ⟨u, ru, lu⟩ := hlook 0 ar.arg _ h0 hσ (.inl (by rw [hE]; exact hka))
  obtain rfl : u = Value.ref a := ru
  have hm : m ar.arg = some (.ref a) := by
    rcases lu with ⟨_, h⟩ | ⟨h, _⟩
    · exact h
    · rw [ka] at h
      rcases h with h | h <;> cases h
  refine wpAny_loadName_local I.ok.kind ka hn hm ?_
  refine PySem.ks_wpAny_isType_cls (I.kIn _ _ hC) rfl ⟨rfl, ?_⟩
  obtain ⟨t1, ho⟩ := exo_at I.hok ea
  obtain ⟨hp1, g, d, t, os⟩ := s
  refine PySem.ks_wpAny_call_super (I.kIn _ _ hC) rfl ho rfl (fun c z => nomatch z) (PySem.W.looks_mroIn I.kIn T.own) (fun h2 e2 k2 => ?_)
  have I2 : Inv X pins σ H ⟨h2, g, d, t, os⟩ := I.kept (t' := t) k2
  obtain ⟨t2, ho2⟩ := exo_at I2.hok ea
  have hI2 : Looks (model X.prog X.w) h2 (isInstance (.ref a) (.type "ValueError")) true := by
    have J : PySem.W.InstAt h2 a { cls := .ref C, dict := none, data := .fields #[.ref t2, .none, .none, .none, .bool false, .none] } C none := ⟨ho2, rfl, rfl, trivial⟩
    exact J.type.andThen (PySem.W.looks_subIn I2.kIn T.sub)
  have hsup := T.sup
  unfold PySem.W.ks_superIn at hsup
  rw [hclC] at hsup
  have haC : a ≠ C := fun z => by
    have := I2.kIn _ _ hC
    rw [← z, ho2] at this
    cases this
  refine PySem.W.kxs_getMethod PySem.W.kxs_ValueError e2 (PySem.W.looks_opaque I2.kIn T.any) (l₀ := .ref C :: bm) ((PySem.W.looks_clsIn I2.kIn hclC).andThen .now) rfl I2.kIn hsup hI2 haC (by decide) ?_
  have I3 : Inv X pins σ H ⟨h2.push (PySem.W.kxs_mw "ValueError.__init__" a), g, d, t + 1, os⟩ := I2.kept (t' := t + 1) fun b o z => Heap.get?_push_of_some _ z
  have hu : (h2.push (PySem.W.kxs_mw "ValueError.__init__" a)).get? h2.objs.size = some (PySem.W.kxs_mw "ValueError.__init__" a) := Heap.get?_push_size _ rfl
  have fpu : FpOk X pins H h2.objs.size := I2.fpOk (Nat.le_refl _) (I2.hok.fresh (Nat.le_refl _))
  have I4 := I3.pinned (fp := [h2.objs.size]) (fun b hb => by rw [List.mem_singleton.mp hb]; exact fpu) (fun b hb => by rw [List.mem_singleton.mp hb]; exact ⟨_, hu, fun v z => nomatch z⟩)
  rw [hs]
  refine PySem.W.kxs_callWith (i := "ValueError.__init__") (x := a) (by show (false || (backTo pc (starEach es X.env)).any (·.1)) = false; rw [hpl]; rfl) (Calls.evalArgs_plain ?_)
  have hA := hta.run pc _ _ σ H _ I4 qta
  rw [hs] at hA
  refine thn hA fun us s5 ⟨ws, H5, I5, r5, eH, hl5⟩ => ?_
  subst eH
  have hu5 := (I5.pin (h2.objs.size, PySem.W.kxs_mw "ValueError.__init__" a) (List.mem_append_right _ (List.mem_append_right _ (mem_pinsAt (by simp) hu)))).1
  refine ⟨hu5, ?_⟩
  have I6 := I5.unpinned
  obtain ⟨t5, ho5⟩ := exo_at I6.hok ea
  have hlen : us.length ≤ sizeLine := by
    rw [← r5.length, sizeLine_eq]
    omega
  obtain ⟨hh, g5, d5, tk5, os5⟩ := s5
  show wpAny _ _ (call (.ref h2.objs.size) us) _ _ _
  refine wpAny_call (codeAny_of_tree ?_)
  show wpAny _ X.A.in1 (callAny (.ref h2.objs.size) ⟨us, []⟩) _ _ _
  simp only [callAny]
  refine wpAny_bind (wpAny_load hu5 ?_)
  simp only [PySem.W.kxs_mw, show (Value.type "method-wrapper" == Value.type "method" || Value.type "method-wrapper" == Value.type "builtin_function_or_method" || Value.type "method-wrapper" == Value.type "method-wrapper") = true by decide, if_true]
  refine PySem.W.KFB.if_so (by decide) ?_
  refine wpAny_bind (PySem.W.check_bound_init F.excBase_ValueError.toExcCallFacts (I6.kIn _ _ hC) ho5 rfl ?_)
  refine wpAny_bind (wpAny_pure (wpAny_pure ?_))
  refine ⟨plainId_quiet F.excBase_ValueError.init.plain _, codeAny_builtin F.excBase_ValueError.initEntry ?_⟩
  refine PySem.W.exc_init_tree (cls := .ref C) (t0 := t5) (dv := none) (c2 := .none) (c3 := .none) (b4 := .bool false) ho5 hlen fun h' k' e' _ => ?_
  have J := I6.write (t' := tk5) (x := a) (e := a) (o := exo a C none) (by rw [ea]; exact True.intro) (.inl rfl) k' ⟨_, e'⟩ (exo_ok e')
  have eu : upd H5 a (exo a C none) = H5 := by
    funext b
    by_cases hb : b = a
    · rw [hb, upd_same, ea]
    · rw [upd_ne hb]
  rw [eu] at J
  refine ⟨?_, J⟩
  first | rfl | trivial
theorem fn_sup {e : Expr} {es : List Expr} {rest : List Stmt} {p0 p1 pa pc ps' : Pos} {slf : Str} {more : List Str} (T : SupC P K C fI cda cc) (F : FunS K x qual st fI cda cc fd) (S : SupScope N ps (defScope st)) (hps : ps = slf :: more) (hms : mg "super" = none) {pl : Shared → Sem Bool}
    (hse : ∀ s : Shared, starEach (e :: es) (PySem.W.ksEnv qual (defScope st) s.heap.objs.size fI (.ref cda) cc) = (false, eval e (PySem.W.ksEnv qual (defScope st) s.heap.objs.size fI (.ref cda) cc)) :: starEach es (PySem.W.ksEnv qual (defScope st) s.heap.objs.size fI (.ref cda) cc) ∧
      (backTo pc (starEach es (PySem.W.ksEnv qual (defScope st) s.heap.objs.size fI (.ref cda) cc))).any (·.1) = false ∧
      eval (.Call (.Attribute (.Call (.Name "super" p0) [] [] p1) "__init__" pa) (e :: es) [] pc) (PySem.W.ksEnv qual (defScope st) s.heap.objs.size fI (.ref cda) cc) = (do
        let ov ← attributeBase (.Call (.Name "super" p0) [] [] p1) "__init__" (PySem.W.ksEnv qual (defScope st) s.heap.objs.size fI (.ref cda) cc) (eval (.Call (.Name "super" p0) [] [] p1) (PySem.W.ksEnv qual (defScope st) s.heap.objs.size fI (.ref cda) cc))
        standAt pa.atName
        let (f, first) ← holding [ov] (getMethod ov "__init__" (pl s))
        callWith pc f first (backTo pc (starEach (e :: es) (PySem.W.ksEnv qual (defScope st) s.heap.objs.size fI (.ref cda) cc))) []))
    (hb : defBody st = .Expr (.Call (.Attribute (.Call (.Name "super" p0) [] [] p1) "__init__" pa) (e :: es) [] pc) ps' :: rest) (hp : ((defArgs st).posonlyargs ++ (defArgs st).args).head?.map (·.arg) = some slf)
    (len : ∀ vs H Q E, sp vs H Q E → vs.length = ps.length)
    (hbody : ∀ (A : Around) (outer : List Env) (s : Shared) (H : Hp) (vs : List V) (Q : VK) (E : XK), sp vs H Q E →
      ∃ (a : Addr) (vr : List V) (ta : TA) (t : TS), vs = .ref a :: vr ∧ H a = some (exo a C none) ∧ PA (supCx (L2.CX P w) P w K mg base N qual (defScope st) fI (.ref cda) cc A outer s H E) (e :: es) ta ∧
        ta (L2.start N vs) H (fun ws H1 => H1 = H ∧ ws.length ≤ 1000) ∧
        PSs (supCx (L2.CX P w) P w K mg base N qual (defScope st) fI (.ref cda) cc A outer s H E) rest t ∧ t { nx := fun _ H' => Q .non H', rt := Q } (L2.start N vs) H) :
    FnOk P w K mg base (L2.CX P w) (k + 1) fI fd ps sp := by
  refine ⟨len, fun A outer s H args us vs Q E hr e0 hbind r hsp => ?_⟩
  obtain ⟨oc, od, kV, doc, pm, an, ct, osl, rfl, lk, hcd⟩ := F.ex
  have hl := len _ _ _ _ hsp
  have KX : K.In s.heap := e0.mod.kin.keeps fun b o e => (e0.bs b o e).1
  have lim : s.heap.NoLimit := e0.mod.nolimit.keeps fun b o e => (e0.bs b o e).1
  obtain ⟨cl, cld, csl, hcell⟩ := T.cell
  refine PySem.ks_codeAny_call_defAt (body := defBody st) (binds := ps.zip us) hr.depth (KX _ _ lk) rfl lim (PySem.W.codeRec_of KX hcd) rfl hbind S.nocell (fun ⟨n, v⟩ hy => S.par n (List.of_mem_zip hy).1) (fun h₁ hns hk₁ => ?_) S.co S.gen S.kind
  obtain ⟨a, vr, ta, t, ev, ea, hta, qta, hpt, qt⟩ := hbody A outer s H vs Q E hsp
  have I : Inv (supCx (L2.CX P w) P w K mg base N qual (defScope st) fI (.ref cda) cc A outer s H E) [] (L2.start N vs) H { s with heap := h₁, toks := s.toks + (ps.zip us).length } := sup_start S hr.hd e0 hl r hcell hns hk₁
  subst ev
  obtain ⟨ar, har, rfl⟩ := Option.map_eq_some_iff.mp hp
  have hN0 : N[0]? = some ar.arg := by
    rw [← show (N.take ps.length)[0]? = N[0]? from List.getElem?_take_of_lt (by rw [hps]; simp), S.pre, hps]
    rfl
  have hka : (defScope st).names.lookup ar.arg = some .local := S.par _ (by rw [hps]; exact List.mem_cons_self)
  have hb' := hb
  show PySem.wpAt (model P w) (supCx (L2.CX P w) P w K mg base N qual (defScope st) fI (.ref cda) cc A outer s H E).A (.func (defBody st) (supCx (L2.CX P w) P w K mg base N qual (defScope st) fI (.ref cda) cc A outer s H E).env) (execs (defBody st) (supCx (L2.CX P w) P w K mg base N qual (defScope st) fI (.ref cda) cc A outer s H E).env) _ _ _
  generalize hbd : defBody st = bd
  rw [hb'] at hbd
  rw [show execs bd = execs (.Expr (.Call (.Attribute (.Call (.Name "super" p0) [] [] p1) "__init__" pa) (e :: es) [] pc) ps' :: rest) from by rw [hbd]]
  refine PySem.ks_wpAt_execs_cons ?_
  have first := sup_stmt (fd := PySem.W.ksFn x qual (defArgs st) (defBody st) (defScope st) .none kV doc pm an (.ref cda) ct cc) (p0 := p0) (p1 := p1) (pa := pa) (pc := pc) (ps' := ps') (body := bd) (ar := ar) I rfl T S.hks S.hkc hka S.kind lk har hN0 rfl ea hms hta qta (hse s).1 (hse s).2.1 (pl := pl s) (hse s).2.2
  refine PySem.ks_wpAt_mono first (fun fl s2 hf => ?_) fun e2 s2 he => he
  obtain ⟨rfl, I2⟩ := hf
  refine PySem.wpAt_of_wpAny ?_
  refine wpAny_mono (hpt.run [] s2 _ H _ I2 qt) (fun fl s' hs => ?_) fun e s' hs => hs
  have fin : ∀ {σ' : L2.St} {H' : Hp} {v : V} {u : Value}, Inv (supCx (L2.CX P w) P w K mg base N qual (defScope st) fI (.ref cda) cc A outer s H E) [] σ' H' s' → RelV v u → Q v H' → CE outer P w H s Q u s' :=
    fun {σ' H' v u} J rv q => ⟨v, H', J.os, J.bare, J.base, J.hok, rv, q⟩
  cases fl with
  | ret u =>
    obtain ⟨v, σ', H', J, rv, q⟩ := hs
    exact fin J rv q
  | next =>
    obtain ⟨σ', H', J, q⟩ := hs
    exact fin (v := V.non) (u := Value.none) J rfl q
  | brk =>
    obtain ⟨_, _, _, q⟩ := hs
    exact False.elim q
  | cont =>
    obtain ⟨_, _, _, q⟩ := hs
    exact False.elim q
end
end
end DL

-- DExc
set_option maxHeartbeats 4000000
/-! DExc: own exceptions made and raised -/
namespace DL
open PySem PySem.Spec PyProof.Rows L2

/-- an exception's own __init__: its dict then holds fs of the arguments, newest first -/
def spX (C : Addr) (n : Nat) (g : List V → List (Str × V)) : Sp := fun vs H Q E => ∃ (a : Addr) (ws : List V), vs = .ref a :: ws ∧ ws.length = n ∧ ws.length ≤ 1000 ∧ H a = some (exo a C none) ∧
  ∀ dx H', H dx = none → dx ≠ a → H' a = some (exo a C (some dx)) → H' dx = some (exd dx (g ws)) → (∀ b, b ≠ a → b ≠ dx → H' b = H b) → Q .non H'
def gX1 (f : Str) : List V → List (Str × V)
  | [v] => [(f, v)]
  | _ => []
def gX2 (f g : Str) : List V → List (Str × V)
  | [v, u] => [(g, u), (f, v)]
  | _ => []
theorem gn1 {f : Str} : ∀ vs : List V, vs.length = [f].length → (gX1 f vs).map (·.1) = [f].reverse ∧ (gX1 f vs).map (·.2) = vs.reverse
  | [_], _ => ⟨rfl, rfl⟩
theorem gn2 {f g : Str} : ∀ vs : List V, vs.length = [f, g].length → (gX2 f g vs).map (·.1) = [f, g].reverse ∧ (gX2 f g vs).map (·.2) = vs.reverse
  | [_, _], _ => ⟨rfl, rfl⟩
section
variable {P : Program} {w : World} {K : PySem.W.Frag} {mg : Str → Option Value} {base : Heap} {N ps : List Str} {x qual : Str} {st : Stmt} {fI cda cc C : Addr} {fd : FuncData} {k : Nat}
theorem arg_r {σ : L2.St} {H : Hp} {i : Nat} {v : V} {Q : VK} (h : σ[i]? = some (some v)) (q : Q v H) : tVar i σ H Q := ⟨v, h, q⟩
/-- def __init__(self, y): super().__init__(y); self.f = y -/
theorem fn_exc1 {pl : Shared → Sem Bool} {p0 p1 pa pc ps' pn q1 q2 q3 q4 : Pos} {slf y f : Str} (T : SupC P K C fI cda cc) (F : FunS K x qual st fI cda cc fd) (S : SupScope N [slf, y] (defScope st)) (hms : mg "super" = none)
    (hb : defBody st = [.Expr (.Call (.Attribute (.Call (.Name "super" p0) [] [] p1) "__init__" pa) [.Name y pn] [] pc) ps', .Assign [.Attribute (.Name slf q1) f q2] (.Name y q3) q4]) (hp : ((defArgs st).posonlyargs ++ (defArgs st).args).head?.map (·.arg) = some slf)
    (ht : ∀ s : Shared, eval (.Call (.Attribute (.Call (.Name "super" p0) [] [] p1) "__init__" pa) [.Name y pn] [] pc) (PySem.W.ksEnv qual (defScope st) s.heap.objs.size fI (.ref cda) cc) = (do
        let ov ← attributeBase (.Call (.Name "super" p0) [] [] p1) "__init__" (PySem.W.ksEnv qual (defScope st) s.heap.objs.size fI (.ref cda) cc) (eval (.Call (.Name "super" p0) [] [] p1) (PySem.W.ksEnv qual (defScope st) s.heap.objs.size fI (.ref cda) cc))
        standAt pa.atName
        let (f, first) ← holding [ov] (getMethod ov "__init__" (pl s))
        callWith pc f first (backTo pc (starEach [.Name y pn] (PySem.W.ksEnv qual (defScope st) s.heap.objs.size fI (.ref cda) cc))) []) := by intro _; rfl)
    (hno : PySem.W.findIn K (.ref C) f = some none) (hd1 : (slf == ("__debug__" : Str)) = false := by decide) (hd2 : (slf == ("__classdict__" : Str)) = false := by decide) (hd3 : (y == ("__debug__" : Str)) = false := by decide) (hd4 : (y == ("__classdict__" : Str)) = false := by decide) :
    FnOk P w K mg base (L2.CX P w) (k + 1) fI fd [slf, y] (spX C 1 (gX1 f)) := by
  refine fn_sup (pl := pl) T F S rfl hms (fun s => ⟨rfl, rfl, ht s⟩) hb hp (fun vs H Q E ⟨a, ws, e, h1, _⟩ => by rw [e, List.length_cons, h1]; rfl) fun A outer s H vs Q E ⟨a, ws, e, h1, h2, ea, hq⟩ => ?_
  obtain ⟨v, rfl⟩ : ∃ v, ws = [v] := by
    match ws, h1 with
    | [v], _ => exact ⟨v, rfl⟩
  have hpre := S.pre
  have h0 : N[0]? = some slf := by
    rw [← show (N.take 2)[0]? = N[0]? from List.getElem?_take_of_lt (by decide), show N.take 2 = _ from hpre]; rfl
  have h1' : N[1]? = some y := by
    rw [← show (N.take 2)[1]? = N[1]? from List.getElem?_take_of_lt (by decide), show N.take 2 = _ from hpre]; rfl
  have v0 : Vis (defScope st) slf := .inl (S.par _ (by simp))
  have v1 : Vis (defScope st) y := .inl (S.par _ (by simp))
  subst e
  have s0 : (L2.start N [.ref a, v])[0]? = some (some (.ref a)) := rfl
  have s1 : (L2.start N [.ref a, v])[1]? = some (some v) := rfl
  refine ⟨a, [v], _, _, rfl, ea, pa_cons (pe_var (i := 1) h1' v1 hd3 hd4) pa_nil rfl, ⟨v, s1, rfl, by simp⟩, pss_one (ps_ost (pe_var (i := 0) h0 v0 hd1 hd2) (pe_var (i := 1) h1' v1 hd3 hd4)), ?_⟩
  refine ⟨v, s1, _, s0, a, C, rfl, T.x, hno, .inl ⟨ea, fun dx n1 n2 => ?_⟩⟩
  exact hq dx _ n1 n2 upd_same (by rw [upd_ne n2, upd_same]; rfl) fun b b1 b2 => by rw [upd_ne b1, upd_ne b2]
/-- def __init__(self, y, z): super().__init__(y, z); self.f = y; self.g = z -/
theorem fn_exc2 {pl : Shared → Sem Bool} {p0 p1 pa pc ps' pn pm q1 q2 q3 q4 r1 r2 r3 r4 : Pos} {slf y z f g : Str} (T : SupC P K C fI cda cc) (F : FunS K x qual st fI cda cc fd) (S : SupScope N [slf, y, z] (defScope st)) (hms : mg "super" = none)
    (hb : defBody st = [.Expr (.Call (.Attribute (.Call (.Name "super" p0) [] [] p1) "__init__" pa) [.Name y pn, .Name z pm] [] pc) ps', .Assign [.Attribute (.Name slf q1) f q2] (.Name y q3) q4, .Assign [.Attribute (.Name slf r1) g r2] (.Name z r3) r4]) (hp : ((defArgs st).posonlyargs ++ (defArgs st).args).head?.map (·.arg) = some slf)
    (ht : ∀ s : Shared, eval (.Call (.Attribute (.Call (.Name "super" p0) [] [] p1) "__init__" pa) [.Name y pn, .Name z pm] [] pc) (PySem.W.ksEnv qual (defScope st) s.heap.objs.size fI (.ref cda) cc) = (do
        let ov ← attributeBase (.Call (.Name "super" p0) [] [] p1) "__init__" (PySem.W.ksEnv qual (defScope st) s.heap.objs.size fI (.ref cda) cc) (eval (.Call (.Name "super" p0) [] [] p1) (PySem.W.ksEnv qual (defScope st) s.heap.objs.size fI (.ref cda) cc))
        standAt pa.atName
        let (f, first) ← holding [ov] (getMethod ov "__init__" (pl s))
        callWith pc f first (backTo pc (starEach [.Name y pn, .Name z pm] (PySem.W.ksEnv qual (defScope st) s.heap.objs.size fI (.ref cda) cc))) []) := by intro _; rfl)
    (hno : PySem.W.findIn K (.ref C) f = some none) (hno2 : PySem.W.findIn K (.ref C) g = some none) (hd1 : (slf == ("__debug__" : Str)) = false := by decide) (hd2 : (slf == ("__classdict__" : Str)) = false := by decide) (hd3 : (y == ("__debug__" : Str)) = false := by decide) (hd4 : (y == ("__classdict__" : Str)) = false := by decide)
    (hd5 : (z == ("__debug__" : Str)) = false := by decide) (hd6 : (z == ("__classdict__" : Str)) = false := by decide) :
    FnOk P w K mg base (L2.CX P w) (k + 1) fI fd [slf, y, z] (spX C 2 (gX2 f g)) := by
  refine fn_sup (pl := pl) T F S rfl hms (fun s => ⟨rfl, rfl, ht s⟩) hb hp (fun vs H Q E ⟨a, ws, e, h1, _⟩ => by rw [e, List.length_cons, h1]; rfl) fun A outer s H vs Q E ⟨a, ws, e, h1, h2, ea, hq⟩ => ?_
  obtain ⟨v, u, rfl⟩ : ∃ v u, ws = [v, u] := by
    match ws, h1 with
    | [v, u], _ => exact ⟨v, u, rfl⟩
  have hpre := S.pre
  have h0 : N[0]? = some slf := by
    rw [← show (N.take 3)[0]? = N[0]? from List.getElem?_take_of_lt (by decide), show N.take 3 = _ from hpre]; rfl
  have h1' : N[1]? = some y := by
    rw [← show (N.take 3)[1]? = N[1]? from List.getElem?_take_of_lt (by decide), show N.take 3 = _ from hpre]; rfl
  have h2' : N[2]? = some z := by
    rw [← show (N.take 3)[2]? = N[2]? from List.getElem?_take_of_lt (by decide), show N.take 3 = _ from hpre]; rfl
  have v0 : Vis (defScope st) slf := .inl (S.par _ (by simp))
  have v1 : Vis (defScope st) y := .inl (S.par _ (by simp))
  have v2 : Vis (defScope st) z := .inl (S.par _ (by simp))
  subst e
  have s0 : (L2.start N [.ref a, v, u])[0]? = some (some (.ref a)) := rfl
  have s1 : (L2.start N [.ref a, v, u])[1]? = some (some v) := rfl
  have s2 : (L2.start N [.ref a, v, u])[2]? = some (some u) := rfl
  refine ⟨a, [v, u], _, _, rfl, ea, pa_cons (pe_var (i := 1) h1' v1 hd3 hd4) (pa_cons (pe_var (i := 2) h2' v2 hd5 hd6) pa_nil rfl) rfl, ⟨v, s1, u, s2, rfl, by simp⟩,
    pss_cons (ps_ost (pe_var (i := 0) h0 v0 hd1 hd2) (pe_var (i := 1) h1' v1 hd3 hd4)) (pss_one (ps_ost (pe_var (i := 0) h0 v0 hd1 hd2) (pe_var (i := 2) h2' v2 hd5 hd6))), ?_⟩
  refine ⟨v, s1, _, s0, a, C, rfl, T.x, hno, .inl ⟨ea, fun dx n1 n2 => ?_⟩⟩
  refine ⟨u, s2, _, s0, a, C, rfl, T.x, hno2, .inr ⟨dx, [(f, v)], upd_same, by rw [upd_ne n2, upd_same], by simp, ?_⟩⟩
  exact hq dx _ n1 n2 (by rw [upd_ne (Ne.symm n2), upd_same]) (by rw [upd_same]; rfl) fun b b1 b2 => by rw [upd_ne b2, upd_ne b1, upd_ne b2]
end

/-! ### raise C(e, ..) -/
def mRaise {α : Type} (C : Addr) (ns : List Str) (ms : M (List D)) : M α := bnd ms fun ds => fun z => if ds.length = ns.length then some (.error ⟨C, ns.reverse, ds.reverse⟩, z) else none
theorem Reps.reverse {B : Bs} {G : Hp} : ∀ {ds : List D} {vs : List V}, Reps B G ds vs → Reps B G ds.reverse vs.reverse
  | [], _, h => by cases h; exact .nil
  | d :: ds, _, ⟨v, r, e, h, t⟩ => by
    subst e
    rw [List.reverse_cons, List.reverse_cons]
    exact (Reps.reverse t).append (.cons h .nil)
section
variable {X : Cx} {B : Bs} {W : XK} {pos p pr : Pos} {e : Expr} {es : List Expr} {ms : M (List D)} {x : Str} {C fI : Addr} {k n : Nat} {fd : FuncData} {ps ns : List Str} {g : List V → List (Str × V)}
theorem ds_raise (hC : Ctx X B W) (tk : Takes X (fun c d _ H => W c d H)) (T : OexC X.K C) (iC : PySem.W.findIn X.K (.ref C) "__init__" = some (some (.ref fI))) (tI : PySem.W.typeIn X.K (.ref fI) = some (.type "function"))
    (F1 : FnOk X.prog X.w X.K X.mg X.base (L2.CX X.prog X.w) k fI fd ps (spX C ns.length g)) (hr : Room (k + 1) X.A) (hb : Binds X.K fd ps []) (hg : Gl X x) (hm : X.mg x = some (.ref C)) (hl : ns.length ≤ 1000)
    (hgn : ∀ vs : List V, vs.length = ns.length → (g vs).map (·.1) = ns.reverse ∧ (g vs).map (·.2) = vs.reverse) (ha : DA X B W (e :: es) ms)
    (hdb : (x == ("__debug__" : Str)) = false := by decide) (he : starEach (e :: es) X.env = (false, eval e X.env) :: starEach es X.env := by rfl) (hpl : (backTo pos (starEach es X.env)).any (·.1) = false := by rfl) :
    DS X B W (.Raise (some (.Call (.Name x p) (e :: es) [] pos)) none pr) (mRaise C ns ms) := PS.imp (ps_raise hC.calm tk (pmk_oex T iC tI F1 hr hb .nil passL hg hm ha hdb he hpl)) fun E σ H ⟨G0, H0, G, z, r, z', R, hm, hA⟩ => by
  obtain ⟨r1, z1, m1, A1⟩ := AfS.bnd (K := fun ds G1 H1 => ∀ vs, Reps B G1 ds vs → vs.length ≤ 1000 ∧ ∀ a, H1 a = none → spX C ns.length g (.ref a :: (vs ++ [])) (upd H1 a (exo a C none))
      (fun v H2 => v = .non ∧ ∃ (d : Addr) (fs : List (Str × V)), H2 a = some (exo a C (some d)) ∧ H2 d = some (exd d fs) ∧ H1 d = none ∧ W (.ref C) (some d) (upd (del H2 a) d (.xd fs))) (fun _ _ _ => False)) hm hA fun ds z1 G1 H1 R1 s1 hm hA vs q1 => by
    have hl' := q1.length
    split at hm
    · rename_i hlen
      injection hm with hm
      injection hm with e1 e2
      subst e1 e2
      refine ⟨by rw [← hl', hlen]; exact hl, fun a na => ?_⟩
      rw [List.append_nil]
      refine ⟨a, vs, rfl, hl'.symm.trans hlen, by rw [← hl', hlen]; exact hl, upd_same, fun dx H' n1 n2 e1 e2 e3 => ?_⟩
      rw [upd_ne n2] at n1
      refine ⟨rfl, dx, g vs, e1, e2, n1, ?_⟩
      obtain ⟨g1, g2⟩ := hgn vs (hl'.symm.trans hlen)
      have nG : G1 dx = none := Same.dom R1.ex n1
      have gr : Grow G1 H1 (upd G1 dx (.xd (g vs))) (upd (del H' a) dx (.xd (g vs))) := by
        refine ⟨fun b u q => ?_, fun b u q => ?_, fun b u q => ?_, fun b u q => ?_⟩
        · rw [upd_ne (ne_of_none q nG)]; exact q
        · have b1 : b ≠ a := ne_of_none q na
          have b2 : b ≠ dx := ne_of_none q n1
          rw [upd_ne b2, del_ne b1, e3 b b1 b2, upd_ne b1]; exact q
        · by_cases hb : b = dx
          · subst hb; rw [upd_same] at q ⊢; exact q
          · rw [upd_ne hb] at q ⊢
            have q' := R1.ex _ _ q
            have b1 : b ≠ a := ne_of_none q' na
            rw [del_ne b1, e3 b b1 hb, upd_ne b1]; exact q'
        · by_cases hb : b = dx
          · subst hb; exact .inr n1
          · rw [upd_ne hb] at q; exact .inl q
      refine hA dx σ _ _ .refl (R1.grow gr) gr.g ⟨g vs, upd_same, g1, ?_⟩
      rw [g2]
      exact Reps.mono gr.g _ _ q1.reverse
    · cases hm
  exact ⟨G0, H0, G, z, r1, z1, R, m1, A1⟩
end
end DL

-- DExcV
set_option maxHeartbeats 4000000
/-! DExcV: an own exception as a value: isinstance, its fields -/
namespace DL
open PySem PySem.Spec PyProof.Rows L2

/-- what the class must say -/
structure IsX (K : PySem.W.Frag) (C : Addr) : Prop where
  hcl : (PySem.W.clsIn K C).isSome = true
  hg : PySem.W.findIn K (.ref C) "__getattribute__" = some (some (.builtin "BaseException.__getattribute__"))
  hk : PySem.W.findIn K (.ref C) "__getattr__" = some none
  hs : PySem.W.subIn K (.ref C) (.type "BaseException") = some true
  hd : PySem.W.hasDictIn K C = true
  ha : PySem.W.findIn K (.ref C) "__class__" = some (some (.builtin "object.__class__"))
  hn : PySem.W.specialIn K (.builtin "object.__class__") "__get__" = some (some (.builtin "getset_descriptor.__get__"))
  ht : PySem.W.takesIn K (.builtin "object.__class__") = some true
  hm : PySem.W.mroIn K C (.type "object") = some true
section
variable {X : Cx} {pins : List (Addr × Obj)} {σ : L2.St} {H : Hp} {s : Shared}
theorem exc_inst {a C dx : Addr} {fs : List (Str × V)} (I : Inv X pins σ H s) (h1 : H a = some (ExcO C dx a)) (h2 : H dx = some (.xd fs)) : ∃ oe od, PySem.W.InstAt s.heap a oe C (some od) ∧ ∃ (mA : Str → Option Value), s.heap.Ns1 dx mA ∧ (∀ f, RelO (fs.lookup f) (mA f)) ∧ s.heap.get? dx = some od := by
  obtain ⟨⟨oe, vs, e1, e2, e3, e4⟩, _, _⟩ := (show ObjOk X.prog X.w H s.heap a (ExcO C dx a) from I.hok a _ h1)
  have hx : ObjOk X.prog X.w H s.heap dx (.xd fs) := I.hok dx _ h2
  obtain ⟨mA, hns, hr⟩ := hx
  obtain ⟨od, ho, hl⟩ := lookIn_ns hns
  exact ⟨oe, od, ⟨e1, e2, by unfold PySem.W.notCls; rw [e4] <;> rfl, by rw [e3]; exact ho⟩, mA, hns, hr, ho⟩
def rIsiX (K : PySem.W.Frag) : List V → Hp → VK → Prop := fun xs H Q => ∃ (a C dx : Addr) (fs : List (Str × V)) (c : V) (u : Value) (b : Bool), xs = [.ref a, c] ∧ ClsV c u ∧ H a = some (ExcO C dx a) ∧ H dx = some (.xd fs) ∧ IsX K C ∧ PySem.W.kitOne K (.ref C) u = some b ∧ Q (.bl b) H
theorem call_isiX : CallR X (.builtin "isinstance") (rIsiX X.K) := by
  intro pins s σ H xs us Q I r h
  obtain ⟨a, C, dx, fs, c, u, b, rfl, k, h1, h2, ic, e, q⟩ := h
  obtain ⟨u1, u2, rfl, r1, r2⟩ := vals2 r
  have e2 := k.eq r2
  subst e2
  cases (show u1 = Value.ref a from r1)
  obtain ⟨oe, od, J, _⟩ := exc_inst I h1 h2
  exact PySem.W.kia_one (PySem.W.kitx_exc ic.hcl ic.hg ic.hk ic.hs ic.ha ic.hn ic.ht ic.hm) I.kIn J e (fun z => nomatch z) fun tk => ⟨.bl b, H, I.tok tk, rfl, q⟩
end
def isiX (cs : List (Addr × Bool)) : D → Option D
  | .exc C _ _ => (cs.lookup C).map D.bl
  | _ => none
section
variable {X : Cx} {B : Bs} {W : XK} {pos p : Pos} {a b c e o t : Expr} {m : M D}
theorem de_isiX {cs : List (Addr × Bool)} {cv : V} {u : Value} (hC : Ctx X B W) (hg : Gl X "isinstance") (hm : X.mg "isinstance" = none) (hv : bootBuiltins "isinstance" = some (.builtin "isinstance")) (ha : DE X B W e m) (ht : PE X t (tC cv)) (hcv : ClsV cv u)
    (h2 : ∀ p ∈ cs, PySem.W.kitOne B.K (.ref p.1) u = some p.2) (h3 : ∀ p ∈ cs, IsX B.K p.1)
    (hs : starEach [e, t] X.env = (false, eval e X.env) :: starEach [t] X.env := by rfl) (hs2 : starEach [t] X.env = (false, eval t X.env) :: starEach [] X.env := by rfl) (hpl : (backTo pos (starEach [t] X.env)).any (·.1) = false := by rfl) :
    DE X B W (.Call (.Name "isinstance" p) [e, t] [] pos) (mLft m (isiX cs)) := PE.imp (pe_callB call_isiX hg hm hv (pa_cons ha (pa_cons ht pa_nil hs2) hs) (by decide) (by decide) hs hpl) fun σ H Q h => by
  refine tD_un (f := isiX cs) (r := fun x H1 Q => rIsiX X.K [x, cv] H1 Q) (fun x H Q ⟨G, P, d, y, sg, pn, rd, hf, hq⟩ => ?_) σ H Q h
  cases d with
  | exc C ns ds =>
    cases e : cs.lookup C with
    | none => simp [isiX, e] at hf
    | some b =>
      have hf : y = .bl b := by simp [isiX, e] at hf; exact hf.symm
      subst hf
      obtain ⟨a, dx, fs, rfl, h4, h5, _⟩ := rd
      rw [← hC.hK]
      exact ⟨a, C, dx, fs, cv, u, b, rfl, hcv, sg _ _ h4, sg _ _ h5, h3 _ (look_mem e), h2 _ (look_mem e), hq _ G H (.refl sg) rfl⟩
  | _ => cases hf
/-- err.f -/
def fldX (Cs : List Addr) (f : Str) : D → Option D
  | .exc C ns ds => if C ∈ Cs then lookN f ns ds else none
  | _ => none
theorem de_fldX {Cs : List Addr} {f : Str} (hC : Ctx X B W) (hc : ∀ C ∈ Cs, XfC B.K C ∧ PySem.W.findIn B.K (.ref C) f = some none) (he : DE X B W e m) (hb : attributeBase e f X.env (eval e X.env) = eval e X.env := by rfl) : DE X B W (.Attribute e f pos) (mLft m (fldX Cs f)) := by
  refine ⟨fun pins s σ H Q I ⟨G0, H0, G, z, r, z', R, hm, hA⟩ => ?_⟩
  obtain ⟨r1, z1, m1, A1⟩ := After.bnd (K := fun d G1 H1 => ∀ v, Rep B G1 d v → ∃ a C dx fs w, v = .ref a ∧ C ∈ Cs ∧ H1 a = some (ExcO C dx a) ∧ H1 dx = some (.xd fs) ∧ fs.lookup f = some w ∧ Q w H1) hm hA fun d z1 G1 H1 R1 s1 hm hA v q1 => by
    obtain ⟨y, hf, rfl, rfl⟩ := lft_ok hm
    cases d with
    | exc C ns ds =>
      by_cases hin : C ∈ Cs
      · have hf : lookN f ns ds = some y := by rw [← hf]; show _ = (if C ∈ Cs then _ else _); rw [if_pos hin]
        obtain ⟨a, dx, fs, rfl, h1, h2, rfl, h3⟩ := q1
        obtain ⟨w, w1, w2⟩ := lookN_rep h3 hf
        exact ⟨a, C, dx, fs, w, rfl, hin, R1.ex _ _ h1, R1.ex _ _ h2, w1, hA G1 H1 R1 (Same.refl _) w w2⟩
      · have hf : none = some y := by rw [← hf]; show _ = (if C ∈ Cs then _ else _); rw [if_neg hin]
        cases hf
    | _ => cases hf
  refine attr_of hb (thn (he.run pins s σ H (fun v H1 => ∃ a C dx fs w, v = .ref a ∧ C ∈ Cs ∧ H1 a = some (ExcO C dx a) ∧ H1 dx = some (.xd fs) ∧ fs.lookup f = some w ∧ Q w H1) I ⟨G0, H0, G, z, r1, z1, R, m1, A1⟩) fun u s1 hh => ?_)
  obtain ⟨x, H1, I1, rx, a, C, dx, fs, w, rfl, hin, h1, h2, l, q⟩ := hh
  obtain rfl : u = Value.ref a := rx
  obtain ⟨T, hno⟩ := hc C hin
  rw [hC.hK] at T hno
  obtain ⟨oe, od, J, mA, hns, hr, ho⟩ := exc_inst I1 h1 h2
  obtain ⟨od', ho', hl⟩ := lookIn_ns hns
  rw [ho] at ho'
  cases ho'
  obtain ⟨u, hu, ru⟩ := RelO.some_of (v := w) (o := mA f) (by rw [← l]; exact hr f)
  exact HandSPX.exc_get I1.kIn J T.ga T.gg T.exC (PySem.W.findObj_own T.hdC hno rfl (by rw [hl, hu])) (handed_of ru) ⟨w, H1, I1.tok _, ru, q⟩
end
end DL

-- DRaw5
set_option maxHeartbeats 4000000
/-! DRaw5: a lambda, perhaps with parameters of its own that have defaults, handed to a def that calls it with nothing -/
namespace DL
open PySem PySem.Spec PyProof.Rows L2 LamX

/-- a lambda's record, its defaults dV -/
abbrev dlFn (qual : Str) (params : Arguments) (body : Expr) (scope : Scope) (cl : List (Str × Addr)) (dV pm cdv ct : Value) : FuncData :=
  { name := "<lambda>", qualname := qual, params, body := .expr body, scope, globals := mainGlobals, closure := cl, defaults := dV, kwdefaults := .none, doc := .none, pyModule := pm, annotations := none, code := cdv, closureTuple := ct, builtins := builtinsNs }
abbrev dlObj (qual : Str) (params : Arguments) (body : Expr) (scope : Scope) (clos : List (Str × Addr)) (dV pm : Value) (c' : Addr) (ctv : Value) : Obj :=
  { cls := .type "function", data := .func (dlFn qual params body scope clos dV pm (.ref c') ctv) }
open PySem.W in
section
variable {M : Model} {A : Around} {E : Value → Shared → Prop} {s : Shared} {qual : Str} {params : Arguments} {body : Expr} {scope : Scope} {env : Env} {c P : Addr} {ps : Array Value} {pos : Pos} {firstLine : Nat} {mg : Str → Option Value}
  {clos : List (Str × Addr)} {Q : Value → Shared → Prop} {dV : Value}
theorem dl_tail (hcl : closureFor scope env = pure clos) (hge0 : env.globals = mainGlobals) (hg : s.heap.Ns mainGlobals mg) (hcode : env.code = .ref c) (C : CodeHd s.heap c P) (hP : s.heap.get? P = some (tabObj ps)) (ht : TriplesOk ps.toList)
    (hnf : codeAmong pos ps.toList = none) (hgP : mainGlobals ≠ P) (hb : s.heap.BuiltinsAt mg P)
    (h : ∀ c' ctv h' tk, Heap.ExtBut P s.heap h' → s.heap.objs.size ≤ c' → c' < h'.objs.size → h'.CodeRec (.ref c') qual → h'.get? P = some (tabObj (ps ++ #[rawInt pos.line, rawInt pos.col, .ref c'])) →
      Q (.ref h'.objs.size) { s with heap := h'.push (dlObj qual params body scope clos dV ((mg "__name__").getD .none) c' ctv), toks := tk }) :
    wpAny M A (makeTail "<lambda>" qual params (.expr body) scope env dV .none none pos firstLine) Q E s := by
  obtain ⟨bm, ob, hbm, hne0, _, hneP, hbo, hcls, hdict, hdata⟩ := hb
  unfold makeTail
  rw [hcl, hge0]
  refine wpAny_bind (wpAny_pure ?_)
  cases clos with
  | nil =>
    simp only [List.isEmpty_nil, if_true]
    refine wpAny_bind (wpAny_pure ?_)
    refine wpAny_bind (wpAny_functionCodeX hcode (C.code hP ht) (C.tab hP) hnf fun c' h' tk hx hge hlt _ hrec htb _ => ?_)
    have hg' := hg.extBut hx hgP
    refine wpAny_bind (wpAny_builtinsFor hg' hbm hne0 (hx _ _ hneP hbo) hcls hdict hdata ?_)
    refine wpAny_bind (wpAny_nsGet hg' ?_)
    exact wpAny_bind (wpAny_pure (wpAny_newObj_type (h c' .none h' tk hx hge hlt hrec htb.2) (by size_fits)))
  | cons q r =>
    simp only [List.isEmpty_cons, Bool.false_eq_true, if_false]
    refine wpAny_bind (wpAny_newTextTuple ?_)
    refine wpAny_bind (wpAny_functionCodeX hcode ((C.keeps fun b o e => Heap.get?_push_of_some _ e).code (Heap.get?_push_of_some _ hP) ht) ((C.keeps fun b o e => Heap.get?_push_of_some _ e).tab (Heap.get?_push_of_some _ hP)) hnf fun c' h' tk hx hge hlt _ hrec htb _ => ?_)
    have hg' := (hg.push _).extBut hx hgP
    have hx' : Heap.ExtBut P s.heap h' := fun b o hb' e => hx b o hb' (Heap.get?_push_of_some _ e)
    have hge' : s.heap.objs.size ≤ c' := Nat.le_trans (by rw [Heap.size_push]; omega) hge
    refine wpAny_bind (wpAny_builtinsFor hg' hbm hne0 (hx' _ _ hneP hbo) hcls hdict hdata ?_)
    refine wpAny_bind (wpAny_nsGet hg' ?_)
    exact wpAny_bind (wpAny_pure (wpAny_newObj_type (h c' _ h' tk hx' hge' hlt hrec htb.2) (by size_fits)))
theorem dl_tailHit {cv : Value} (hcl : closureFor scope env = pure clos) (hge0 : env.globals = mainGlobals) (hg : s.heap.Ns mainGlobals mg) (hcode : env.code = .ref c) (C : CodeHd s.heap c P) (hP : s.heap.get? P = some (tabObj ps)) (ht : TriplesOk ps.toList)
    (hf : codeAmong pos ps.toList = some cv) (hb : s.heap.BuiltinsAt mg P)
    (h : ∀ (ctv : Value) (h' : Heap) (tk : Tok), (∀ b o, s.heap.get? b = some o → h'.get? b = some o) → s.heap.objs.size ≤ h'.objs.size →
      Q (.ref h'.objs.size) { s with heap := h'.push { cls := .type "function", data := .func (dlFn qual params body scope clos dV ((mg "__name__").getD .none) cv ctv) }, toks := tk }) :
    wpAny M A (makeTail "<lambda>" qual params (.expr body) scope env dV .none none pos firstLine) Q E s := by
  obtain ⟨bm, ob, hbm, hne0, _, hneP, hbo, hcls, hdict, hdata⟩ := hb
  unfold makeTail
  rw [hcl, hge0]
  refine wpAny_bind (wpAny_pure ?_)
  cases clos with
  | nil =>
    simp only [List.isEmpty_nil, if_true]
    refine wpAny_bind (wpAny_pure ?_)
    refine wpAny_bind (wpAny_functionCode_hit hcode (C.code hP ht) hf ?_)
    refine wpAny_bind (wpAny_builtinsFor hg hbm hne0 hbo hcls hdict hdata ?_)
    refine wpAny_bind (wpAny_nsGet hg ?_)
    exact wpAny_bind (wpAny_pure (wpAny_newObj_type (h .none s.heap s.toks (fun _ _ e => e) (Nat.le_refl _)) (by size_fits)))
  | cons q r =>
    simp only [List.isEmpty_cons, Bool.false_eq_true, if_false]
    refine wpAny_bind (wpAny_newTextTuple ?_)
    refine wpAny_bind (wpAny_functionCode_hit hcode ((C.keeps fun b o e => Heap.get?_push_of_some _ e).code (Heap.get?_push_of_some _ hP) ht) hf ?_)
    refine wpAny_bind (wpAny_builtinsFor (hg.push _) hbm hne0 (Heap.get?_push_of_some _ hbo) hcls hdict hdata ?_)
    refine wpAny_bind (wpAny_nsGet (hg.push _) ?_)
    have hsz : ∀ oT : Obj, s.heap.objs.size ≤ (s.heap.push oT).objs.size := fun oT => by rw [Heap.size_push]; omega
    exact wpAny_bind (wpAny_pure (wpAny_newObj_type (h _ _ s.toks (fun b o e => Heap.get?_push_of_some _ e) (hsz _)) (by size_fits)))
end

/-- the defaults: none, or one number -/
def DfL (b : Bool) (dV : Value) (H : Hp) : Prop := if b = true then ∃ T, dV = .ref T ∧ H T = some (.tup [.int 0]) else dV = .none
theorem DfL.ext {b : Bool} {dV : Value} {H H' : Hp} (h : DfL b dV H) (e : ExtN H H') : DfL b dV H' := by
  unfold DfL at h ⊢
  cases b with
  | false => exact h
  | true =>
    obtain ⟨T, h1, h2⟩ := h
    exact ⟨T, h1, e _ _ h2 fun ps z => by cases z⟩
section
variable {X : Cx} {pins : List (Addr × Obj)} {σ : L2.St} {H : Hp} {s : Shared}
/-- the function object is made; its defaults stand -/
theorem dl_fn {T : List (Addr × Str)} {c P : Addr} {params : Arguments} {body : Expr} {scope : Scope} {pos : Pos} {fl : Nat} {E : Value → Shared → Prop} {Q : Value → Shared → Prop} {dV : Value} (I : Inv X pins σ H s) (TB : TabB X.base X.mg c P) (hcode : X.env.code = .ref c)
    (hm : (P, X.env.qual ++ "<lambda>") ∈ T) (hu : ∀ p ∈ T, p.1 = P → p.2 = X.env.qual ++ "<lambda>") (hT : Tabs T H) (hfree : ∀ y ∈ scope.names, y.2 = .free → ∃ c, X.env.cells.lookup y.1 = some c)
    (h : ∀ (f c' : Addr) (pm ctv : Value) (H1 : Hp) (s' : Shared), Inv X pins σ H1 s' → ExtN H H1 → (∀ b o, H b = some o → b ≠ P → H1 b = some o) → Tabs T H1 →
      s'.heap.get? f = some (dlObj (X.env.qual ++ "<lambda>") params body scope (cloFrom X.env.cells scope.names []) dV pm c' ctv) → H1 f = none → f ∉ frs X.stack → H1 c' = some (CodeO c' (X.env.qual ++ "<lambda>")) → Q (.ref f) s') :
    wpAny (model X.prog X.w) X.A (makeTail "<lambda>" (X.env.qual ++ "<lambda>") params (.expr body) scope X.env dV .none none pos fl) Q E s := by
  obtain ⟨ps, hP, ht, ha⟩ := hT _ hm
  have bP : s.heap.BuiltinsAt X.mg P := TB.bm.keeps I.bk
  have hP' : s.heap.get? P = some { cls := .none, data := .fields ps } := I.hok P _ hP
  have nofr : ∀ f, s.heap.objs.size ≤ f → f ∉ frs X.stack := fun f hf z => by
    rcases List.mem_cons.mp (I.stkSub _ z) with e | e
    · have h1 := I.lt
      rw [← e] at h1
      exact Nat.lt_irrefl _ (Nat.lt_of_lt_of_le h1 hf)
    · exact I.nofs hf e
  cases hc : codeAmong pos ps.toList with
  | none =>
    refine dl_tail (mg := X.mg) (c := c) (P := P) (ps := ps) (closure_ok hfree) I.ok.glob (I.mod.glob.keeps I.bk) hcode (TB.code.keeps I.bk) hP' ht hc TB.gP bP fun c' ctv h' tk hx hge hlt hrec htb => ?_
    obtain ⟨c2, oc, vs, t, e2, hoc, hd, hv⟩ := hrec
    cases e2
    have hsz : s.heap.objs.size ≤ h'.objs.size := Nat.le_trans hge (Nat.le_of_lt hlt)
    have nC : H c' = none := I.hok.fresh hge
    have I1 := inv_table (t' := tk) (more := #[rawInt pos.line, rawInt pos.col, .ref c']) (h' := h'.push (dlObj (X.env.qual ++ "<lambda>") params body scope (cloFrom X.env.cells scope.names []) dV ((X.mg "__name__").getD .none) c' ctv)) I hP
      (fun b o hb e => Heap.get?_push_of_some _ (hx b o hb e)) (Heap.get?_push_of_some _ htb) hge ⟨oc, vs, t, Heap.get?_push_of_some _ hoc, hd, hv⟩
    have hE : ExtN H (upd (upd H P (.tbl (ps ++ #[rawInt pos.line, rawInt pos.col, .ref c']))) c' (CodeO c' (X.env.qual ++ "<lambda>"))) := fun b o e n => by
      rw [upd_ne (ne_of_none e nC), upd_ne (fun z => n ps (Option.some.inj (e.symm.trans (by rw [z]; exact hP))))]
      exact e
    have eL : (ps ++ #[rawInt pos.line, rawInt pos.col, .ref c']).toList = ps.toList ++ [rawInt pos.line, rawInt pos.col, .ref c'] := by simp
    refine h h'.objs.size c' ((X.mg "__name__").getD .none) ctv _ _ I1 hE (fun b o e hbP => ?_) (fun p hp => ?_) (Heap.get?_push_size _ rfl) ?_ (nofr _ hsz) upd_same
    · rw [upd_ne (ne_of_none e nC), upd_ne hbP]; exact e
    · by_cases hb : p.1 = P
      · rw [hu p hp hb, hb]
        refine ⟨_, by rw [upd_ne (ne_of_none hP nC), upd_same], by rw [eL]; exact PySem.TriplesOk_snoc _ _ _ _ ht, fun p' cv hcv => ?_⟩
        rw [eL] at hcv
        rcases among_app _ ht hcv with z | z
        · obtain ⟨c0, e1, e2⟩ := ha p' cv z
          exact ⟨c0, e1, hE _ _ e2 codeO_ne⟩
        · exact ⟨c', z, upd_same⟩
      · obtain ⟨ps', a1, a2, a3⟩ := hT p hp
        refine ⟨ps', by rw [upd_ne (ne_of_none a1 nC), upd_ne hb]; exact a1, a2, fun p' cv hcv => ?_⟩
        obtain ⟨c0, e1, e2⟩ := a3 p' cv hcv
        exact ⟨c0, e1, hE _ _ e2 codeO_ne⟩
    · have n1 : h'.objs.size ≠ c' := Nat.ne_of_gt hlt
      have n2 : h'.objs.size ≠ P := Nat.ne_of_gt (Nat.lt_of_lt_of_le (Heap.lt_size hP') hsz)
      rw [upd_ne n1, upd_ne n2]
      exact I.hok.fresh hsz
  | some cv =>
    obtain ⟨c', e, hco⟩ := ha pos cv hc
    subst e
    refine dl_tailHit (mg := X.mg) (c := c) (P := P) (ps := ps) (closure_ok hfree) I.ok.glob (I.mod.glob.keeps I.bk) hcode (TB.code.keeps I.bk) hP' ht hc bP fun ctv h' tk hx hsz => ?_
    have I1 : Inv X pins σ H { s with heap := h'.push (dlObj (X.env.qual ++ "<lambda>") params body scope (cloFrom X.env.cells scope.names []) dV ((X.mg "__name__").getD .none) c' ctv), toks := tk } := I.kept fun b o e => Heap.get?_push_of_some _ (hx b o e)
    exact h h'.objs.size c' ((X.mg "__name__").getD .none) ctv H _ I1 (ExtN.refl H) (fun b o e _ => e) hT (Heap.get?_push_size _ rfl) (I.hok.fresh hsz) (nofr _ hsz) hco
/-- the lambda's defaults in the text: none, or one number 0 -/
def DfT (b : Bool) (params : Arguments) (env : Env) : Prop := if b = true then ∃ j p, defaultsOf params env = ([eval (.Constant (.int 0) j p) env], []) else defaultsOf params env = ([], [])
theorem dl_make {T : List (Addr × Str)} {c P : Addr} {params : Arguments} {body : Expr} {scope : Scope} {pos : Pos} {E : Value → Shared → Prop} {Q : Value → Shared → Prop} {bd : Bool} (I : Inv X pins σ H s) (TB : TabB X.base X.mg c P) (hcode : X.env.code = .ref c)
    (hm : (P, X.env.qual ++ "<lambda>") ∈ T) (hu : ∀ p ∈ T, p.1 = P → p.2 = X.env.qual ++ "<lambda>") (hT : Tabs T H) (hdef : DfT bd params X.env) (hfree : ∀ y ∈ scope.names, y.2 = .free → ∃ c, X.env.cells.lookup y.1 = some c)
    (h : ∀ (f c' : Addr) (pm ctv dV : Value) (H1 : Hp) (s' : Shared), Inv X pins σ H1 s' → ExtN H H1 → (∀ b o, H b = some o → b ≠ P → H1 b = some o) → Tabs T H1 → DfL bd dV H1 →
      s'.heap.get? f = some (dlObj (X.env.qual ++ "<lambda>") params body scope (cloFrom X.env.cells scope.names []) dV pm c' ctv) → H1 f = none → f ∉ frs X.stack → H1 c' = some (CodeO c' (X.env.qual ++ "<lambda>")) → Q (.ref f) s') :
    wpAny (model X.prog X.w) X.A (eval (.Lambda params body scope pos) X.env) Q E s := by
  cases bd with
  | false =>
    refine PySem.W.kla_eval hdef ?_
    rw [makeFunction_eq]
    simp only [List.zip_nil_right, List.filterMap_nil, List.isEmpty_nil, if_true, pure_bind]
    exact dl_fn I TB hcode hm hu hT hfree fun f c' pm ctv H1 s' I1 e1 e2 t1 h1 h2 h3 h4 => h f c' pm ctv .none H1 s' I1 e1 e2 t1 rfl h1 h2 h3 h4
  | true =>
    obtain ⟨j, p, hdef⟩ := hdef
    rw [arm_eval_Lambda, hdef]
    show wpAny _ _ (do let dv ← evalAll [eval (.Constant (.int 0) j p) X.env]; let kdv ← holding dv (evalAllOpt []); makeFunction "<lambda>" (X.env.qual ++ "<lambda>") params (.expr body) scope X.env dv kdv [] pos pos.line) Q E s
    refine wpAny_bind ?_
    show wpAny _ _ (do let v ← eval (.Constant (.int 0) j p) X.env; return v :: (← holding [v] (evalAll []))) _ _ _
    refine wpAny_bind (wpAny_Constant_int ?_)
    refine wpAny_bind (wpAny_holding (wpAny_pure (wpAny_pure ?_)))
    refine wpAny_bind (wpAny_holding (wpAny_pure ?_))
    rw [makeFunction_eq]
    simp only [List.zip_nil_right, List.filterMap_nil, List.isEmpty_nil, List.isEmpty_cons, if_true, Bool.false_eq_true, if_false, pure_bind]
    refine wpAny_bind (PySem.wpAny_newTextTuple ?_)
    have np : H s.heap.objs.size = none := I.hok.fresh (Nat.le_refl _)
    have I2 : Inv X pins σ (upd H s.heap.objs.size (.tup [.int 0])) { s with heap := s.heap.push { cls := .type "tuple", data := .seq #[.int 0 s.toks] }, toks := s.toks + 1 } := by
      refine I.laid (t' := s.toks + 1) (fun b o e => Heap.get?_push_of_some _ e) (Nat.le_refl _) ⟨by show 1 ≤ sizeLine; decide, [.int 0 s.toks], .cons ⟨_, rfl⟩ .nil, _, Heap.get?_push_size _ rfl, rfl, _, rfl⟩
    have T2 : Tabs T (upd H s.heap.objs.size (.tup [.int 0])) := hT.ext fun b o q => by rw [upd_ne (ne_of_none q np)]; exact q
    refine dl_fn I2 TB hcode hm hu T2 hfree fun f c' pm ctv H1 s' I1 e1 e2 t1 h1 h2 h3 h4 => h f c' pm ctv (.ref s.heap.objs.size) H1 s' I1 (fun b o q n => e1 b o (by rw [upd_ne (ne_of_none q np)]; exact q) n) (fun b o q hb => e2 b o (by rw [upd_ne (ne_of_none q np)]; exact q) hb) t1 ⟨_, rfl, e1 _ _ upd_same fun ps z => by cases z⟩ h1 h2 h3 h4
end
end DL

-- DRaw6
set_option maxHeartbeats 4000000
/-! DRaw6: try: .. except X as n: y = n: the exception is a value from then on -/
namespace DL
open PySem PySem.Spec PyProof.Rows L2

section
variable {X : Cx} {pins : List (Addr × Obj)} {σ : L2.St} {H : Hp} {s : Shared}
/-- an object that stood in nothing's sight is tracked from now on -/
theorem Inv.sight {a : Addr} {o : HO} (I : Inv X pins σ H s) (na : H a = none) (n0 : X.s_0.heap.get? a = none) (nL : a ≠ X.env.locals) (nC : ∀ x c, X.env.cells.lookup x = some c → c ≠ a) (np : ∀ p ∈ X.pn ++ pins, p.1 ≠ a) (new : ObjOk X.prog X.w (upd H a o) s.heap a o) : Inv X pins σ (upd H a o) s where
  ok := I.ok
  os := I.os
  bare := I.bare
  base := {
    keep := I.base.keep
    slot := I.base.slot
    free := fun b u e n hx => by rw [upd_ne (fun z => by rw [z, n0] at e; cases e)]; exact I.base.free b u e n hx
    there := I.base.there
    tups := fun b xs e => by
      have q := I.base.tups b xs e
      rw [upd_ne (ne_of_none q na)]; exact q
    frzs := fun b o u e => by
      have q := I.base.frzs b o u e
      rw [upd_ne (ne_of_none q na)]; exact q
    tbls := fun b ps e => by
      obtain ⟨m, q⟩ := I.base.tbls b ps e
      exact ⟨m, by rw [upd_ne (ne_of_none q na)]; exact q⟩ }
  loc := I.loc
  cell := I.cell
  free := by rw [upd_ne (Ne.symm nL)]; exact I.free
  freeC := fun x c e => by rw [upd_ne (nC x c e)]; exact I.freeC x c e
  pin := fun p hp => by
    obtain ⟨e, n, r⟩ := I.pin p hp
    exact ⟨e, by rw [upd_ne (np p hp)]; exact n, r⟩
  hok := fun b u e => by
    by_cases hb : b = a
    · subst hb
      rw [upd_same] at e
      cases e
      exact new
    · rw [upd_ne hb] at e
      exact (I.hok b u e).stay (fun c v _ q => q) (fun c q => by rw [upd_ne (ne_of_none q na)]; exact q) fun c xs q => by rw [upd_ne (ne_of_none q na)]; exact q
  len := I.len
end

/-- what the clause wishes of an exception of the body: i the name's slot, j the slot that keeps it -/
def wKeep (K : PySem.W.Frag) (c : Value) (i j : Nat) (Wout : WX) (D : Ends) : WX := fun cls d σ H => ∃ C dx, cls = .ref C ∧ d = some dx ∧
  ∃ b, PySem.W.exmOne K cls c = some b ∧ (b = true → ∀ a, H a = none → D.nx (((σ.set i (some (.ref a))).set j (some (.ref a))).set i none) (upd H a (ExcO C dx a))) ∧ (b = false → Wout cls d σ H)
section
variable {X : Cx} {x n y : Str} {c : Value} {i j : Nat} {body : List Stmt} {np pos pos' py pn ps : Pos} {tb : WX → TS} {Wout : WX}
theorem ps_try_keep (hs : X.stack = X.env :: X.outer) (hf : X.env.frame = some X.env.locals) (hN : X.N.Nodup) (hi : X.N[i]? = some n) (hj : X.N[j]? = some y) (hln : X.env.kindOf n = some .local) (hly : X.env.scope.names.lookup y = some .local) (hc : Names X x c) (tk : Takes X Wout)
    (hb : ∀ (W : WX) (pn : List (Addr × Obj)) (xe : Value → Shared → Prop), Takes (X.tr pn xe) W → PassesOwn (model X.prog X.w) X.A X.env xe → PSs (X.tr pn xe) body (tb W)) (hil : i < X.N.length) (hex : X.ex = [])
    (hd : (n == ("__debug__" : Str)) = false := by decide) (hcd : (n == ("__classdict__" : Str)) = false := by decide)
    (hsw : swapsWith (.Name n pn) (some (.Name y py)) ps.line X.env = pure false := by rfl) :
    PS X (.Try body [.ExceptHandler (some (.Name x np)) (some n) [.Assign [.Name y py] (.Name n pn) ps] pos'] [] [] pos) (fun D σ H => tb (wKeep X.K c i j Wout D) D σ H) := by
  refine ⟨fun pins s σ H D I h => ?_⟩
  have ok := I.ok
  have hfr : X.A.frames = some (X.env :: X.outer) := by rw [ok.frames, hs]
  have hloc : Loc X.env.scope n := .inl hln
  refine wpAny_Try_except ?_
  refine wpAny_mono ((hb (wKeep X.K c i j Wout D) (X.pn ++ pins) (fun e s₁ => wpAny (model X.prog X.w) X.A (noteFrame e X.env) (fun _ s₂ => wpAny (model X.prog X.w) X.A (setFlight e none) (fun _ s₃ =>
    wpAny (model X.prog X.w) X.A (handleBy e X.env [.ExceptHandler (some (.Name x np)) (some n) [.Assign [.Name y py] (.Name n pn) ps] pos']) (SP X pins D) X.xe s₃) X.xe s₂) X.xe s₁) (fun u s' xx => ?_) PassesOwn.looking).run [] s σ H D (I.toTry _) h) (fun f s1 hsp => ?_) (fun e s1 he => he)
  · obtain ⟨a, B, sI, pins', σ', H', cls, d, rfl, J', nb, up, sky, na, os, ag, C, dx, rfl, rfl, b, hb1, hyes, hno⟩ := xx
    have J : Inv X pins σ' H' sI := J'.ofTry ok
    have sky' : Sky B (X.env :: X.outer) a (Zc (.ref C) (some dx)) X.env.locals s'.heap := by rw [← hs]; exact sky
    show wpAny (model X.prog X.w) X.A (noteFrame (.ref a) X.env) _ _ _
    refine Sky.land Zc.steady hfr hf sky' fun h3 fl3 up3 => ?_
    have J3 : Inv X pins σ' H' { s' with heap := h3 } := J.landed nb fl3.1 (up.trans up3) os ag
    obtain ⟨oe3, vs3, he3, hz3, hd3⟩ := fl3.there
    have notFr : ∀ {h : Heap} {o : Obj} {vs : Array Value}, h.FunFrames B (X.env :: X.outer) → h.get? a = some o → o.data = .fields vs → a ∉ frs (X.env :: X.outer) := fun {h o vs} ff e dd hm => by
      obtain ⟨_, o', e', hnf⟩ := ff.mem hm
      rw [e] at e'; cases e'
      exact hnf _ dd
    have nfr := notFr fl3.2.2.1 he3 hd3
    have nL : a ≠ X.env.locals := fun z => nfr (List.mem_filterMap.mpr ⟨X.env, List.mem_cons_self, by rw [hf, z]⟩)
    have nF : a ∉ X.fs := fun hm => by
      obtain ⟨e, he, q⟩ := List.mem_filterMap.mp hm
      exact nfr (List.mem_filterMap.mpr ⟨e, List.mem_cons_of_mem _ he, q⟩)
    -- the exception is younger than the body's own
    have nI : sI.heap.get? a = none := by
      cases q : sI.heap.get? a with
      | none => rfl
      | some o =>
        have q2 := nb a o q (by rw [hs]; exact nfr)
        rw [fl3.2.1] at q2; cases q2
    have n0 : X.s_0.heap.get? a = none := by
      cases q : X.s_0.heap.get? a with
      | none => rfl
      | some o =>
        obtain ⟨o', q2⟩ := J.base.there a o q (by rw [hex]; exact fun z => nomatch z)
        rw [nI] at q2; cases q2
    have S3 := J3.suite he3 hd3 na nL nF
    refine wpAny_handleBy_cons (codeAny_handlers_test ?_) (by intro q; cases q)
    have LT : PySem.W.Looks (model X.prog X.w) h3 (typeOf (.ref a)) (.ref C) := fun A Q E s k q => wpAny_typeOf_ref (k _ _ he3) (by rw [hz3.1]; exact q)
    have LM := PySem.W.exm_one (M := model X.prog X.w) (J3.kIn) LT hb1
    have test : ∀ {Q : Value → Shared → Prop} {E : Value → Shared → Prop}, Q c { s' with heap := h3 } → wpAny (model X.prog X.w) (X.A.mark (some (.ref a))) (eval (.Name x np) X.env) Q E { s' with heap := h3 } := fun {Q E} q => by
      obtain ⟨hg, hdbg, hm | ⟨hm, hv, hnn⟩⟩ := hc
      · exact ld_glob (X := X.suite a ((a, oe3) :: (X.pn ++ pins))) S3 hg hm q hdbg
      · exact ld_blt (X := X.suite a ((a, oe3) :: (X.pn ++ pins))) S3 hg hm hv q hnn hdbg
    refine test (LM.here ?_)
    cases b with
    | true =>
      refine codeAny_handlers_suite_as ?_
      refine HandSPX.lands_againZ fl3 fun h4 fl4 up4 => ?_
      have J4 : Inv X pins σ' H' { s' with heap := h4 } := J.landed nb fl4.1 ((up.trans up3).trans up4) os ag
      obtain ⟨oe4, vs4, he4, hz4, hd4⟩ := fl4.there
      have S4 := J4.suite he4 hd4 na nL nF
      refine store_ok (X := X.suite a ((a, oe4) :: (X.pn ++ pins))) (v := .ref a) S4 hN hi hloc rfl (fun s5 S5 => ?_) (.inr hln)
      have hlt : i < σ'.length := by rw [J.len]; exact hil
      have keep := pss_one (ps_set (X := X.suite a ((a, oe4) :: (X.pn ++ pins))) (i := j) (x := y) (pos' := py) (pos := ps) hN hj (.inl hly) (pe_var (i := i) (pos := pn) hi (.inl hln) hd hcd) hsw (.inr hly))
      refine wpAny_mono (keep.run [] s5 (σ'.set i (some (.ref a))) H' { nx := fun σ6 H6 => σ6 = (σ'.set i (some (.ref a))).set j (some (.ref a)) ∧ H6 = H', rt := fun _ _ => False } S5 ⟨.ref a, by rw [List.getElem?_set_self hlt], rfl, rfl⟩) (fun f s6 hsp => ?_) (fun _ _ z => False.elim z)
      cases f with
      | next =>
        obtain ⟨σ6, H6, S6, rfl, rfl⟩ := hsp
        have he6 : s6.heap.get? a = some oe4 := (S6.pin (a, oe4) (List.mem_append_left _ List.mem_cons_self)).1
        have T6 : Inv X pins ((σ'.set i (some (.ref a))).set j (some (.ref a))) (upd H6 a (ExcO C dx a)) s6 := by
          refine Inv.sight (S6.unsuite ok) na n0 nL (fun z c e q => ?_) (fun p hp q => ?_) ?_
          · obtain ⟨v, o, ho, _⟩ := J.cell z c e
            rw [q, nI] at ho; cases ho
          · have := (J.pin p hp).1
            rw [q, nI] at this; cases this
          · exact ⟨⟨oe4, vs4, he6, hz4.1, hz4.2, hd4⟩, ⟨oe4, he6⟩, fun _ _ ⟨o, v, q, r⟩ k => ⟨o, v, k o q, r⟩⟩
        exact gone_ok T6 hN hi hln fun s7 J7 => ⟨_, _, J7, hyes rfl a na⟩
      | brk => obtain ⟨_, _, _, z⟩ := hsp; exact z.elim
      | cont => obtain ⟨_, _, _, z⟩ := hsp; exact z.elim
      | ret u => obtain ⟨_, _, _, _, _, z⟩ := hsp; exact z.elim
    | false =>
      show wpAny _ X.A (handleBy (.ref a) X.env []) _ _ _
      refine wpAny_handleBy_nil ?_
      obtain ⟨k1, k2, k3, oe, vs, T, oT, ts', he, hz, hd, h1, hr⟩ := id fl3
      unfold PySem.passOn
      refine wpAny_bind (wpAny_field he hd h1 ?_)
      rw [if_neg (show ¬ ((Value.ref T == Value.none) = true) from by simp)]
      have fin : wpAny (model X.prog X.w) X.A (setFlight (.ref a) X.env.frame) (fun _ s4 => wpAny (model X.prog X.w) X.A (throw (.ref a) : Sem Flow) (SP X pins D) X.xe s4) X.xe { s' with heap := h3 } := by
        rw [hf]
        refine HandSPX.setFlight_upZ fl3 fun h4 hh4 up4 => wpAny_throw (tk _ _ ?_)
        exact ⟨a, B, sI, pins, σ', H', .ref C, some dx, rfl, J, nb, (up.trans up3).trans up4, .inr (.inr (by rw [hs]; exact hh4)), na, os, ag, hno rfl⟩
      first
        | exact wpAny_bind (wpAny_pure (wpAny_bind fin))
        | exact wpAny_bind fin
  · cases f with
    | next =>
      obtain ⟨σ', H', J', q⟩ := hsp
      exact wpAny_execs_nil ⟨σ', H', J'.ofTry ok, q⟩
    | brk =>
      obtain ⟨σ', H', J', q⟩ := hsp
      exact ⟨σ', H', J'.ofTry ok, q⟩
    | cont =>
      obtain ⟨σ', H', J', q⟩ := hsp
      exact ⟨σ', H', J'.ofTry ok, q⟩
    | ret u =>
      obtain ⟨v, σ', H', J', r, q⟩ := hsp
      exact ⟨v, σ', H', J'.ofTry ok, r, q⟩
end
end DL

-- DLam
set_option maxHeartbeats 4000000
/-! DLam: a lambda handed to a def: how it is called there -/
namespace DL
open PySem PySem.Spec PyProof.Rows L2 LamX

/-- the lambda's names: captured ones, globals, its own parameters (not in N) -/
structure LamT (N : List Str) (sc scope : Scope) : Prop where
  kind : scope.kind = .function
  co : scope.isCoroutine = false
  gen : scope.isGenerator = false
  own : ∀ y ∈ scope.names, y.2 ≠ .cell ∧ (y.2 = .local → y.1 ∉ N)
  free : ∀ y ∈ scope.names, y.2 = .free → sc.names.lookup y.1 = some .cell ∨ sc.names.lookup y.1 = some .free
def lamTB (N : List Str) (sc scope : Scope) : Bool :=
  decide (scope.kind = .function) && !scope.isCoroutine && !scope.isGenerator && scope.names.all fun y => !decide (y.2 = .cell) && (!decide (y.2 = .local) || !decide (y.1 ∈ N)) && (!decide (y.2 = .free) || decide (sc.names.lookup y.1 = some .cell) || decide (sc.names.lookup y.1 = some .free))
theorem lamT_by {N : List Str} {sc scope : Scope} (h : lamTB N sc scope = true) : LamT N sc scope := by
  unfold lamTB at h
  simp only [Bool.and_eq_true, Bool.or_eq_true, Bool.not_eq_true', decide_eq_true_eq, decide_eq_false_iff_not, List.all_eq_true] at h
  obtain ⟨⟨⟨h1, h2⟩, h3⟩, h4⟩ := h
  refine ⟨h1, h2, h3, fun y hy => ⟨(h4 y hy).1.1, fun e => ?_⟩, fun y hy e => ?_⟩
  · rcases (h4 y hy).1.2 with z | z
    · exact absurd e z
    · exact z
  · rcases (h4 y hy).2 with (z | z) | z
    · exact absurd e z
    · exact .inl z
    · exact .inr z
theorem LamT.has {X : Cx} {scope : Scope} (L : LamT X.N X.env.scope scope) (ok : X.Ok) : ∀ y ∈ scope.names, y.2 = .free → ∃ c, X.env.cells.lookup y.1 = some c := fun y hy e => by
  rcases L.free y hy e with k | k
  · exact ok.has _ (.inl k)
  · exact ok.has _ (.inr k)
section
variable {X : Cx} {pins : List (Addr × Obj)} {σ : L2.St} {H HZ : Hp} {s s1 : Shared}
theorem lam_startT {A : Around} {outer : List Env} {E : XK} {scope : Scope} {f c' : Addr} {h₁ : Heap} {tk : Nat} {m0 : Str → Option Value} (I : Inv X pins σ H s) (L : LamT X.N X.env.scope scope) (e0 : Env0 X.prog X.w X.K X.mg X.base A outer s1 HZ) (hd : A.handled = none)
    (un : Un (frs X.stack) [] H HZ s.heap s1.heap) (hns : h₁.Ns s1.heap.objs.size m0) (kp : ∀ b o, s1.heap.get? b = some o → h₁.get? b = some o) :
    Inv (lamCx X A outer s1 HZ E scope f c') [] σ HZ { s1 with heap := h₁, toks := tk } := by
  have hfree := L.has I.ok
  have cm : ∀ {y c}, (cloFrom X.env.cells scope.names []).lookup y = some c → X.env.cells.lookup y = some c := fun {y c} e => by
    rcases cloFrom_mem (PySem.mem_of_lookup e) with hm | ⟨h1, h2⟩
    · cases hm
    · obtain ⟨c1, hc⟩ := hfree _ h1 rfl
      have hc : X.env.cells.lookup y = some c1 := hc
      have e2 : c = c1 := by
        rw [h2, hc] <;> rfl
      rw [e2]
      exact hc
  have look : ∀ {y}, scope.names.lookup y = some .free → ∃ c, (cloFrom X.env.cells scope.names []).lookup y = some c := fun {y} hl => by
    have hy : (y, NameKind.free) ∈ scope.names := PySem.mem_of_lookup hl
    exact mem_lookup (cloFrom_has (cells := X.env.cells) (acc := []) hy)
  have cellK : ∀ {c : Addr} {v : Option Value}, H c = none → s.heap.IsCell c v → h₁.IsCell c v := fun {c v} n ⟨o, ho, hd⟩ => by
    obtain ⟨sl, q⟩ := un.any ho n (by simp)
    exact ⟨_, kp _ _ q, hd⟩
  have noA : ∀ b : Addr, b ∉ (lamCx X A outer s1 HZ E scope f c').ex := fun b z => absurd (show b ∈ ([] : List Addr) from z) (by simp)
  refine ⟨⟨e0.mod, L.kind, rfl, rfl, Nat.le_refl _, fun y z c e1 e2 => I.ok.inj y z c (cm e1) (cm e2), fun y hy => ?_, fun y c z _ => ?_, fun _ => hd, Around.frames_deeper e0.frames, .inr ⟨rfl, rfl⟩, fun b z => absurd z (noA b), e0.bs, e0.bsz, fun b _ _ => noA b,
      fun b z => absurd z (noA b), e0.funs, e0.frf⟩,
    rfl, e0.bare, Un.kept kp, ⟨_, hns, fun i y v e1 e2 e3 => ?_⟩, fun y c e => ?_, e0.hok.fresh (Nat.le_refl _), fun y c e => ?_, fun q hq => absurd (show q ∈ ([] : List (Addr × Obj)) ++ [] from hq) (by simp), e0.hok.kept kp, I.len⟩
  · have hy : scope.names.lookup y = some .cell ∨ scope.names.lookup y = some .free := hy
    rcases hy with hy | hy
    · exact absurd rfl (L.own _ (PySem.mem_of_lookup hy)).1
    · exact look hy
  · have z : false = true := z
    cases z
  · have e3 : Vis scope y := e3
    rcases e3 with k | k | k
    · exact absurd (List.mem_of_getElem? e1) ((L.own _ (PySem.mem_of_lookup k)).2 rfl)
    · exact absurd rfl (L.own _ (PySem.mem_of_lookup k)).1
    · obtain ⟨m, hn, hl⟩ := I.loc
      have hvis : Vis X.env.scope y := (L.free _ (PySem.mem_of_lookup k) rfl).elim (fun k => .inr (.inl k)) (fun k => .inr (.inr k))
      obtain ⟨w', r, q⟩ := hl i y v e1 e2 hvis
      obtain ⟨c2, h2⟩ := look k
      refine ⟨w', r, .inr ⟨.inr k, c2, h2, ?_⟩⟩
      have c1 := cm h2
      rcases q with ⟨k', _⟩ | ⟨_, c3, e', z⟩
      · have k' : X.env.scope.names.lookup y = some .local := k'
        rcases L.free _ (PySem.mem_of_lookup k) rfl with k2 | k2 <;> rw [show X.env.scope.names.lookup y = _ from k2] at k' <;> cases k'
      · rw [c1] at e'
        cases e'
        exact cellK (I.freeC y _ c1) z
  · obtain ⟨w', z⟩ := I.cell y c (cm e)
    exact ⟨w', cellK (I.freeC y c (cm e)) z⟩
  · obtain ⟨v, o, ho, hd⟩ := I.cell y c (cm e)
    exact un.free c o ho (I.freeC y c (cm e)) (by simp)
/-- how the call without arguments is bound -/
def DlBind (bd : Bool) (qual : Str) (params : Arguments) (body : Expr) (scope : Scope) : Prop := ∀ (cl : List (Str × Addr)) (pm cv ct : Value), if bd = true then ∃ a1 : Str, scope.names.lookup a1 = some .local ∧ ∀ T : Addr, ∃ k : Option (Array Value) → Sem (List (Str × Value)),
    bindArgs (dlFn qual params body scope cl (.ref T) pm cv ct) ⟨[], []⟩ = seqItems? (.ref T) >>= k ∧ ∀ t, k (some #[.int 0 t]) = pure [(a1, .int 0 t)]
  else bindArgs (dlFn qual params body scope cl .none pm cv ct) ⟨[], []⟩ = pure []
theorem items_at {M : Model} {A : Around} {E : Value → Shared → Prop} {l : Addr} {o : Obj} {vs : Array Value} {n : Nat} {Q : Option (Array Value) → Shared → Prop} (hl : s.heap.get? l = some o) (hd : o.data = .seq vs n) (h : Q (some vs) s) : wpAny M A (seqItems? (.ref l)) Q E s := by
  unfold seqItems?
  refine wpAny_bind (wpAny_load hl ?_)
  rw [hd]
  exact wpAny_pure h
/-- the lambda at f is called with nothing; Z: the context where it is called -/
theorem act_run {Z : Cx} {pinsZ : List (Addr × Obj)} {σZ : L2.St} {sZ : Shared} {f c' : Addr} {pm ctv dV : Value} {params : Arguments} {body : Expr} {scope : Scope} {k : Nat} {E : XK} {tb : TE} {Q : VK} {bd : Bool} {HG : Hp} {pos : Pos}
    (I : Inv X pins σ H s) (L : LamT X.N X.env.scope scope) (hf : s.heap.get? f = some (dlObj (X.env.qual ++ "<lambda>") params body scope (cloFrom X.env.cells scope.names []) dV pm c' ctv)) (hfn : H f = none) (hfr : f ∉ frs X.stack) (hdv : DfL bd dV HG)
    (hbind : DlBind bd (X.env.qual ++ "<lambda>") params body scope) (ep : Z.prog = X.prog) (ew : Z.w = X.w) (eK : Z.K = X.K) (emg : Z.mg = X.mg) (eb : Z.base = X.base) (eS : Z.s_0 = s) (eH : Z.H_0 = H) (ef : Z.fs = frs X.stack) (ex : Z.ex = [])
    (IZ : Inv Z pinsZ σZ HZ sZ) (hx : ∀ e s', L2.CX Z.prog Z.w Z.stack HZ sZ E e s' → Z.xe e s') (hr : Room (k + 1) Z.A)
    (hbody : ∀ (A : Around) (outer : List Env) (s : Shared) (H : Hp), Room k (A.deeper (lamEnv X scope s.heap.objs.size f c')) → PE (lamCx X A outer s H E scope f c') body tb)
    (hc : HZ c' = some (CodeO c' (X.env.qual ++ "<lambda>"))) (hT : ∀ T, dV = .ref T → HZ T = some (.tup [.int 0])) (ht : tb σ HZ Q) : wpAny (model Z.prog Z.w) Z.A (callWith pos (.ref f) [] [] []) (EP Z pinsZ σZ Q) Z.xe sZ := by
  have of1 : sZ.heap.get? f = some (dlObj (X.env.qual ++ "<lambda>") params body scope (cloFrom X.env.cells scope.names []) dV pm c' ctv) := IZ.base.keep f _ (by rw [eS]; exact hf) (by rw [eH]; exact hfn) (by rw [ef]; exact hfr) (by rw [ex]; exact fun z => nomatch z)
  have un : Un (frs X.stack) [] H HZ s.heap sZ.heap := by
    have := IZ.base
    rw [eS, eH, ef, ex] at this
    exact this
  obtain ⟨⟨oc, vs, t, hoc, hdc, hvc⟩, _, _⟩ := IZ.hok c' _ hc
  refine PySem.W.callWith_F0 (env := Z.env) ⟨_, _, _, _, of1⟩ ?_
  have go : ∀ (binds : List (Str × Value)), (∀ y ∈ binds, scope.names.lookup y.1 = some .local) → wpAny (model Z.prog Z.w) Z.A.in1 (newFunctionEnv scope mainGlobals (cloFrom X.env.cells scope.names []) binds ((X.env.qual ++ "<lambda>") ++ ".<locals>.") (some f) (.ref c') none builtinsNs)
      (fun env s₂ => s₂.heap.NoLimit ∧ codeAny (model Z.prog Z.w) Z.A (.expr body env) (CR (L2.CX Z.prog Z.w) Z.stack Z.prog Z.w HZ sZ Q E) s₂) (fun e s' => CR (L2.CX Z.prog Z.w) Z.stack Z.prog Z.w HZ sZ Q E (.error e) s') sZ := fun binds hl => by
    refine wpAny_newFunctionEnv (fun y hy => (L.own y hy).1) hl (fun h₁ hns hsb => ⟨IZ.nolimit.fresh _ hsb, ?_⟩) L.kind
    show codeAny _ _ (.expr body (lamEnv X scope sZ.heap.objs.size f c')) _ _
    have kp : ∀ b o, sZ.heap.get? b = some o → h₁.get? b = some o := fun b o e => hsb.extBut b o (Nat.ne_of_lt (Heap.lt_size e)) (Heap.get?_push_of_some _ e)
    have e0 : Env0 X.prog X.w X.K X.mg X.base Z.A Z.stack sZ HZ := by
      have := IZ.env0
      rw [ep, ew, eK, emg, eb] at this
      exact this
    have J : Inv (lamCx X Z.A Z.stack sZ HZ E scope f c') [] σ HZ { sZ with heap := h₁, toks := sZ.toks + binds.length } := lam_startT I L e0 hr.hd un hns kp
    rw [ep, ew]
    refine PySem.W.kla_codeExpr (wpAny_mono ((hbody _ _ sZ HZ (hr.deeper _)).run [] _ _ HZ Q J ht) (fun v s' hq => ?_) fun e s' hq => hq)
    obtain ⟨w', H', J', rv, q⟩ := hq
    exact ⟨w', H', J'.os, J'.bare, J'.base, J'.hok, rv, q⟩
  have rc : codeAny (model Z.prog Z.w) Z.A (.call (.ref f) ⟨[], []⟩) (CR (L2.CX Z.prog Z.w) Z.stack Z.prog Z.w HZ sZ Q E) sZ := by
    refine PySem.W.kla_callFunE hr.depth of1 rfl L.co L.gen rfl ⟨c', oc, vs, t, rfl, hoc, hdc, hvc⟩ ?_
    have hb := hbind (cloFrom X.env.cells scope.names []) pm (.ref c') ctv
    cases bd with
    | false =>
      have e : dV = .none := hdv
      subst e
      have hb : bindArgs (dlFn (X.env.qual ++ "<lambda>") params body scope (cloFrom X.env.cells scope.names []) .none pm (.ref c') ctv) ⟨[], []⟩ = pure [] := hb
      rw [hb]
      exact wpAny_pure (go [] fun y hy => absurd hy (by simp))
    | true =>
      obtain ⟨T, rfl, _⟩ := hdv
      obtain ⟨a1, ha, hb⟩ := hb
      obtain ⟨kk, e1, e2⟩ := hb T
      rw [e1]
      obtain ⟨_, its, rv, o, h1, h2, n, h3⟩ := (show ObjOk Z.prog Z.w HZ sZ.heap T (.tup [.int 0]) from IZ.hok T _ (hT T rfl))
      obtain ⟨u, rfl, t0, rfl⟩ : ∃ u, its = [u] ∧ ∃ t, u = Value.int 0 t := by
        cases rv with
        | cons r rr =>
          cases rr
          exact ⟨_, rfl, r⟩
      refine wpAny_bind (items_at h1 h3 ?_)
      rw [show kk (some [Value.int 0 t0].toArray) = pure [(a1, .int 0 t0)] from e2 t0]
      refine wpAny_pure (go _ fun y hy => ?_)
      rw [List.mem_singleton.mp hy]
      exact ha
  refine wpAny_call (codeAny_mono rc fun r s' hq => ?_)
  cases r with
  | error e => exact hx e s' hq
  | ok fl =>
    cases fl with
    | ret u => exact IZ.after hq
    | next => exact False.elim hq
    | brk => exact False.elim hq
    | cont => exact False.elim hq
end
end DL

-- DHeard
set_option maxHeartbeats 4000000
/-! DHeard: a def that calls what it is handed, within try, and keeps what it gave or the error -/
namespace DL
open PySem PySem.Spec PyProof.Rows L2 LamX

/-- the slots behind the try -/
def zH (n : Nat) (fd cg : D) (P : Pen) : Z := ⟨[.un, .va fd, .va cg] ++ List.replicate (n - 3) .un, P⟩
def mHeard (Cs : List Addr) (n : Nat) (rest : M Fl) (m : M D) : M D := fun z => match m z with
  | some (.ok d, z1) => match fin (rest (zH n d .non z1.P)) with
    | some (.ok e, P') => some (.ok e, ⟨z1.S, P'⟩)
    | _ => none
  | some (.error x, z1) => if x.C ∈ Cs then match fin (rest (zH n .non (.exc x.C x.ns x.ds) z1.P)) with
    | some (.ok e, P') => some (.ok e, ⟨z1.S, P'⟩)
    | _ => none
    else none
  | none => none
theorem mHeard_ok {Cs : List Addr} {n : Nat} {rest : M Fl} {m : M D} {z z' : Z} {r : Rs D} (h : mHeard Cs n rest m z = some (r, z')) :
    (∃ d z1 e P', m z = some (.ok d, z1) ∧ fin (rest (zH n d .non z1.P)) = some (.ok e, P') ∧ r = .ok e ∧ z' = ⟨z1.S, P'⟩) ∨
      ∃ x z1 e P', m z = some (.error x, z1) ∧ x.C ∈ Cs ∧ fin (rest (zH n .non (.exc x.C x.ns x.ds) z1.P)) = some (.ok e, P') ∧ r = .ok e ∧ z' = ⟨z1.S, P'⟩ := by
  unfold mHeard at h
  split at h
  · rename_i d z1 e
    split at h
    · rename_i e2 P' e3
      injection h with h
      injection h with h1 h2
      exact .inl ⟨d, z1, e2, P', e, e3, h1.symm, h2.symm⟩
    · cases h
  · rename_i x z1 e
    split at h
    · rename_i hx
      split at h
      · rename_i e2 P' e3
        injection h with h
        injection h with h1 h2
        exact .inr ⟨x, z1, e2, P', e, hx, e3, h1.symm, h2.symm⟩
      · cases h
    · cases h
  · cases h
theorem fin_ok {r : Option (Rs Fl × Z)} {e : D} {P' : Pen} (h : fin r = some (.ok e, P')) : ∃ z, z.P = P' ∧ ((r = some (.ok .nx, z) ∧ e = .non) ∨ r = some (.ok (.rt e), z)) := by
  unfold fin at h
  split at h
  · injection h with h
    injection h with h1 h2
    injection h1 with h1
    exact ⟨_, h2, .inl ⟨rfl, h1.symm⟩⟩
  · injection h with h
    injection h with h1 h2
    injection h1 with h1
    subst h1
    exact ⟨_, h2, .inr rfl⟩
  · injection h with h
    injection h with h1 h2
    cases h1
  · cases h
section
variable {B : Bs} {G H : Hp} {P : Pen} {N : List Str} {f : Addr}
theorem zH_get {n : Nat} {fd cg : D} {i : Nat} {x : Sl} (h : (zH n fd cg P).S[i]? = some x) : x = .un ∨ (i = 1 ∧ x = .va fd) ∨ (i = 2 ∧ x = .va cg) := by
  unfold zH at h
  match i, h with
  | 0, h => cases h; exact .inl rfl
  | 1, h => cases h; exact .inr (.inl ⟨rfl, rfl⟩)
  | 2, h => cases h; exact .inr (.inr ⟨rfl, rfl⟩)
  | i + 3, h =>
    rw [List.getElem?_append_right (by simp), List.getElem?_replicate] at h
    split at h <;> cases h
    exact .inl rfl
theorem Rel.heard {n : Nat} {fd cg : D} {v u : V} {σ : L2.St} (sg : Same G H) (pn : PenOk B G H P) (h1 : σ[1]? = some (some v)) (h2 : σ[2]? = some (some u)) (r1 : Rep B G fd v) (r2 : Rep B G cg u) : Rel B G H (zH n fd cg P) G H σ where
  ex := sg
  g0 := Same.refl _
  fr := fun _ _ q _ => q
  nw := fun _ _ q => .inl q
  pen := pn
  va := fun i d q => by
    rcases zH_get q with q | ⟨rfl, q⟩ | ⟨rfl, q⟩
    · cases q
    · cases q; exact ⟨v, h1, r1⟩
    · cases q; exact ⟨u, h2, r2⟩
  ow := fun i d q => by
    rcases zH_get q with q | ⟨_, q⟩ | ⟨_, q⟩ <;> cases q
  ap := fun i j d e a q _ _ _ _ => by
    rcases zH_get q with q | ⟨_, q⟩ | ⟨_, q⟩ <;> cases q
end

section
variable {X : Cx} {B : Bs} {W : XK}
/-- the rest of the def, from what the try left -/
theorem rest_r {G0 H0 G1 H1 G H : Hp} {σ σh : L2.St} {z : Z} {n : Nat} {fd cg : D} {v u : V} {rest : M Fl} {e : D} {P' : Pen} {Q : VK} {me : Bool} (R : Rel B G0 H0 z G1 H1 σ) (g : Grow G1 H1 G H) (h1 : σh[1]? = some (some v)) (h2 : σh[2]? = some (some u)) (r1 : Rep B G fd v) (r2 : Rep B G cg u)
    (hf : fin (rest (zH n fd cg z.P)) = some (.ok e, P')) (hQ : ∀ G' H', Rel B G0 H0 ⟨z.S, P'⟩ G' H' σ → Same G1 G' → ∀ v, Rep B G' e v → Q v H') : tS me B XF rest { nx := fun _ H' => Q .non H', rt := Q } σh H := by
  have R2 := R.grow g
  have Rh : Rel B G H (zH n fd cg z.P) G H σh := Rel.heard R2.ex R2.pen h1 h2 r1 r2
  obtain ⟨z2, e1, (⟨e2, e3⟩ | e2)⟩ := fin_ok hf
  · subst e1 e3
    exact ⟨G, H, G, _, _, z2, Rh, e2, fun σ' G' H' l R' s => hQ G' H' (R2.growP R'.done) (g.g.trans s) _ rfl⟩
  · subst e1
    exact ⟨G, H, G, _, _, z2, Rh, e2, fun σ' G' H' v' l R' s q => hQ G' H' (R2.growP R'.done) (g.g.trans s) v' q⟩
theorem de_heard {x a fdn cgn en x0 : Str} {g c P : Addr} {k : Nat} {pg : Arguments} {bg rest : List Stmt} {sg : Scope} {dV0 kV doc pm0 cdv ct oc c0 : Value} {an od : Option Addr} {osl : Array (Option Value)} {Ng : List Str} {Cs : List Addr} {mr : M Fl} {m : M D} {bd : Bool}
    {params : Arguments} {body : Expr} {scope : Scope} {p lpos pos q1 q2 q3 q4 q5 q6 q7 r1 r2 r3 r4 r5 r6 r7 r8 r9 r10 : Pos} {j1 j2 kt k2 : Nat}
    (hC : Ctx X B W) (hg : Gl X x) (hm : X.mg x = some (.ref g)) (hk : PySem.W.keepIn X.K (.ref g) = true)
    (lk : X.K.lookup g = some ⟨oc, od, .func (PySem.W.fnOf x x pg bg sg dV0 kV doc pm0 an cdv ct), osl⟩) (hcg : PySem.W.codeIn X.K cdv x = true) (hb : L2.Binds X.K (PySem.W.fnOf x x pg bg sg dV0 kV doc pm0 an cdv ct) [a] []) (Sg : FnScope Ng [a] sg)
    (hbg : bg = .Assign [.Tuple [.Name fdn q1, .Name cgn q2] kt q3] (.Tuple [.Constant .none j1 q4, .Constant .none j2 q5] k2 q6) q7 ::
      .Try [.Assign [.Name fdn r1] (.Call (.Name a r2) [] [] r3) r4] [.ExceptHandler (some (.Name x0 r5)) (some en) [.Assign [.Name cgn r6] (.Name en r7) r8] r9] [] [] r10 :: rest)
    (n0 : Ng[0]? = some a) (n1 : Ng[1]? = some fdn) (n2 : Ng[2]? = some cgn) (n3 : Ng[3]? = some en) (v0 : Vis sg a) (l1 : sg.names.lookup fdn = some .local) (l2 : sg.names.lookup cgn = some .local) (l3 : sg.names.lookup en = some .local)
    (gx : sg.names.lookup x0 = some .globalImplicit) (mx : X.mg x0 = some c0) (dx0 : (x0 == ("__debug__" : Str)) = false) (da : (a == ("__debug__" : Str)) = false) (dca : (a == ("__classdict__" : Str)) = false) (de : (en == ("__debug__" : Str)) = false) (dce : (en == ("__classdict__" : Str)) = false)
    (sw1 : ∀ env : Env, env.scope = sg → swappedStores [.Tuple [.Name fdn q1, .Name cgn q2] kt q3] (.Tuple [.Constant .none j1 q4, .Constant .none j2 q5] k2 q6) env = pure none)
    (sw2 : ∀ env : Env, env.scope = sg → swapsWithSole [.Tuple [.Name fdn q1, .Name cgn q2] kt q3] (.Tuple [.Constant .none j1 q4, .Constant .none j2 q5] k2 q6) q7.line env = pure false)
    (sw3 : ∀ env : Env, env.scope = sg → swapsWith (.Call (.Name a r2) [] [] r3) (some (.Name fdn r1)) r4.line env = pure false) (sw4 : ∀ env : Env, env.scope = sg → swapsWith (.Name en r7) (some (.Name cgn r6)) r8.line env = pure false)
    (hCs : ∀ C ∈ Cs, PySem.W.exmOne X.K (.ref C) c0 = some true)
    (hrest : ∀ (cdv : Value) (A : Around) (outer : List Env) (s : Shared) (H : Hp), Bd (cxOf (L2.CX X.prog X.w) X.prog X.w X.K X.mg X.base Ng x sg g cdv A outer s H XF) B XF (k + 1) → DSs (cxOf (L2.CX X.prog X.w) X.prog X.w X.K X.mg X.base Ng x sg g cdv A outer s H XF) B XF rest mr)
    (TB : TabB X.base X.mg c P) (hcode : X.env.code = .ref c) (hmT : (P, X.env.qual ++ "<lambda>") ∈ B.T) (hu : ∀ p ∈ B.T, p.1 = P → p.2 = X.env.qual ++ "<lambda>") (hr : Room (k + 2) X.A) (L : LamT X.N X.env.scope scope) (hdef : DfT bd params X.env)
    (hbind : DlBind bd (X.env.qual ++ "<lambda>") params body scope)
    (hbody : ∀ (A : Around) (outer : List Env) (s : Shared) (H : Hp) (E : XK) (f c' : Addr), Room k (A.deeper (lamEnv X scope s.heap.objs.size f c')) → Ctx (lamCx X A outer s H E scope f c') B E → DE (lamCx X A outer s H E scope f c') B E body m)
    (hdb : (x == ("__debug__" : Str)) = false := by decide) :
    DE X B W (.Call (.Name x p) [.Lambda params body scope lpos] [] pos) (mHeard Cs Ng.length mr m) := by
  refine ⟨fun pins s σ H Q I h => ?_⟩
  obtain ⟨G0, H0, G, z, r, z', R, hm0, hA⟩ := h
  refine wpAny_Call_Name_kw (ld_glob I hg hm ?_ hdb)
  refine PySem.W.callWith_K (h₀ := X.base) I.ok.mod.kin hk ?_ (by rfl) (by rfl)
  show wpAny _ _ (spliced ((false, eval (.Lambda params body scope lpos) X.env) :: backTo pos (starEach [] X.env))) _ _ s
  refine Calls.spliced_cons (dl_make I TB hcode hmT hu R.pen.tab hdef (L.has I.ok) fun f c' pm' ctv dV H1 s' I1 eN eB T1 hdv hf hfn hfr hco => ?_)
  refine Calls.spliced_nil ⟨I1.kIn, ?_⟩
  -- the relation behind the making
  have hPt : ∀ b, B.cold b → b ≠ P := fun b hb z => by
    subst z
    exact hb.2 _ hmT
  have R1 : Rel B G0 H0 z G H1 σ := by
    obtain ⟨psP, tP, _⟩ := R.pen.tab _ hmT
    have gP := R.pen.gT P _ hmT
    refine ⟨fun b u q => eB b u (R.ex _ _ q) (ne_of_none q gP), R.g0, fun b u q hb => eB b u (R.fr b u q hb) (hPt b hb), R.nw, ⟨fun b e => ?_, R.pen.gT, T1⟩, R.va, fun i d q => ?_, R.ap⟩
    · obtain ⟨c3, h1, h2, h3⟩ := R.pen.pen b e
      refine ⟨c3, eB _ _ h1 (fun z => ?_), h2, h3⟩
      rw [z] at h1
      have tP : H P = some (.tbl psP) := tP
      rw [tP] at h1
      cases h1
    · obtain ⟨b, u, p1, p2, p3, p4, p5, p6⟩ := R.ow i d q
      exact ⟨b, u, p1, eB _ _ p2 (hPt b p6), p3, p4, p5, p6⟩
  have rc : codeAny (model X.prog X.w) X.A (.call (.ref g) ⟨[.ref f], []⟩) (CR (L2.CX X.prog X.w) X.stack X.prog X.w H1 s' Q XF) s' := by
    refine run_ofS (N := Ng) (ps := [a]) (us := [.ref f]) (vs := [.ref f]) lk hcg Sg hr I1.env0 (hb s' [.ref f] I1.kIn rfl) (.cons rfl .nil) rfl fun hr' => ?_
    have tkY : Takes (cxOf (L2.CX X.prog X.w) X.prog X.w X.K X.mg X.base Ng x sg g cdv X.A X.stack s' H1 XF) (fun c d _ H => XF c d H) := takes_of rfl rfl rfl rfl
    have hN3 : 3 < Ng.length := (List.getElem?_eq_some_iff.mp n3).1
    let tA : WX → TE := fun W σZ HZ Q => σZ[0]? = some (some (.ref f)) ∧ HZ c' = some (CodeO c' (X.env.qual ++ "<lambda>")) ∧ (∀ T, dV = .ref T → HZ T = some (.tup [.int 0])) ∧ tD B (fun cls d H' => W cls d σZ H') m σ HZ Q
    have act : ∀ (W : WX) (pn : List (Addr × Obj)) (xe : Value → Shared → Prop), Takes ((cxOf (L2.CX X.prog X.w) X.prog X.w X.K X.mg X.base Ng x sg g cdv X.A X.stack s' H1 XF).tr pn xe) W →
        PE ((cxOf (L2.CX X.prog X.w) X.prog X.w X.K X.mg X.base Ng x sg g cdv X.A X.stack s' H1 XF).tr pn xe) (.Call (.Name a r2) [] [] r3) (tA W) := fun W pn xe tk => by
      refine ⟨fun pinsZ sZ σZ HZ Q IZ ⟨hs, hc, hT, ht⟩ => ?_⟩
      refine wpAny_Call_Name_kw (thn ((pe_var (pos := r2) (i := 0) n0 v0 da dca).run pinsZ sZ σZ HZ (fun v H1 => v = .ref f ∧ H1 = HZ) IZ ⟨.ref f, hs, rfl, rfl⟩) fun u s1 ⟨v, H2, I2, rr, q1⟩ => ?_)
      obtain ⟨ev, eH⟩ := q1
      subst ev
      rw [eH] at I2
      obtain rfl : u = Value.ref f := rr
      exact act_run (Z := (cxOf (L2.CX X.prog X.w) X.prog X.w X.K X.mg X.base Ng x sg g cdv X.A X.stack s' H1 XF).tr pn xe) (k := k) (E := fun cls d H' => W cls d σZ H') I1 L hf hfn hfr hdv hbind rfl rfl rfl rfl rfl rfl rfl rfl rfl I2
        (fun e s' cc => tk e s' (XE.of_call I2 (fun _ _ _ h => h) cc)) hr' (fun A outer s H hr2 => hbody A outer s H _ f c' hr2 ⟨hC.hK, rfl, hC.nd, passes_call (takes_of rfl rfl rfl rfl) fun _ _ _ _ h => h⟩) hc hT ht
    refine ⟨_, by
      rw [hbg]
      exact pss_cons (ps_asg (pe_tup (pa_cons pe_non (pa_cons pe_non pa_nil))) (pg_tup rfl (pgs_cons (pg_name Sg.nd n1 (.inl l1) (.inr l1)) (pgs_cons (pg_name Sg.nd n2 (.inl l2) (.inr l2)) pgs_nil))) (sw2 _ rfl) (sw1 _ rfl))
        (pss_cons (ps_try_keep (c := c0) (i := 3) (j := 2) (tb := fun W => tAsg (tA W) (gName 1)) rfl rfl Sg.nd n3 n2 l3 l2 ⟨gx, dx0, .inl mx⟩ L2.takes0 (fun W pn xe tk _ => pss_one (ps_set Sg.nd n1 (.inl l1) (act W pn xe tk) (sw3 _ rfl) (.inr l1))) hN3 rfl de dce (sw4 _ rfl))
          (hrest cdv X.A X.stack s' H1 ⟨⟨hC.hK, rfl, Sg.nd, passL⟩, hr', passes_of rfl, tkY⟩)), ?_⟩
    refine ⟨by decide, fun pt npt => ⟨pt, [.non, .non], rfl, .inl (.inl upd_same), rfl, .non, [.non], rfl, .non, [], rfl, rfl, ?_⟩⟩
    have R1 := R1.grow (Grow.own (o := .tup [.non, .non]) R1.ex npt)
    have hco : upd H1 pt (.tup [.non, .non]) c' = some (CodeO c' (X.env.qual ++ "<lambda>")) := by rw [upd_ne (ne_of_none hco npt)]; exact hco
    have hlen : (L2.start Ng [V.ref f]).length = Ng.length := by
      unfold L2.start
      simp
      omega
    have s0 : ((((L2.start Ng [V.ref f]).set 1 (some .non)).set 2 (some .non)) : L2.St)[0]? = some (some (.ref f)) := by
      rw [List.getElem?_set_ne (by decide), List.getElem?_set_ne (by decide)]
      rfl
    generalize hσ : ((((L2.start Ng [V.ref f]).set 1 (some .non)).set 2 (some .non)) : L2.St) = σ1 at s0 ⊢
    have hl1 : σ1.length = Ng.length := by rw [← hσ]; simpa using hlen
    have c1 : σ1[1]? = some (some .non) := by
      rw [← hσ, List.getElem?_set_ne (by decide), List.getElem?_set_self (by rw [hlen]; omega)]
    have c2 : σ1[2]? = some (some .non) := by
      rw [← hσ, List.getElem?_set_self (by rw [List.length_set, hlen]; omega)]
    refine ⟨s0, hco, fun T e => ?_, ?_⟩
    · have hdv := hdv
      unfold DfL at hdv
      split at hdv
      · obtain ⟨T', e', h'⟩ := hdv
        rw [e] at e'
        cases e'
        rw [upd_ne (ne_of_none h' npt)]
        exact h'
      · rw [e] at hdv; cases hdv
    · rcases mHeard_ok hm0 with ⟨d, z1, e, P', m1, hf1, rfl, rfl⟩ | ⟨x1, z1, e, P', m1, hx1, hf1, rfl, rfl⟩
      · refine ⟨G0, H0, G, z, _, z1, R1, m1, fun G2 H2 R2 s2 v rv => ?_⟩
        refine rest_r R2 (.refl R2.ex) (v := v) (u := .non) ?_ ?_ rv (show Rep B G2 .non .non from rfl) hf1 fun G' H' R' s' => hA G' H' R' (s2.trans s')
        · rw [List.getElem?_set_self (by rw [hl1]; omega)]
        · rw [List.getElem?_set_ne (by decide)]; exact c2
      · refine ⟨G0, H0, G, z, _, z1, R1, m1, fun dx G2 H2 R2 s2 xr => ?_⟩
        refine ⟨x1.C, dx, rfl, rfl, true, hCs _ hx1, fun _ b nb => ?_, fun z => by cases z⟩
        have gr := Grow.new (o := ExcO x1.C dx b) R2.ex nb
        obtain ⟨fs, f1, f2, f3⟩ := xr
        have rep : Rep B (upd G2 b (ExcO x1.C dx b)) (.exc x1.C x1.ns x1.ds) (.ref b) := ⟨b, dx, fs, rfl, upd_same, gr.g _ _ f1, f2, Reps.mono gr.g _ _ f3⟩
        refine rest_r R2 gr (v := .non) (u := .ref b) ?_ ?_ (show Rep B (upd G2 b (ExcO x1.C dx b)) .non .non from rfl) rep hf1 fun G' H' R' s' => hA G' H' R' (s2.trans s')
        · rw [List.getElem?_set_ne (by decide), List.getElem?_set_ne (by decide), List.getElem?_set_ne (by decide)]; exact c1
        · rw [List.getElem?_set_ne (by decide), List.getElem?_set_self (by rw [List.length_set, hl1]; omega)]
  refine wpAny_call (codeAny_mono rc fun r s2 hq => ?_)
  cases r with
  | error e => exact (passL pins σ H1 s' e s2 I1 hq)
  | ok fl =>
    cases fl with
    | ret u => exact I1.after hq
    | next => exact False.elim hq
    | brk => exact False.elim hq
    | cont => exact False.elim hq
end
end DL

-- DInit
set_option maxHeartbeats 4000000
/-! DInit: an own class's __init__, a new instance -/
namespace DL
open PySem PySem.Spec PyProof.Rows L2

abbrev Mi := List D → Pen → Option (Rs (List Str × List D) × Pen)
/-- all but x stays, what is told was not there or is told already -/
structure GrowX (B : Bs) (x : Addr) (G H G' H' : Hp) (P' : Pen) : Prop where
  g : Same G G'
  h : ∀ a o, H a = some o → a ≠ x → B.cold a → H' a = some o
  ex : Same G' H'
  nw : ∀ a o, G' a = some o → G a = some o ∨ H a = none ∨ a = x
  pen : PenOk B G' H' P'
def spI (B : Bs) (C : Addr) (n : Nat) (m : Mi) : Sp := fun vs H Q E => vs.length = n ∧ ∃ x dx ws G P ds r P', vs = .ref x :: ws ∧ H x = some (.ins C dx []) ∧ Same G H ∧ G x = none ∧ PenOk B G H P ∧ B.cold x ∧ Reps B G ds ws ∧ m ds P = some (r, P') ∧ match r with
  | .ok (ns, es) => ∀ G' H' dx' fs, GrowX B x G H G' H' P' → G' x = none → H' x = some (.ins C dx' fs) → fs.map (·.1) = ns → Reps B G' es (fs.map (·.2)) → Q .non H'
  | .error e => ∀ d G' H', GrowX B x G H G' H' P' → XRep B G' H' e d → E (.ref e.C) (some d) H'
def zI (C : Addr) (N : Nat) (ds : List D) (P : Pen) : Z := ⟨.ow (.obj C [] []) :: (ds.map .va ++ List.replicate (N - (ds.length + 1)) .un), P⟩
def finI (C : Addr) (r : Option (Rs Fl × Z)) : Option (Rs (List Str × List D) × Pen) := match r with
  | some (.ok .nx, z) => match (z.S[0]? : Option Sl) with
    | some (Sl.ow (.obj C' ns es)) => if C' = C then some (.ok (ns, es), z.P) else none
    | _ => none
  | some (.error x, z) => some (.error x, z.P)
  | _ => none
theorem finI_nx {C : Addr} {z : Z} {r : Rs (List Str × List D)} {P' : Pen} (h : finI C (some (.ok .nx, z)) = some (r, P')) : ∃ ns es, z.S[0]? = some (.ow (.obj C ns es)) ∧ r = .ok (ns, es) ∧ P' = z.P := by
  have h : (match (z.S[0]? : Option Sl) with
    | some (Sl.ow (.obj C' ns es)) => if C' = C then some ((Except.ok (ns, es) : Rs (List Str × List D)), z.P) else none
    | _ => none) = some (r, P') := h
  split at h
  · rename_i C' ns es hs
    by_cases hC : C' = C
    · subst hC
      rw [if_pos rfl] at h
      injection h with h
      injection h with h1 h2
      exact ⟨ns, es, hs, h1.symm, h2.symm⟩
    · rw [if_neg hC] at h; cases h
  · cases h
def runI (C : Addr) (N : Nat) (m : M Fl) : Mi := fun ds P => finI C (m (zI C N ds P))
section
variable {B : Bs} {G H : Hp} {P : Pen} {C x dx : Addr}
def outX (H : Hp) (x : Addr) : Hp := fun a => if a = x then none else H a
theorem outX_same : outX H x x = none := if_pos rfl
theorem outX_ne {a : Addr} (h : a ≠ x) : outX H x a = H a := if_neg h
theorem outX_some {a : Addr} {o : HO} (h : outX H x a = some o) : a ≠ x ∧ H a = some o := by
  by_cases e : a = x
  · subst e; rw [outX_same] at h; cases h
  · rw [outX_ne e] at h; exact ⟨e, h⟩
theorem zI_get {N : Nat} {ds : List D} {i : Nat} {s : Sl} (h : (zI C N ds P).S[i]? = some s) : s = .un ∨ (i = 0 ∧ s = .ow (.obj C [] [])) ∨ ∃ j d, i = j + 1 ∧ s = .va d ∧ ds[j]? = some d := by
  unfold zI at h
  match i, h with
  | 0, h => cases h; exact .inr (.inl ⟨rfl, rfl⟩)
  | j + 1, h =>
    rw [List.getElem?_cons_succ] at h
    by_cases hj : j < ds.length
    · rw [List.getElem?_append_left (by simpa using hj), List.getElem?_map] at h
      cases e : ds[j]? with
      | none => rw [e] at h; cases h
      | some d => rw [e] at h; cases h; exact .inr (.inr ⟨j, d, rfl, rfl, e⟩)
    · rw [List.getElem?_append_right (by simpa using hj), List.getElem?_replicate] at h
      split at h <;> cases h
      exact .inl rfl
theorem Rel.init {N : List Str} {n : Nat} {ds : List D} {ws : List V} (sg : Same G H) (pn : PenOk B G H P) (r : Reps B G ds ws) (hx : H x = some (.ins C dx [])) (gx : G x = none) (cx : B.cold x) : Rel B G (outX H x) (zI C n ds P) G H (L2.start N (.ref x :: ws)) where
  ex := sg
  g0 := Same.refl _
  fr := fun a o q _ => (outX_some q).2
  nw := fun _ _ q => .inl q
  pen := pn
  va := fun i d q => by
    rcases zI_get q with q | ⟨_, q⟩ | ⟨j, e, rfl, q, h⟩
    · cases q
    · cases q
    · cases q
      obtain ⟨v, h1, h2⟩ := r.get h
      exact ⟨v, start_va (by simpa using h1), h2⟩
  ow := fun i d q => by
    rcases zI_get q with q | ⟨rfl, q⟩ | ⟨j, e, rfl, q, h⟩
    · cases q
    · cases q
      exact ⟨x, _, start_va rfl, hx, gx, .inr ⟨C, [], [], dx, [], rfl, rfl, rfl, .nil⟩, outX_same, cx⟩
    · cases q
  ap := fun i j d e a q1 q2 ne _ _ => by
    rcases zI_get q1 with q | ⟨rfl, q⟩ | ⟨_, _, rfl, q, h⟩
    · cases q
    · rcases zI_get q2 with q' | ⟨rfl, q'⟩ | ⟨_, _, rfl, q', h⟩
      · cases q'
      · exact ne rfl
      · cases q'
    · cases q
theorem Rel.initDone {G' H' : Hp} {z : Z} {σ : Sg} (R : Rel B G (outX H x) z G' H' σ) : GrowX B x G H G' H' z.P :=
  ⟨R.g0, fun a o q ne c => R.fr a o (by rw [outX_ne ne]; exact q) c, R.ex, fun a o q => by
    rcases R.nw a o q with h | h
    · exact .inl h
    · by_cases e : a = x
      · exact .inr (.inr e)
      · rw [outX_ne e] at h; exact .inr (.inl h), R.pen⟩
end
section
variable {P : Program} {w : World} {K : PySem.W.Frag} {mg : Str → Option Value} {base : Heap} {B : Bs}
theorem finI_r {C : Addr} {m : M Fl} {N : List Str} {n : Nat} {vs : List V} {H : Hp} {Q : VK} {E : XK} (h : spI B C n (runI C N.length m) vs H Q E) : tS true B E m { nx := fun _ H' => Q .non H', rt := fun v H' => v = .non ∧ False } (L2.start N vs) H := by
  obtain ⟨hl, x, dx, ws, G, P, ds, r, P', rfl, hx, sg, gx, pn, cx, rp, hm, hA⟩ := h
  unfold runI at hm
  cases e : m (zI C N.length ds P) with
  | none => rw [e] at hm; cases hm
  | some p =>
    obtain ⟨r1, z1⟩ := p
    rw [e] at hm
    refine ⟨G, outX H x, G, _, r1, z1, Rel.init sg pn rp hx gx cx, e, ?_⟩
    match r1, hm with
    | .ok .nx, hm =>
      obtain ⟨ns, es, hs, rfl, rfl⟩ := finI_nx hm
      intro σ' G' H' l R s
      obtain ⟨a, o, p1, p2, p3, p4, p5, p6⟩ := R.ow 0 _ hs
      rw [l.slf rfl, start_va (vs := .ref x :: ws) rfl] at p1
      cases p1
      rcases p4 with ⟨_, _, e1, _⟩ | ⟨C2, ns2, ds2, dx2, fs2, e1, e2, e3, e4⟩
      · cases e1
      · cases e1
        exact hA G' H' dx2 fs2 R.initDone p3 (by rw [p2, e2]) e3 e4
    | .error x1, hm =>
      injection hm with hm
      injection hm with q1 q2
      subst q1 q2
      exact fun d σ' G' H' l R s q => hA d G' H' R.initDone q
    | .ok (.rt d), hm => cases hm
    | .ok .bk, hm => cases hm
    | .ok .ct, hm => cases hm
theorem spI_len {C : Addr} {n : Nat} {m : Mi} {vs : List V} {H : Hp} {Q : VK} {E : XK} (h : spI B C n m vs H Q E) : vs.length = n := h.1
theorem fn_I {C : Addr} {x qual : Str} {st : Stmt} {f : Addr} {fd : FuncData} {N ps : List Str} {k : Nat} {m : M Fl} (F : Fun K x qual st f fd) (S : FnScope N ps (defScope st)) (hB : B.K = K) (hN : N[0]? = some ("self" : Str))
    (hbody : ∀ (cdv : Value) (A : Around) (outer : List Env) (s : Shared) (H : Hp) (E : XK), Bd (cxOf (L2.CX P w) P w K mg base N qual (defScope st) f cdv A outer s H E) B E k → DSs (cxOf (L2.CX P w) P w K mg base N qual (defScope st) f cdv A outer s H E) B E (defBody st) m) :
    FnOk P w K mg base (L2.CX P w) (k + 1) f fd ps (spI B C ps.length (runI C N.length m)) :=
  F.okX S (fun vs H Q E h => spI_len h) fun cdv A outer s H vs Q E hr h => by
    have tk : Takes (cxOf (L2.CX P w) P w K mg base N qual (defScope st) f cdv A outer s H E) (fun c d _ H => E c d H) := takes_of rfl rfl rfl rfl
    have hb := hbody cdv A outer s H E ⟨⟨hB, rfl, S.nd, passes_call tk fun _ _ _ _ h => h⟩, hr, passes_of rfl, tk⟩
    have hme : meOf (cxOf (L2.CX P w) P w K mg base N qual (defScope st) f cdv A outer s H E) = true := by
      unfold meOf
      exact decide_eq_true hN
    unfold DSs at hb
    rw [hme] at hb
    refine ⟨_, hb, ?_⟩
    obtain ⟨G0, H0, G, z, r, z', R, hm, hA⟩ := finI_r h
    refine ⟨G0, H0, G, z, r, z', R, hm, ?_⟩
    match r, hA with
    | .ok .nx, hA => exact hA
    | .ok .bk, hA => exact hA
    | .ok .ct, hA => exact hA
    | .ok (.rt d), hA => exact fun σ' G' H' v l R s q => (hA σ' G' H' v l R s q).2.elim
    | .error e, hA => exact hA
end

/-! ### C(e, ..) -/
def callI (C : Addr) (m : Mi) (ds : List D) : M D := fun z => match m ds z.P with
  | some (.ok (ns, es), P') => some (.ok (.obj C ns es), ⟨z.S, P'⟩)
  | some (.error x, P') => some (.error x, ⟨z.S, P'⟩)
  | none => none
theorem callI_ok {C : Addr} {m : Mi} {ds : List D} {z z' : Z} {r : Rs D} (h : callI C m ds z = some (r, z')) : ∃ r1 P', m ds z.P = some (r1, P') ∧ z' = ⟨z.S, P'⟩ ∧ ((∃ ns es, r1 = .ok (ns, es) ∧ r = .ok (.obj C ns es)) ∨ ∃ x, r1 = .error x ∧ r = .error x) := by
  unfold callI at h
  split at h
  · rename_i ns es P' e
    injection h with h
    injection h with h1 h2
    exact ⟨_, P', e, h2.symm, .inl ⟨ns, es, rfl, h1.symm⟩⟩
  · rename_i x P' e
    injection h with h
    injection h with h1 h2
    exact ⟨_, P', e, h2.symm, .inr ⟨x, rfl, h1.symm⟩⟩
  · cases h
def mMake (C : Addr) (m : Mi) (dd : List D) (ms : M (List D)) : M D := bnd ms fun ds => callI C m (ds ++ dd)
section
variable {X : Cx} {B : Bs} {W : XK} {pos p : Pos} {e : Expr} {es : List Expr} {ms : M (List D)} {k n : Nat} {f C : Addr} {fd : FuncData} {ps : List Str} {m : Mi} {x : Str} {dvs : List V} {ds : List Value} {dd : List D}
theorem sp_make {G0 H0 G H : Hp} {σ : Sg} {z z' : Z} {r : Rs D} {vs : List V} {xs : List D} {Q : VK} (R : Rel B G0 H0 z G H σ) (rx : Reps B G xs vs) (hl : vs.length + 1 = n) (hm : callI C m xs z = some (r, z'))
    (hA : After B W G0 H0 G σ r z' fun d G' H' => ∀ v, Rep B G' d v → Q v H') (x dx : Addr) (nx : H x = none) (nd : H dx = none) (ne : dx ≠ x) :
    spI B C n m (.ref x :: vs) (upd (upd H dx (.own x)) x (.ins C dx [])) (fun v H2 => v = .non ∧ Q (.ref x) H2) W := by
  obtain ⟨r1, P', e, rfl, h⟩ := callI_ok hm
  have cx := R.pen.cold nx
  have gx : G x = none := Same.dom R.ex nx
  have sH : Same H (upd (upd H dx (.own x)) x (.ins C dx [])) := fun a o q => by rw [upd_ne (ne_of_none q nx), upd_ne (ne_of_none q nd)]; exact q
  have gH : Grow G H G (upd (upd H dx (.own x)) x (.ins C dx [])) := ⟨Same.refl _, sH, R.ex.trans sH, fun a o q => .inl q⟩
  refine ⟨hl, x, dx, vs, G, z.P, xs, r1, P', rfl, upd_same, gH.ex, gx, R.pen.mono gH.g gH.h gH.nw, cx, rx, e, ?_⟩
  rcases h with ⟨ns, es, rfl, rfl⟩ | ⟨x1, rfl, rfl⟩
  · intro G' H' dx' fs g gx' hx' e1 e2
    -- the new instance is told
    have s' : Same G' (upd G' x (.ins C dx' fs)) := fun a o q => by rw [upd_ne (ne_of_none q gx')]; exact q
    have gp : GrowP B G H (upd G' x (.ins C dx' fs)) H' P' := by
      refine ⟨g.g.trans s', fun a o q c => g.h a o (sH _ _ q) (ne_of_none q nx) c, fun a o q => ?_, fun a o q => ?_, g.pen.tell cx gx'⟩
      · by_cases ha : a = x
        · subst ha; rw [upd_same] at q; cases q; exact hx'
        · rw [upd_ne ha] at q; exact g.ex _ _ q
      · by_cases ha : a = x
        · subst ha; exact .inr nx
        · rw [upd_ne ha] at q
          rcases g.nw a o q with h | h | h
          · exact .inl h
          · refine .inr ?_
            cases e : H a with
            | none => rfl
            | some u => rw [sH _ _ e] at h; cases h
          · exact absurd h ha
    exact ⟨rfl, hA _ _ (R.growP gp) gp.g _ ⟨x, dx', fs, rfl, upd_same, e1, Reps.mono s' _ _ e2⟩⟩
  · intro d G' H' g xr
    -- x may have been told; it was not there before
    have gp : GrowP B G H G' H' P' := ⟨g.g, fun a o q c => g.h a o (sH _ _ q) (ne_of_none q nx) c, g.ex, fun a o q => by
      rcases g.nw a o q with h | h | h
      · exact .inl h
      · refine .inr ?_
        cases e : H a with
        | none => rfl
        | some u => rw [sH _ _ e] at h; cases h
      · subst h; exact .inr nx, g.pen⟩
    exact hA d G' H' (R.growP gp) gp.g xr
theorem tMake_of {t : TA} (ht : ∀ σ H Q, tDs B W ms σ H Q → t σ H Q) (hdd : ∀ G, Reps B G dd dvs) (hn : ∀ z xs z', ms z = some (.ok xs, z') → xs.length + dd.length + 1 = n) (σ : Sg) (H : Hp) (Q : VK) (h : tD B W (mMake C m dd ms) σ H Q) : tMake C (spI B C n m) dvs W t σ H Q := by
  obtain ⟨G0, H0, G, z, r, z', R, hm, hA⟩ := h
  refine ht _ _ _ ?_
  rcases bnd_ok hm with ⟨xs, z1, m1, hm⟩ | ⟨x, m1, rfl⟩
  · refine ⟨G0, H0, G, z, _, z1, R, m1, fun G1 H1 R1 s1 vs rx x dx nx nd ne => ?_⟩
    have rr := rx.append (hdd G1)
    exact sp_make R1 rr (by rw [← rr.length, List.length_append]; exact hn _ _ _ m1) hm (hA.up s1) x dx nx nd ne
  · exact ⟨G0, H0, G, z, _, z', R, m1, hA⟩
theorem de_make (hC : Ctx X B W) (Mk0 : Mk X.K C f) (F : FnOk X.prog X.w X.K X.mg X.base (L2.CX X.prog X.w) k f fd ps (spI B C n m)) (hr : Room (k + 1) X.A) (hg : Gl X x) (hm : X.mg x = some (.ref C)) (hb : Binds X.K fd ps ds) (hd : Vals dvs ds)
    (hdd : ∀ G, Reps B G dd dvs) (hn : ∀ z xs z', ms z = some (.ok xs, z') → xs.length + dd.length + 1 = n)
    (ha : DA X B W (e :: es) ms) (hdb : (x == ("__debug__" : Str)) = false := by decide) (he : starEach (e :: es) X.env = (false, eval e X.env) :: starEach es X.env := by rfl) (hpl : (backTo pos (starEach es X.env)).any (·.1) = false := by rfl) :
    DE X B W (.Call (.Name x p) (e :: es) [] pos) (mMake C m dd ms) := PE.imp (pe_make Mk0 F hr hg hm hb hd hC.pass ha hdb he hpl) (tMake_of (fun _ _ _ h => h) hdd hn)
end
end DL

-- DKw
set_option maxHeartbeats 4000000
/-! DKw: calls by keywords alone -/
namespace DL
open PySem PySem.Spec PyProof.Rows L2

def pick {α : Type} (perm : List Nat) (xs : List α) : List α := perm.filterMap fun i => xs[i]?
theorem Reps.pick {B : Bs} {G : Hp} {ds : List D} {vs : List V} (h : Reps B G ds vs) : ∀ perm : List Nat, Reps B G (pick perm ds) (pick perm vs)
  | [] => .nil
  | i :: perm => by
    unfold DL.pick
    cases e : ds[i]? with
    | none =>
      have e2 : vs[i]? = none := by
        rw [List.getElem?_eq_none_iff] at e ⊢
        rw [← h.length]; exact e
      rw [List.filterMap_cons, e, List.filterMap_cons, e2]
      exact Reps.pick h perm
    | some d =>
      obtain ⟨v, e2, r⟩ := h.get e
      rw [List.filterMap_cons, e, List.filterMap_cons, e2]
      exact .cons r (Reps.pick h perm)
theorem Vals.pick {vs : List V} {us : List Value} (h : Vals vs us) : ∀ perm : List Nat, Vals (pick perm vs) (pick perm us)
  | [] => .nil
  | i :: perm => by
    unfold DL.pick
    cases e : vs[i]? with
    | none =>
      have e2 : us[i]? = none := L2.Vals.none_of h e
      rw [List.filterMap_cons, e, List.filterMap_cons, e2]
      exact Vals.pick h perm
    | some d =>
      obtain ⟨v, e2, r⟩ := L2.Vals.get h e
      rw [List.filterMap_cons, e, List.filterMap_cons, e2]
      exact .cons r (Vals.pick h perm)
abbrev DK (X : Cx) (B : Bs) (W : XK) (kws : List Keyword) (m : M (List D)) : Prop := PK X kws (tDs B W m)
section
variable {X : Cx} {B : Bs} {W : XK} {pos p kpos : Pos} {e : Expr} {kws : List Keyword} {me : M D} {ms : M (List D)} {k n : Nat} {f C : Addr} {fd : FuncData} {ps ks : List Str} {m : Mf} {mi : Mi} {x : Str} {perm : List Nat} {nm : Option Str}
theorem PK.imp {t t' : TA} (h : PK X kws t) (i : ∀ σ H Q, t' σ H Q → t σ H Q) : PK X kws t' := ⟨fun pos pins s σ H Q I q => h.run pos pins s σ H Q I (i _ _ _ q)⟩
theorem dk_nil : DK X B W [] mNil := PK.imp pk_nil nil_t
theorem dk_cons (ha : DE X B W e me) (hr : DK X B W kws ms) : DK X B W (⟨nm, e, kpos⟩ :: kws) (mCons me ms) := PK.imp (pk_cons ha hr) fun σ H Q ⟨G0, H0, G, z, r, z', R, hm, hA⟩ => by
  obtain ⟨r1, z1, m1, A1⟩ := After.bnd (K := fun d G1 H1 => ∀ v, Rep B G1 d v → tDs B W ms σ H1 fun xs H2 => Q (v :: xs) H2) hm hA fun d z1 G1 H1 R1 s1 hm hA v q1 => by
    obtain ⟨r2, z2, m2, A2⟩ := After.bnd (K := fun ds G2 H2 => ∀ vs, Reps B G2 ds vs → Q (v :: vs) H2) hm hA fun ds z2 G2 H2 R2 s2 hm hA vs q2 => by
      obtain ⟨rfl, rfl⟩ := ret_ok hm
      exact hA G2 H2 R2 (Same.refl _) (v :: vs) (.cons (Rep.mono s2 _ _ q1) q2)
    exact ⟨G0, H0, G1, z1, r2, z2, R1, m2, A2⟩
  exact ⟨G0, H0, G, z, r1, z1, R, m1, A1⟩
/-- how keywords alone are bound -/
theorem kbn_of {K : PySem.W.Frag} {j : Nat} (h : ∀ us ws : List Value, us.length = j → ws.length = ks.length → bindArgs fd ⟨us, ks.zip ws⟩ = pure (ps.zip (us ++ pick perm ws))) : KBn K fd ps j ks (fun us ws => us ++ pick perm ws) (fun vs zs => vs ++ pick perm zs) where
  to := fun s us ws _ l1 l2 => .of_eq (h us ws l1 l2)
  rel := fun r1 r2 => r1.append (Vals.pick r2 perm)
/-- f(k = v, ..) -/
def mCallK (perm : List Nat) (m : Mf) (ms : M (List D)) : M D := bnd ms fun ds => callM m (pick perm ds)
theorem de_callK (hC : Ctx X B W) (F : FnOk X.prog X.w X.K X.mg X.base (L2.CX X.prog X.w) k f fd ps (spD B n m)) (hr : Room k X.A) (hg : Gl X x) (hm : X.mg x = some (.ref f)) (hk : PySem.W.keepIn X.K (.ref f) = true)
    (hb : KBn X.K fd ps 0 ks (fun us ws => us ++ pick perm ws) (fun vs zs => vs ++ pick perm zs)) (hn : ∀ z xs z', ms z = some (.ok xs, z') → xs.length = ks.length ∧ (pick perm xs).length = n) (hkw : DK X B W kws ms)
    (hall : (backToKw pos (keywordEach kws X.env)).all (·.1.isSome) = true := by rfl) (hks : (backToKw pos (keywordEach kws X.env)).filterMap (·.1) = ks := by rfl) (hdb : (x == ("__debug__" : Str)) = false := by decide)
    (hpl : ((backTo pos (starEach [] X.env)).any (·.1) || (backToKw pos (keywordEach kws X.env)).any (·.1.isNone)) = false := by rfl) : DE X B W (.Call (.Name x p) [] kws pos) (mCallK perm m ms) := by
  refine ⟨fun pins s σ H Q I ⟨G0, H0, G, z, r, z', R, hm0, hA⟩ => ?_⟩
  refine wpAny_Call_Name_kw (ld_glob I hg hm ?_ hdb)
  refine PySem.W.callWith_KW0 (h₀ := X.base) I.ok.mod.kin hk hall ?_ hpl
  have go : tDs B W ms σ H fun zs H2 => zs.length = ks.length ∧ spD B n m ([] ++ pick perm zs) H2 Q W := by
    rcases bnd_ok hm0 with ⟨xs, z1, m1, hm1⟩ | ⟨x, m1, rfl⟩
    · refine ⟨G0, H0, G, z, _, z1, R, m1, fun G1 H1 R1 s1 vs rx => ?_⟩
      obtain ⟨n1, n2⟩ := hn _ _ _ m1
      have rr := rx.pick perm
      exact ⟨by rw [← rx.length]; exact n1, sp_call R1 rr (by rw [List.nil_append, ← rr.length]; exact n2) hm1 (hA.up s1)⟩
    · exact ⟨G0, H0, G, z, _, z', R, m1, hA⟩
  refine thn (hkw.run pos pins s σ H _ I go) fun ws s2 ⟨zs, H2, I2, rz, l2, q2⟩ => ⟨I2.kIn, ?_⟩
  rw [hks]
  have hq : spD B n m ([] ++ pick perm zs) H2 Q W := q2
  have r2 : Vals ([] ++ pick perm zs) ([] ++ pick perm ws) := hb.rel .nil rz
  refine wpAny_call (codeAny_mono (F.run X.A X.stack s2 H2 ⟨[], ks.zip ws⟩ _ _ Q W hr I2.env0 (hb.to s2 [] ws I2.kIn rfl (rz.length.symm.trans l2)) r2 hq) fun r s' hq => ?_)
  cases r with
  | error e => exact hC.pass pins σ H2 s2 e s' I2 hq
  | ok fl =>
    cases fl with
    | ret u => exact I2.after hq
    | next => exact False.elim hq
    | brk => exact False.elim hq
    | cont => exact False.elim hq
/-- C(k = v, ..) -/
def mMakeK (perm : List Nat) (C : Addr) (m : Mi) (ms : M (List D)) : M D := bnd ms fun ds => callI C m (pick perm ds)
theorem de_makeK (hC : Ctx X B W) (Mk0 : Mk X.K C f) (F : FnOk X.prog X.w X.K X.mg X.base (L2.CX X.prog X.w) k f fd ps (spI B C n mi)) (hr : Room (k + 1) X.A) (hg : Gl X x) (hm : X.mg x = some (.ref C))
    (hb : KBn X.K fd ps 1 ks (fun us ws => us ++ pick perm ws) (fun vs zs => vs ++ pick perm zs)) (hn : ∀ z xs z', ms z = some (.ok xs, z') → xs.length = ks.length ∧ (pick perm xs).length + 1 = n) (hkw : DK X B W kws ms)
    (hall : (backToKw pos (keywordEach kws X.env)).all (·.1.isSome) = true := by rfl) (hks : (backToKw pos (keywordEach kws X.env)).filterMap (·.1) = ks := by rfl) (hdb : (x == ("__debug__" : Str)) = false := by decide)
    (hpl : ((backTo pos (starEach [] X.env)).any (·.1) || (backToKw pos (keywordEach kws X.env)).any (·.1.isNone)) = false := by rfl) : DE X B W (.Call (.Name x p) [] kws pos) (mMakeK perm C mi ms) :=
  PE.imp (pe_makeK0 Mk0 F hr hg hm hb hC.pass hkw hall hks hdb hpl) fun σ H Q ⟨G0, H0, G, z, r, z', R, hm0, hA⟩ => by
    rcases bnd_ok hm0 with ⟨xs, z1, m1, hm1⟩ | ⟨x, m1, rfl⟩
    · refine ⟨G0, H0, G, z, _, z1, R, m1, fun G1 H1 R1 s1 vs rx => ?_⟩
      obtain ⟨n1, n2⟩ := hn _ _ _ m1
      have rr := rx.pick perm
      exact ⟨rfl, by rw [← rx.length]; exact n1, fun x dx nx nd ne => sp_make R1 rr (by rw [← rr.length]; exact n2) hm1 (hA.up s1) x dx nx nd ne⟩
    · exact ⟨G0, H0, G, z, _, z', R, m1, hA⟩
end
end DL

-- DEq
set_option maxHeartbeats 4000000
/-! DEq: == and != whose left operand has an __eq__ of its own -/
namespace DL
open PySem PySem.Spec PyProof.Rows L2

section
variable {prog : Program} {w : World} {A : Around} {E : Value → Shared → Prop} {s : Shared} {K : PySem.W.Frag} {x C L f : Addr} {h₀ : Heap} {m : Str → Option Value} {ox : Obj} {od : Option Obj} {b tb : Value}
open PySem.W in
theorem cmp_neK {Q : Value → Shared → Prop} (hu : A.units + 1 < cLine) (Fr0 : Fr h₀ L s.heap m) (X₀ : K.In h₀) (I : InstAt s.heap x ox C od) (hb : Looks (model prog w) s.heap (typeOf b) tb) (hn : notFirst K C tb = true)
    (hne : findIn K (.ref C) "__ne__" = some (some (.builtin "object.__ne__"))) (hs : findIn K (.ref C) "__eq__" = some (some (.ref f))) (hf : isFn K (.ref f) = true) (hm : mroIn K C (.type "object") = some true)
    (h : wpAny (model prog w) A.in1 (call (.ref f) [.ref x, b]) (fun v s' => ∃ c, v = .bool c ∧ Q (.bool (!c)) s') E s) : wpAny (model prog w) A (richCompare .NotEq (.ref x) b) Q E s := by
  have X := X₀.keeps Fr0.keep
  have body : ∀ {Q' : Fin → Shared → Prop} {E' : Value → Shared → Prop}, wpAny (model prog w) A.in1 (call (.ref f) [.ref x, b]) (fun v s' => ∃ c, v = .bool c ∧ Q' (.done (.ret (.bool (!c)))) s') E' s → wpAny (model prog w) A.in1 (Builtin.«object.__ne__» ⟨[.ref x, b], []⟩) Q' E' s := fun {Q' E'} hc => by
    unfold Builtin.«object.__ne__»
    refine wpAny_bind (wpAny_of_eq (a := ((Value.ref x : Value), [b])) (by first | rfl | (simp only [slotArgs]; rfl)) ?_)
    refine wpAny_bind (wpAny_cRoomFor hu ?_)
    refine wpAny_bind (ifBound_K X I hs hf (wpAny_mono hc (fun v s' hv => ?_) fun _ _ e => e))
    obtain ⟨c, rfl, q⟩ := hv
    exact wpAny_bind (wpAny_truthy_bool (wpAny_pure q))
  have one : wpAny (model prog w) A (tryCompare (.ref x) "__ne__" b) (fun r s' => ∃ v, r = some v ∧ Q v s') E s := by
    unfold tryCompare
    have nb : wpAny (model prog w) A (callSpecialIfBound? (.ref x) "__ne__" [b]) (fun r s' => ∃ c, r = some (.bool (!c)) ∧ Q (.bool (!c)) s') E s := by
      simp only [callSpecialIfBound?, bindSpecialIfBound?]
      refine wpAny_holding (wpAny_bind (wpAny_bind (wpAny_bind (I.type.here ((looks_findIn X hne).here ?_)))))
      refine wpAny_bind (wpAny_askSetting (wpAny_ite ?_))
      have fin : wpAny (model prog w) A (call (.builtin "object.__ne__") ([.ref x] ++ [b]) >>= fun v => pure (some v)) (fun r s' => ∃ c, r = some (.bool (!c)) ∧ Q (.bool (!c)) s') E s := by
        refine wpAny_bind (wpAny_call (codeAny_call_builtin F.cmp_object.ne.plain F.cmpEntry_ne (check_slot F.cmpKind_ne F.cmpSplit_ne (I.type.andThen (looks_mroIn X hm)) (F.cmpArgs_ne _ _) (body (wpAny_mono h (fun v s' hv => ?_) fun _ _ e => e)))))
        obtain ⟨c, rfl, q⟩ := hv
        exact ⟨c, rfl, wpAny_pure ⟨c, rfl, q⟩⟩
      split
      · exact wpAny_bind (wpAny_of_eq (F.cmp_object.ne.bind _) (wpAny_pure (by exact fin)))
      · exact wpAny_tryCatch (wpAny_bind (wpAny_of_eq (F.cmp_object.ne.bind _) (wpAny_pure (by exact fin))))
    refine wpAny_bind (wpAny_mono nb (fun r s' hv => ?_) fun _ _ e => e)
    obtain ⟨c, rfl, q⟩ := hv
    exact wpAny_pure ⟨_, rfl, q⟩
  unfold richCompare
  simp only [oneThing_ref]
  refine wpAny_holding (wpAny_bind (wpAny_cRoomFor (Nat.lt_of_succ_lt hu) ?_))
  refine wpAny_bind (I.type.here (wpAny_bind (hb.here ?_)))
  split
  · rename_i q
    have e : subIn K tb (.ref C) = some false := by
      rcases Bool.or_eq_true_iff.mp hn with e | e
      · rw [beq_iff_eq.mp e] at q; simp at q
      · exact beq_iff_eq.mp e
    refine wpAny_bind ((looks_subIn X e).here ?_)
    simp only [Bool.false_eq_true, if_false]
    refine wpAny_bind (wpAny_mono one (fun r s' z => ?_) fun _ _ e => e)
    obtain ⟨v, rfl, hq⟩ := z
    exact wpAny_pure hq
  · refine wpAny_bind (wpAny_pure ?_)
    simp only [Bool.false_eq_true, if_false]
    refine wpAny_bind (wpAny_mono one (fun r s' z => ?_) fun _ _ e => e)
    obtain ⟨v, rfl, hq⟩ := z
    exact wpAny_pure hq
end

/-- what the class says of == -/
structure EqC (K : PySem.W.Frag) (C f : Addr) : Prop where
  cl : Cls K C
  eq : PySem.W.findIn K (.ref C) "__eq__" = some (some (.ref f))
  ne : PySem.W.findIn K (.ref C) "__ne__" = some (some (.builtin "object.__ne__"))
  fn : PySem.W.isFn K (.ref f) = true
  hm : PySem.W.mroIn K C (.type "object") = some true
/-- the type at the right is not asked first: built-in types named ts, own classes cs -/
structure EqR (K : PySem.W.Frag) (C : Addr) (ts : List String) (cs : List Addr) : Prop where
  t : ∀ n ∈ ts, PySem.W.notFirst K C (.type n) = true
  c : ∀ D ∈ cs, PySem.W.notFirst K C (.ref D) = true
  i : ∀ D ∈ cs, IsC K D
def tyOk (ts : List String) (cs : List Addr) (d : D) : Bool := match tyD d with
  | some (.type n) => decide (n ∈ ts)
  | some (.ref C) => decide (C ∈ cs)
  | _ => false
def rEqO (B : Bs) (W : XK) (C : Addr) (ts : List String) (cs : List Addr) (m : Mf) (neg : Bool) : R2 := fun x y H Q => (∃ a dx fs, x = .ref a ∧ H a = some (.ins C dx fs)) ∧ (∃ G d, Same G H ∧ Rep B G d y ∧ tyOk ts cs d = true) ∧ spD B 2 m [x, y] H (fun v H' => ∃ b : Bool, v = .bl b ∧ Q (.bl (neg ^^ b)) H') W
def mEqO (C : Addr) (ts : List String) (cs : List Addr) (m : Mf) (neg : Bool) (ma mb : M D) : M D := bnd ma fun d => bnd mb fun e => fun z => match d with
  | .obj C' ns ds => if C' = C ∧ tyOk ts cs e = true then match callM m [.obj C' ns ds, e] z with
    | some (.ok (.bl b), z') => some (.ok (.bl (neg ^^ b)), z')
    | some (.error x, z') => some (.error x, z')
    | _ => none
    else none
  | _ => none
section
variable {X : Cx} {B : Bs} {W : XK} {pos : Pos} {a b : Expr} {ma mb : M D} {k : Nat} {f C : Addr} {fd : FuncData} {ps : List Str} {m : Mf} {ts : List String} {cs : List Addr} {neg : Bool}
theorem mEqO_ok {d e : D} {z z' : Z} {r : Rs D} (h : (match d with
  | .obj C' ns ds => if C' = C ∧ tyOk ts cs e = true then match callM m [.obj C' ns ds, e] z with
    | some (.ok (.bl b), z') => some (Except.ok (.bl (neg ^^ b)), z')
    | some (.error x, z') => some (.error x, z')
    | _ => none
    else none
  | _ => none) = some (r, z')) : ∃ ns ds, d = .obj C ns ds ∧ tyOk ts cs e = true ∧ ((∃ b, callM m [.obj C ns ds, e] z = some (.ok (.bl b), z') ∧ r = .ok (.bl (neg ^^ b))) ∨ ∃ x, callM m [.obj C ns ds, e] z = some (.error x, z') ∧ r = .error x) := by
  split at h
  · rename_i C' ns ds
    by_cases hc : C' = C ∧ tyOk ts cs e = true
    · rw [if_pos hc] at h
      obtain ⟨rfl, hc⟩ := hc
      split at h
      · rename_i b z1 e1
        injection h with h
        injection h with h1 h2
        subst h2
        exact ⟨ns, ds, rfl, hc, .inl ⟨b, e1, h1.symm⟩⟩
      · rename_i x z1 e1
        injection h with h
        injection h with h1 h2
        subst h2
        exact ⟨ns, ds, rfl, hc, .inr ⟨x, e1, h1.symm⟩⟩
      · cases h
    · rw [if_neg hc] at h; cases h
  · cases h
theorem tEq_of (σ : Sg) (H : Hp) (Q : VK) (h : tD B W (mEqO C ts cs m neg ma mb) σ H Q) : tOp (rEqO B W C ts cs m neg) (tD B W ma) (tD B W mb) σ H Q := by
  obtain ⟨G0, H0, G, z, r, z', R, hm, hA⟩ := h
  obtain ⟨r1, z1, m1, A1⟩ := After.bnd (K := fun d G1 H1 => ∀ v, Rep B G1 d v → tD B W mb σ H1 fun y H2 => rEqO B W C ts cs m neg v y H2 Q) hm hA fun d z1 G1 H1 R1 s1 hm hA v q1 => by
    obtain ⟨r2, z2, m2, A2⟩ := After.bnd (K := fun e G2 H2 => ∀ u, Rep B G2 e u → rEqO B W C ts cs m neg v u H2 Q) hm hA fun e z2 G2 H2 R2 s2 hm hA u q2 => by
      obtain ⟨ns, ds, rfl, hty, hr⟩ := mEqO_ok hm
      have q1' := Rep.mono s2 _ _ q1
      have rr : Reps B G2 [.obj C ns ds, e] [v, u] := .cons q1' (.cons q2 .nil)
      obtain ⟨a, dx, fs, rfl, h1, _⟩ := id q1'
      refine ⟨⟨a, dx, fs, rfl, R2.ex _ _ h1⟩, ⟨G2, e, R2.ex, q2, hty⟩, ?_⟩
      rcases hr with ⟨b, c1, rfl⟩ | ⟨x, c1, rfl⟩
      · exact sp_call (Q := fun v H' => ∃ b : Bool, v = .bl b ∧ Q (.bl (neg ^^ b)) H') R2 rr rfl c1 fun G' H' R' s' w rw => by
          cases rw
          exact ⟨b, rfl, hA G' H' R' s' _ rfl⟩
      · exact sp_call (Q := fun v H' => ∃ b : Bool, v = .bl b ∧ Q (.bl (neg ^^ b)) H') R2 rr rfl c1 hA
    exact ⟨G0, H0, G1, z1, r2, z2, R1, m2, A2⟩
  exact ⟨G0, H0, G, z, r1, z1, R, m1, A1⟩
theorem ty_looks {pins : List (Addr × Obj)} {s : Shared} {σ : Sg} {H G : Hp} {y : V} {u : Value} {d : D} (hK : B.K = X.K) (ER : EqR X.K C ts cs) (I : Inv X pins σ H s) (ry : RelV y u) (sg : Same G H) (r : Rep B G d y) (h : tyOk ts cs d = true) :
    ∃ tb, PySem.W.Looks (model X.prog X.w) s.heap (typeOf u) tb ∧ PySem.W.notFirst X.K C tb = true := by
  unfold tyOk at h
  cases e : tyD d with
  | none => rw [e] at h; cases h
  | some t =>
    rw [e] at h
    have key : (∀ D, t = .ref D → D ∈ cs) → PySem.W.notFirst X.K C t = true → ∃ tb, PySem.W.Looks (model X.prog X.w) s.heap (typeOf u) tb ∧ PySem.W.notFirst X.K C tb = true := fun hc hn => by
      have ty := tyx_of (B := B) (fun D q => by rw [hK]; exact ER.i D (hc D q)) sg e r
      rw [hK] at ty
      obtain ⟨P, Z, p, _⟩ := kit_of I ry ty
      exact ⟨t, Z.ty _ _ I.kIn p, hn⟩
    match t, h with
    | .type n, h => exact key (fun D q => by cases q) (ER.t n (of_decide_eq_true h))
    | .ref D, h => exact key (fun D' q => by cases q; exact of_decide_eq_true h) (ER.c D (of_decide_eq_true h))
theorem op_eqO (hK : B.K = X.K) (EC : EqC X.K C f) (ER : EqR X.K C ts cs) (F : FnOk X.prog X.w X.K X.mg X.base (L2.CX X.prog X.w) k f fd ps (spD B 2 m)) (hr : Room k X.A) (hb : Binds X.K fd ps []) (hx : Passes (L2.CX X.prog X.w) X W) : OpR X (compareOp .Eq) (rEqO B W C ts cs m false) := by
  intro pins s σ H x y v u Q I rx ry ⟨⟨a, dx, fs, e, ha⟩, ⟨G, d, sg, rd, hty⟩, hsp⟩
  subst e
  cases rx
  obtain ⟨tb, hl, hn⟩ := ty_looks hK ER I ry sg rd hty
  obtain ⟨mA, J, _⟩ := ins_get I.hok ha
  obtain ⟨od, J, _⟩ := J.look
  obtain ⟨m0, hF⟩ := I.fr
  show wpAny (model X.prog X.w) X.A (richCompare .Eq (.ref a) u) (EP X pins σ Q) X.xe s
  refine PySem.W.cmp_K (op := .Eq) (tb := tb) hr.units0 hF I.ok.mod.kin J hl hn EC.eq EC.fn ?_
  refine wpAny_mono (run_fn (us := [.ref a, u]) (vs := [.ref a, y]) (dvs := []) F hr hb .nil hx I (.cons rfl (.cons ry .nil)) hsp) (fun v s' hv => ?_) fun _ _ x => x
  obtain ⟨v1, H', I', r1, b, rfl, q⟩ := hv
  cases r1
  rw [Bool.false_xor] at q
  exact ⟨.bl b, H', I', rfl, q⟩
theorem op_neO (hK : B.K = X.K) (EC : EqC X.K C f) (ER : EqR X.K C ts cs) (F : FnOk X.prog X.w X.K X.mg X.base (L2.CX X.prog X.w) k f fd ps (spD B 2 m)) (hr : Room (k + 1) X.A) (hb : Binds X.K fd ps []) (hx : Passes (L2.CX X.prog X.w) X W) : OpR X (compareOp .NotEq) (rEqO B W C ts cs m true) := by
  intro pins s σ H x y v u Q I rx ry ⟨⟨a, dx, fs, e, ha⟩, ⟨G, d, sg, rd, hty⟩, hsp⟩
  subst e
  cases rx
  obtain ⟨tb, hl, hn⟩ := ty_looks hK ER I ry sg rd hty
  obtain ⟨mA, J, _⟩ := ins_get I.hok ha
  obtain ⟨od, J, _⟩ := J.look
  obtain ⟨m0, hF⟩ := I.fr
  show wpAny (model X.prog X.w) X.A (richCompare .NotEq (.ref a) u) (EP X pins σ Q) X.xe s
  refine cmp_neK (tb := tb) (by have := hr.un; omega) hF I.ok.mod.kin J hl hn EC.ne EC.eq EC.fn EC.hm ?_
  have r2 : Vals [V.ref a, y] [Value.ref a, u] := .cons rfl (.cons ry .nil)
  have hl2 := F.len _ _ _ _ hsp
  refine wpAny_call (codeAny_mono (F.run X.A.in1 X.stack s H ⟨[.ref a, u], []⟩ [.ref a, u] [.ref a, y] _ W hr.in1 I.env0.in1 (by
    have := hb s [.ref a, u] I.kIn (by simpa using hl2)
    simpa using this) r2 hsp) fun r s' hq => ?_)
  cases r with
  | error e => exact hx pins σ H s e s' I hq
  | ok fl =>
    cases fl with
    | ret w =>
      obtain ⟨z, H', I', rz, b, rfl, q⟩ := I.after hq
      cases rz
      refine ⟨b, rfl, .bl (!b), H', I', rfl, ?_⟩
      rw [Bool.true_xor] at q
      exact q
    | next => exact False.elim hq
    | brk => exact False.elim hq
    | cont => exact False.elim hq
theorem de_eqO (hC : Ctx X B W) (EC : EqC X.K C f) (ER : EqR X.K C ts cs) (F : FnOk X.prog X.w X.K X.mg X.base (L2.CX X.prog X.w) k f fd ps (spD B 2 m)) (hr : Room k X.A) (hb : Binds X.K fd ps []) (ha : DE X B W a ma) (hb' : DE X B W b mb) (hm : behindInMarks .Eq b = false := by first | exact nobehind _ (by decide) (by decide) | rfl) :
    DE X B W (.Compare a [.Eq] [b] pos) (mEqO C ts cs m false ma mb) := PE.imp (pe_cmpR (op_eqO hC.hK EC ER F hr hb hC.pass) ha hb' hm) tEq_of
theorem de_neO (hC : Ctx X B W) (EC : EqC X.K C f) (ER : EqR X.K C ts cs) (F : FnOk X.prog X.w X.K X.mg X.base (L2.CX X.prog X.w) k f fd ps (spD B 2 m)) (hr : Room (k + 1) X.A) (hb : Binds X.K fd ps []) (ha : DE X B W a ma) (hb' : DE X B W b mb) (hm : behindInMarks .NotEq b = false := by first | exact nobehind _ (by decide) (by decide) | rfl) :
    DE X B W (.Compare a [.NotEq] [b] pos) (mEqO C ts cs m true ma mb) := PE.imp (pe_cmpR (op_neO hC.hK EC ER F hr hb hC.pass) ha hb' hm) tEq_of
theorem dt_eqO (hC : Ctx X B W) (EC : EqC X.K C f) (ER : EqR X.K C ts cs) (F : FnOk X.prog X.w X.K X.mg X.base (L2.CX X.prog X.w) k f fd ps (spD B 2 m)) (hr : Room k X.A) (hb : Binds X.K fd ps []) (ha : DE X B W a ma) (hb' : DE X B W b mb) (hm : behindInMarks .Eq b = false := by first | exact nobehind _ (by decide) (by decide) | rfl) :
    DT X B W (.Compare a [.Eq] [b] pos) (mLft (mEqO C ts cs m false ma mb) asB) := PT.imp (pt_cmpR (op_eqO hC.hK EC ER F hr hb hC.pass) ha hb' hm) (tTest_of tEq_of)
theorem dt_neO (hC : Ctx X B W) (EC : EqC X.K C f) (ER : EqR X.K C ts cs) (F : FnOk X.prog X.w X.K X.mg X.base (L2.CX X.prog X.w) k f fd ps (spD B 2 m)) (hr : Room (k + 1) X.A) (hb : Binds X.K fd ps []) (ha : DE X B W a ma) (hb' : DE X B W b mb) (hm : behindInMarks .NotEq b = false := by first | exact nobehind _ (by decide) (by decide) | rfl) :
    DT X B W (.Compare a [.NotEq] [b] pos) (mLft (mEqO C ts cs m true ma mb) asB) := PT.imp (pt_cmpR (op_neO hC.hK EC ER F hr hb hC.pass) ha hb' hm) (tTest_of tEq_of)
end
end DL

-- DPen
set_option maxHeartbeats 4000000
/-! DPen: what draws -/
namespace DL
open PySem PySem.Spec PyProof.Rows L2

def intsD (ns : List Int) : List D := ns.map D.int
theorem intsD_rep {B : Bs} {G : Hp} : ∀ ns : List Int, Reps B G (intsD ns) (ns.map V.int)
  | [] => .nil
  | n :: ns => .cons rfl (intsD_rep ns)
def penAt (P : Pen) : Nat → Option D
  | 0 => some (.lst (intsD P.cells))
  | 1 => some (.int P.turn)
  | 2 => some (.int P.rest)
  | _ => none
/-- pen[i] -/
def mPen (j i : Nat) : M D := fun z => match z.S[j]? with
  | some (.va .pen) => match penAt z.P i with
    | some d => some (.ok d, z)
    | none => none
  | _ => none
def putP (P : Pen) (v : Int) : Nat → Option Pen
  | 1 => some { P with turn := v }
  | 2 => some { P with rest := v }
  | _ => none
/-- pen[i] = e -/
def mPenS (j i : Nat) (m : M D) : M Fl := bnd m fun d => fun z => match d with
  | .int v => match z.S[j]? with
    | some (.va .pen) => match putP z.P v i with
      | some P => some (.ok .nx, ⟨z.S, P⟩)
      | none => none
    | _ => none
  | _ => none
section
variable {X : Cx} {B : Bs} {W : XK} {pos cp : Pos} {o e : Expr} {m : M D} {i j c : Nat}
theorem mPen_ok {z z' : Z} {r : Rs D} (h : mPen j i z = some (r, z')) : z.S[j]? = some (.va .pen) ∧ ∃ d, penAt z.P i = some d ∧ r = .ok d ∧ z' = z := by
  unfold mPen at h
  split at h
  · rename_i hs
    split at h
    · rename_i d hd
      injection h with h
      injection h with h1 h2
      exact ⟨hs, d, hd, h1.symm, h2.symm⟩
    · cases h
  · cases h
theorem pen_rd {G H : Hp} {P : Pen} {a : Addr} {d : D} (pn : PenOk B G H P) (hp : B.p = some a) (h : penAt P i = some d) : ∃ v xs, H a = some (.lst xs) ∧ atI xs (i : Nat) = some v ∧ Rep B G d v := by
  obtain ⟨c, h1, h2, _⟩ := pn.pen a hp
  match i, h with
  | 0, h => cases h; exact ⟨_, _, h1, rfl, c, _, rfl, h2, intsD_rep _⟩
  | 1, h => cases h; exact ⟨_, _, h1, rfl, rfl⟩
  | 2, h => cases h; exact ⟨_, _, h1, rfl, rfl⟩
theorem de_pen (ho : PE X o (tVar j)) (hs : PlainIx (.Constant (.int (i : Nat)) c cp) := by exact fun _ _ => rfl) : DE X B W (.Subscript o (.Constant (.int (i : Nat)) c cp) pos) (mPen j i) :=
  PE.imp (pe_ix (ix_list) ho pe_int hs) fun σ H Q ⟨G0, H0, G, z, r, z', R, hm, hA⟩ => by
    obtain ⟨hj, d, hd, rfl, rfl⟩ := mPen_ok hm
    obtain ⟨v, h1, a, h2, rfl⟩ := R.va j _ hj
    obtain ⟨w, xs, p1, p2, p3⟩ := pen_rd R.pen h2 hd
    exact ⟨_, h1, a, xs, _, w, rfl, rfl, .inl (.inl p1), p2, hA G H R (Same.refl _) w p3⟩
/-- what draws is turned -/
theorem Rel.turn {G0 H0 G H : Hp} {z : Z} {σ : Sg} {a : Addr} {P' : Pen} {xs : List V} (R : Rel B G0 H0 z G H σ) (hp : B.p = some a) (ha : H a = some (.lst xs)) (hq : ∃ c, xs = [.ref c, .int P'.turn, .int P'.rest] ∧ G c = some (.lst (P'.cells.map V.int))) {ys : List V} (hy : ∃ c, ys = [.ref c, .int P'.turn, .int P'.rest] ∧ G c = some (.lst (P'.cells.map V.int))) : True := trivial
theorem Rel.pens {G0 H0 G H : Hp} {z : Z} {σ : Sg} {a c : Addr} {P' : Pen} (R : Rel B G0 H0 z G H σ) (hp : B.p = some a) (hc : G c = some (.lst (P'.cells.map V.int))) : Rel B G0 H0 ⟨z.S, P'⟩ G (upd H a (.lst [.ref c, .int P'.turn, .int P'.rest])) σ := by
  obtain ⟨c0, h1, h2, h3⟩ := R.pen.pen a hp
  have notcold : ∀ b, B.cold b → b ≠ a := fun b hb z => hb.1 (by rw [z]; exact hp)
  refine ⟨fun b u q => by rw [upd_ne (ne_of_none q h3)]; exact R.ex _ _ q, R.g0, fun b u q hb => by rw [upd_ne (notcold b hb)]; exact R.fr b u q hb, R.nw, ⟨fun b e => ?_, R.pen.gT, ?_⟩, R.va, fun i d q => ?_, R.ap⟩
  · rw [hp] at e
    cases e
    exact ⟨c, upd_same, hc, h3⟩
  · refine fun p hpT => ?_
    obtain ⟨ps, e1, e2, e3⟩ := R.pen.tab p hpT
    have n1 : p.1 ≠ a := fun z => by rw [z, h1] at e1; cases e1
    refine ⟨ps, by rw [upd_ne n1]; exact e1, e2, fun pos cv hcv => ?_⟩
    obtain ⟨c1, c2, c3⟩ := e3 pos cv hcv
    have n2 : c1 ≠ a := fun z => by rw [z, h1] at c3; exact codeO_lst (Option.some.inj c3).symm
    exact ⟨c1, c2, by rw [upd_ne n2]; exact c3⟩
  · obtain ⟨b, u, q1, q2, q3, q4, q5, q6⟩ := R.ow i d q
    exact ⟨b, u, q1, by rw [upd_ne (notcold b q6)]; exact q2, q3, q4, q5, q6⟩
theorem mPenS_ok {d : D} {z z' : Z} {r : Rs Fl} (h : (match d with
  | .int v => match z.S[j]? with
    | some (.va .pen) => match putP z.P v i with
      | some P => some (Except.ok Fl.nx, (⟨z.S, P⟩ : Z))
      | none => none
    | _ => none
  | _ => none) = some (r, z')) : ∃ v P, d = .int v ∧ z.S[j]? = some (.va .pen) ∧ putP z.P v i = some P ∧ r = .ok .nx ∧ z' = ⟨z.S, P⟩ := by
  split at h
  · split at h
    · rename_i hs
      split at h
      · rename_i P hP
        injection h with h
        injection h with h1 h2
        exact ⟨_, P, rfl, hs, hP, h1.symm, h2.symm⟩
      · cases h
    · cases h
  · cases h
theorem ds_penS (ho : PE X o (tVar j)) (he : DE X B W e m) (ha : ∀ v, assign (.Subscript o (.Constant (.int (i : Nat)) c cp) pos) X.env v = (do
      let ov ← holding [v] (eval o X.env)
      let iv ← holding [v, ov] (eval (.Constant (.int (i : Nat)) c cp) X.env)
      standAt pos
      holding [v, ov, iv] (setItem ov iv v)
      release [v, ov, iv] []) := by intro _; rfl) {p2 : Pos}
    (hs : swapsWithSole [.Subscript o (.Constant (.int (i : Nat)) c cp) pos] e p2.line X.env = pure false := by rfl) (hw : swappedStores [.Subscript o (.Constant (.int (i : Nat)) c cp) pos] e X.env = pure none := by rfl)
    (h1 : (assignEach [.Subscript o (.Constant (.int (i : Nat)) c cp) pos] X.env).map (·.2) = [assign (.Subscript o (.Constant (.int (i : Nat)) c cp) pos) X.env] := by rfl) :
    DS X B W (.Assign [.Subscript o (.Constant (.int (i : Nat)) c cp) pos] e p2) (mPenS j i m) := PS.imp (ps_asg he (pg_sub ho pe_int set_list ha) hs hw h1) fun E σ H ⟨G0, H0, G, z, r, z', R, hm, hA⟩ => by
  obtain ⟨r1, z1, m1, A1⟩ := AfS.bnd (K := fun d G1 H1 => ∀ v, Rep B G1 d v → tVar j σ H1 fun o H2 => tC (.int (i : Nat)) σ H2 fun k H3 => rSetL o k v H3 fun H4 => E.nx σ H4) hm hA fun d z1 G1 H1 R1 s1 hm hA v q1 => by
    obtain ⟨w, P', rfl, hj, hP, rfl, rfl⟩ := mPenS_ok hm
    cases q1
    obtain ⟨v, p1, a, p2, rfl⟩ := R1.va j _ hj
    obtain ⟨c0, h1, h2, _⟩ := R1.pen.pen a p2
    refine ⟨_, p1, a, _, _, i, rfl, rfl, h1, ?_, ?_⟩
    · match i, hP with
      | 1, _ => rfl
      | 2, _ => rfl
    · match i, hP with
      | 1, hP =>
        cases hP
        exact hA σ G1 _ .refl (R1.pens (c := c0) p2 h2) (Same.refl _)
      | 2, hP =>
        cases hP
        exact hA σ G1 _ .refl (R1.pens (c := c0) p2 h2) (Same.refl _)
  exact ⟨G0, H0, G, z, r1, z1, R, m1, A1⟩
end

/-! ### a def that is one return of a new list -/
def spO (B : Bs) (n : Nat) (m : Mf) : Sp := fun vs H Q _ => vs.length = n ∧ ∃ G P ds d P', Same G H ∧ PenOk B G H P ∧ Reps B G ds vs ∧ m ds P = some (.ok d, P') ∧
  ∀ a o G' H', GrowP B G H G' H' P' → H' a = some o → G' a = none → H a = none → B.cold a → OwR B G' o d → Q (.ref a) H'
section
variable {P : Program} {w : World} {K : PySem.W.Frag} {mg : Str → Option Value} {base : Heap} {B : Bs}
theorem fn_O {x qual : Str} {st : Stmt} {f : Addr} {fd : FuncData} {N ps : List Str} {k : Nat} {m : M D} {e : Expr} {pos : Pos} (F : Fun K x qual st f fd) (S : FnScope N ps (defScope st)) (hB : B.K = K) (hb : defBody st = [.Return (some e) pos])
    (hbody : ∀ (cdv : Value) (A : Around) (outer : List Env) (s : Shared) (H : Hp) (E : XK), Bd (cxOf (L2.CX P w) P w K mg base N qual (defScope st) f cdv A outer s H E) B E k → DO (cxOf (L2.CX P w) P w K mg base N qual (defScope st) f cdv A outer s H E) B E e m) :
    FnOk P w K mg base (L2.CX P w) (k + 1) f fd ps (spO B ps.length fun ds P => (m (z0 N.length ds P)).map fun p => (p.1, p.2.P)) :=
  F.okX S (fun vs H Q E h => h.1) fun cdv A outer s H vs Q E hr h => by
    have tk : Takes (cxOf (L2.CX P w) P w K mg base N qual (defScope st) f cdv A outer s H E) (fun c d _ H => E c d H) := takes_of rfl rfl rfl rfl
    have hd := hbody cdv A outer s H E ⟨⟨hB, rfl, S.nd, passes_call tk fun _ _ _ _ h => h⟩, hr, passes_of rfl, tk⟩
    refine ⟨_, by rw [hb]; exact pss_one (ps_ret hd), ?_⟩
    obtain ⟨hl, G, P, ds, d, P', sg, pn, rp, hm, hA⟩ := h
    have hm : (m (z0 N.length ds P)).map (fun p => (p.1, p.2.P)) = some (.ok d, P') := hm
    cases e1 : m (z0 N.length ds P) with
    | none => rw [e1] at hm; cases hm
    | some q =>
      obtain ⟨r1, z1⟩ := q
      rw [e1] at hm
      injection hm with hm
      injection hm with q1 q2
      have q1 : r1 = .ok d := q1
      have q2 : z1.P = P' := q2
      subst q1 q2
      exact ⟨G, H, G, _, _, z1, Rel.start sg pn rp, e1, fun G' H' R s a o h1 h2 h3 h4 _ h6 => hA a o G' H' R.done h1 h2 h3 h4 h6⟩
end
end DL

-- DSlice
set_option maxHeartbeats 4000000
/-! DSlice: xs[a:b] -/
namespace DL
open PySem PySem.Spec PyProof.Rows L2

def cutL {α : Type} (xs : List α) (lo hi : Option Int) : List α := (xs.drop (HT.sIx xs.length 0 lo)).take (HT.sIx xs.length xs.length hi - HT.sIx xs.length 0 lo)
def cutD (d : D) (lo hi : Option Int) : Option D := match d with
  | .lst xs => some (.lst (cutL xs lo hi))
  | .scr xs => some (.lst (cutL xs lo hi))
  | .tup xs => if HT.sIx xs.length 0 lo = 0 ∧ HT.sIx xs.length xs.length hi = xs.length then none else some (.tup (cutL xs lo hi))
  | _ => none
def intO : D → Option (Option Int)
  | .int i => some (some i)
  | _ => none
def mSl (ma : M D) (ml mh : M (Option Int)) : M D := bnd ma fun d => bnd ml fun l => bnd mh fun h => lft (cutD d l h)
theorem Reps.cut {B : Bs} {G : Hp} {ds : List D} {vs : List V} (h : Reps B G ds vs) (lo hi : Option Int) : Reps B G (cutL ds lo hi) (cutV vs lo hi) := by
  unfold cutL cutV
  rw [h.length]
  exact (h.drop _).take _
def tPo (B : Bs) (W : XK) (m : M (Option Int)) : TO := fun σ H Q => ∃ G0 H0 G z r z', Rel B G0 H0 z G H σ ∧ m z = some (r, z') ∧ After B W G0 H0 G σ r z' fun o _ H' => Q o H'
section
variable {X : Cx} {B : Bs} {W : XK} {pos p2 : Pos} {a e : Expr} {lo hi : Option Expr} {ma m : M D} {ml mh : M (Option Int)}
theorem PO.imp {o : Option Expr} {t t' : TO} (h : PO X o t) (i : ∀ σ H Q, t' σ H Q → t σ H Q) : PO X o t' := ⟨fun pins s σ H Q I q => h.run pins s σ H Q I (i _ _ _ q)⟩
theorem dpo_none : PO X none (tPo B W (ret none)) := PO.imp po_none fun σ H Q ⟨G0, H0, G, z, r, z', R, hm, hA⟩ => by
  obtain ⟨rfl, rfl⟩ := ret_ok hm
  exact hA G H R (Same.refl _)
theorem dpo_some (h : DE X B W e m) : PO X (some e) (tPo B W (mLft m intO)) := PO.imp (po_some h) fun σ H Q ⟨G0, H0, G, z, r, z', R, hm, hA⟩ => by
  obtain ⟨r1, z1, m1, A1⟩ := After.bnd (K := fun d G1 H1 => ∀ v, Rep B G1 d v → ∃ i, v = .int i ∧ Q (some i) H1) hm hA fun d z1 G1 H1 R1 s1 hm hA v q1 => by
    obtain ⟨o, hf, rfl, rfl⟩ := lft_ok hm
    cases d with
    | int i => cases hf; cases q1; exact ⟨_, rfl, hA G1 H1 R1 (Same.refl _)⟩
    | _ => cases hf
  exact ⟨G0, H0, G, z, r1, z1, R, m1, A1⟩
/-- either kind of slice -/
theorem sl_or {r r' : V → Option Int → Option Int → Hp → VK → Prop} (h : SlR X r) (h' : SlR X r') : SlR X (fun x l u H Q => r x l u H Q ∨ r' x l u H Q) := by
  intro pins s σ H x v vl vu lo hi sl Q I rx hs pl pu q
  rcases q with q | q
  · exact h pins s σ H x v vl vu lo hi sl Q I rx hs pl pu q
  · exact h' pins s σ H x v vl vu lo hi sl Q I rx hs pl pu q
theorem de_slice (hC : Ctx X B W) (ha : DE X B W a ma) (hl : PO X lo (tPo B W ml)) (hh : PO X hi (tPo B W mh)) : DE X B W (.Subscript a (.Slice lo hi none p2) pos) (mSl ma ml mh) :=
  PE.imp (pe_slice (sl_or sl_list sl_tup) ha hl hh) fun σ H Q ⟨G0, H0, G, z, r, z', R, hm, hA⟩ => by
    obtain ⟨r1, z1, m1, A1⟩ := After.bnd (K := fun d G1 H1 => ∀ v, Rep B G1 d v → tPo B W ml σ H1 fun l H2 => tPo B W mh σ H2 fun u H3 => (rSlL X.K v l u H3 Q ∨ rSlT X.K v l u H3 Q)) hm hA fun d z1 G1 H1 R1 s1 hm hA v q1 => by
      obtain ⟨r2, z2, m2, A2⟩ := After.bnd (K := fun l G2 H2 => tPo B W mh σ H2 fun u H3 => (rSlL X.K v l u H3 Q ∨ rSlT X.K v l u H3 Q)) hm hA fun l z2 G2 H2 R2 s2 hm hA => by
        obtain ⟨r3, z3, m3, A3⟩ := After.bnd (K := fun u G3 H3 => (rSlL X.K v l u H3 Q ∨ rSlT X.K v l u H3 Q)) hm hA fun u z3 G3 H3 R3 s3 hm hA => by
          obtain ⟨y, hf, rfl, rfl⟩ := lft_ok hm
          have q3 := Rep.mono (s2.trans s3) _ _ q1
          cases d with
          | lst xs =>
            cases hf
            obtain ⟨a, vs, rfl, h1, h2⟩ := q3
            refine .inl ⟨a, vs, rfl, .inl (.inl (R3.ex _ _ h1)), fun p np => ?_⟩
            have g := Grow.new (o := .lst (cutV vs l u)) R3.ex np
            exact hA _ _ (R3.grow g) g.g _ ⟨p, _, rfl, upd_same, Reps.mono g.g _ _ (h2.cut l u)⟩
          | scr xs =>
            cases hf
            obtain ⟨a, vs, rfl, h1, h2⟩ := q3
            rw [hC.hK] at h1
            refine .inl ⟨a, vs, rfl, sqL_mono R3.ex h1, fun p np => ?_⟩
            have g := Grow.new (o := .lst (cutV vs l u)) R3.ex np
            exact hA _ _ (R3.grow g) g.g _ ⟨p, _, rfl, upd_same, Reps.mono g.g _ _ (h2.cut l u)⟩
          | tup xs =>
            unfold cutD at hf
            simp only at hf
            split at hf
            · cases hf
            · rename_i hw
              cases hf
              obtain ⟨a, vs, rfl, h1, h2⟩ := q3
              rw [hC.hK] at h1
              refine .inr ⟨a, vs, rfl, sqT_mono R3.ex h1, by rw [← h2.length]; exact hw, fun p np => ?_⟩
              have g := Grow.new (o := .tup (cutV vs l u)) R3.ex np
              exact hA _ _ (R3.grow g) g.g _ ⟨p, _, rfl, .inl (.inl upd_same), Reps.mono g.g _ _ (h2.cut l u)⟩
          | _ => cases hf
        exact ⟨G0, H0, G2, z2, r3, z3, R2, m3, A3⟩
      exact ⟨G0, H0, G1, z1, r2, z2, R1, m2, A2⟩
    exact ⟨G0, H0, G, z, r1, z1, R, m1, A1⟩
end
end DL

-- DSetLc
set_option maxHeartbeats 4000000
/-! DSetLc: name = [..] on one line; lengths of argument lists -/
namespace DL
open PySem PySem.Spec PyProof.Rows L2

section
variable {X : Cx} {B : Bs} {W : XK} {pos spos py : Pos} {tg iter elt c : Expr} {ms : M (List D)} {mt : M Bool} {me m : M D} {f : D → Z → Option Z} {scope : Scope} {own : List (Str × Nat)} {i : Nat} {y : Str}
theorem tO_tD (σ : Sg) (H : Hp) (Q : VK) (h : tD B W m σ H Q) : tO B W m σ H Q := by
  obtain ⟨G0, H0, G, z, r, z', R, hm, hA⟩ := h
  refine ⟨G0, H0, G, z, r, z', R, hm, ?_⟩
  cases r with
  | error x => exact hA
  | ok d =>
    intro G' H' R' s a o h1 h2 h3 h4 h5 h6
    obtain ⟨t1, t2, t3⟩ := R'.tell h1 h2 h3 h4 h5 h6
    exact hA _ _ t3 (s.trans t1) _ t2
theorem ds_setLc (hc : Ctx X B W) (hy : X.N[i]? = some y) (hyl : X.env.scope.names.lookup y = some .local) (hsw : swapsWith (.ListComp elt [⟨tg, iter, [], 0⟩] scope pos) (some (.Name y py)) spos.line X.env = pure true)
    (hi : DI X B W tg iter ms) (ok : BlkOk X.N X.env.scope scope own)
    (hg : ∀ (s : Shared) (H : Hp) (C : Addr) (cl : List (Str × Addr)) (fp : List Addr), Ctx (X.blk s H scope (compEnvC scope cl C X.env) fp) B XF → DG (X.blk s H scope (compEnvC scope cl C X.env) fp) B (own.map (·.2)) tg f)
    (he : ∀ (s : Shared) (H : Hp) (C : Addr) (cl : List (Str × Addr)) (fp : List Addr), Ctx (X.blk s H scope (compEnvC scope cl C X.env) fp) B XF → DE (X.blk s H scope (compEnvC scope cl C X.env) fp) B XF elt me) (hs : ∀ x, foldedSetIterable iter X.env x = pure x := by intro _; rfl)
    (h0 : i ≠ 0 ∨ meOf X = false := by first | exact .inl (by decide) | exact .inr rfl) :
    DS X B W (.Assign [.Name y py] (.ListComp elt [⟨tg, iter, [], 0⟩] scope pos) spos) (mSet i (mLc (own.map (·.2)) ms f mYes me)) :=
  PS.impL (ps_setLc hc.calm hc.nd hy hyl hsw hi ok (fun s H C cl fp => hg s H C cl fp hc.blk) (fun _ _ _ _ _ => pts_nil) (fun s H C cl fp => he s H C cl fp hc.blk) hs) fun E σ H hl h => asg_r h0 (lt_of hy hl) (fun σ H Q h => tLc_of (fun _ _ _ h => h) yes_t σ H Q (tO_tD σ H Q h)) h
theorem ds_setLcIf (hc : Ctx X B W) (hy : X.N[i]? = some y) (hyl : X.env.scope.names.lookup y = some .local) (hsw : swapsWith (.ListComp elt [⟨tg, iter, [c], 0⟩] scope pos) (some (.Name y py)) spos.line X.env = pure true)
    (hi : DI X B W tg iter ms) (ok : BlkOk X.N X.env.scope scope own)
    (hg : ∀ (s : Shared) (H : Hp) (C : Addr) (cl : List (Str × Addr)) (fp : List Addr), Ctx (X.blk s H scope (compEnvC scope cl C X.env) fp) B XF → DG (X.blk s H scope (compEnvC scope cl C X.env) fp) B (own.map (·.2)) tg f)
    (ht : ∀ (s : Shared) (H : Hp) (C : Addr) (cl : List (Str × Addr)) (fp : List Addr), Ctx (X.blk s H scope (compEnvC scope cl C X.env) fp) B XF → DT (X.blk s H scope (compEnvC scope cl C X.env) fp) B XF c mt)
    (he : ∀ (s : Shared) (H : Hp) (C : Addr) (cl : List (Str × Addr)) (fp : List Addr), Ctx (X.blk s H scope (compEnvC scope cl C X.env) fp) B XF → DE (X.blk s H scope (compEnvC scope cl C X.env) fp) B XF elt me) (hs : ∀ x, foldedSetIterable iter X.env x = pure x := by intro _; rfl)
    (h0 : i ≠ 0 ∨ meOf X = false := by first | exact .inl (by decide) | exact .inr rfl) :
    DS X B W (.Assign [.Name y py] (.ListComp elt [⟨tg, iter, [c], 0⟩] scope pos) spos) (mSet i (mLc (own.map (·.2)) ms f mt me)) :=
  PS.impL (ps_setLc hc.calm hc.nd hy hyl hsw hi ok (fun s H C cl fp => hg s H C cl fp hc.blk) (fun s H C cl fp => pts_one (ht s H C cl fp hc.blk)) (fun s H C cl fp => he s H C cl fp hc.blk) hs) fun E σ H hl h => asg_r h0 (lt_of hy hl) (fun σ H Q h => tLc_of (fun _ _ _ h => h) (fun _ _ _ h => h) σ H Q (tO_tD σ H Q h)) h
end

/-! ### how many values an argument list gives -/
def Ln (ms : M (List D)) (n : Nat) : Prop := ∀ z xs z', ms z = some (.ok xs, z') → xs.length = n
theorem Ln.nil : Ln mNil 0 := fun z xs z' h => by
  obtain ⟨q, _⟩ := ret_ok h
  cases q
  rfl
theorem Ln.cons {m : M D} {ms : M (List D)} {n : Nat} (h : Ln ms n) : Ln (mCons m ms) (n + 1) := fun z xs z' q => by
  rcases bnd_ok q with ⟨d, z1, _, q⟩ | ⟨x, _, e⟩
  · rcases bnd_ok q with ⟨ds, z2, m2, q⟩ | ⟨x, _, e⟩
    · obtain ⟨q, _⟩ := ret_ok q
      cases q
      rw [List.length_cons, h _ _ _ m2]
    · cases e
  · cases e

/-! ### code that the plain function does not follow -/
def mNone {α : Type} : M α := fun _ => none
theorem de_none {X : Cx} {B : Bs} {W : XK} {e : Expr} : DE X B W e mNone := ⟨fun pins s σ H Q I ⟨G0, H0, G, z, r, z', R, hm, hA⟩ => by cases hm⟩
theorem ds_none {X : Cx} {B : Bs} {W : XK} {st : Stmt} : DS X B W st mNone := ⟨fun pins s σ H Q I ⟨G0, H0, G, z, r, z', R, hm, hA⟩ => by cases hm⟩
theorem dss_none {X : Cx} {B : Bs} {W : XK} {sts : List Stmt} : DSs X B W sts mNone := ⟨fun pins s σ H Q I ⟨G0, H0, G, z, r, z', R, hm, hA⟩ => by cases hm⟩
/-! ### isinstance with several classes -/
def anyB (a : String) : List String → Option Bool
  | [] => some false
  | n :: ns => match kitB a n with
    | some true => some true
    | some false => anyB a ns
    | none => none
theorem kitAny_ty {K : PySem.W.Frag} {a : String} : ∀ {ns : List String} {r : Bool}, anyB a ns = some r → PySem.W.kitAny K (.type a) (ns.map Value.type) = some r
  | [], r, h => h
  | n :: ns, r, h => by
    unfold anyB at h
    cases e : kitB a n with
    | none => rw [e] at h; cases h
    | some b =>
      rw [e] at h
      refine kitAny_cons (kit_ty e) (fun hb => ?_) (fun hb => ?_)
      · subst hb; exact kitAny_ty h
      · subst hb; cases h; rfl
theorem kitAny_no {K : PySem.W.Frag} {t : Value} : ∀ {us : List Value}, (∀ u ∈ us, PySem.W.kitOne K t u = some false) → PySem.W.kitAny K t us = some false
  | [], _ => rfl
  | u :: us, h => kitAny_cons (h u List.mem_cons_self) (fun _ => kitAny_no fun v hv => h v (List.mem_cons_of_mem _ hv)) (fun hb => by cases hb)
end DL

-- DRawZ
set_option maxHeartbeats 2000000
/-! DRawZ: zip(*rows) of rows that are tuples, drawn to its end by list() -/
namespace DL
open PySem RZ
open PySem.Sem (wp)

/-- a source: its iterator, the tuple, the items -/
structure ZL where
  it : Addr
  src : Addr
  xs : List Value
abbrev IsZp (h : Heap) (z TI TO : Addr) (f0 f1 : Value) : Prop :=
  h.get? z = some { cls := .type "zip", dict := none, data := .fields #[f0, f1, .bool false, .ref TI, .ref TO], slots := #[] }
abbrev IsTp (h : Heap) (T : Addr) (vs : List Value) : Prop := h.get? T = some { cls := .type "tuple", data := .seq vs.toArray }
def valAt (k : Nat) (p : ZL) : Value := p.xs.getD k .none
def ItsAt (h : Heap) (k : Nat) (L : List ZL) : Prop := ∀ p ∈ L, h.IsTupleIter p.it p.src k
def Srcs (h : Heap) (L : List ZL) : Prop := ∀ p ∈ L, h.IsTuple p.src p.xs.toArray
structure Ap (z TI TO : Addr) (L : List ZL) : Prop where
  TIz : TI ≠ z
  TOz : TO ≠ z
  TITO : TI ≠ TO
  nd : (L.map (·.it)).Nodup
  it : ∀ p ∈ L, p.it ≠ z ∧ p.it ≠ TI ∧ p.it ≠ TO
  src : ∀ p ∈ L, p.src ≠ z ∧ p.src ≠ TO ∧ p.src ∉ L.map (·.it)

theorem isIter_keep {h h' : Heap} {i a : Addr} {k : Nat} (x : h.IsTupleIter i a k) (hk : ∀ o, h.get? i = some o → h'.get? i = some o) : h'.IsTupleIter i a k :=
  let ⟨o, ho, r⟩ := x; ⟨o, hk o ho, r⟩
theorem isTup_keep {h h' : Heap} {a : Addr} {xs : Array Value} (x : h.IsTuple a xs) (hk : ∀ o, h.get? a = some o → h'.get? a = some o) : h'.IsTuple a xs :=
  let ⟨o, ho, r⟩ := x; ⟨o, hk o ho, r⟩
section
variable {prog : Program} {w : World} {A : Around}
theorem wpAny_loadIfAlive {M : Model} {E : Value → Shared → Prop} {s : Shared} {a : Addr} {Q : Option Obj → Shared → Prop} (h : Q (s.heap.get? a) s) : wpAny M A (loadIfAlive a) Q E s := fun Γ p _ => by
  show Sem.wp _ Γ (.loadIfAlive a .pure) _ _ _ _
  rw [Sem.wp_loadIfAlive]
  exact h
theorem getD_val {k : Nat} {p : ZL} (h : k < p.xs.length) : p.xs.toArray[k]? = some (valAt k p) := by
  unfold valAt
  simp [h, List.getD]
/-- the second kind of turn: a new tuple each time -/
theorem loop2 {E : Value → Shared → Prop} {k : Nat} {f : Value → Option Fin × Array Value → Sem (ForInStep (Option Fin × Array Value))}
    (hf : ∀ (it : Value) (acc : Array Value) (Q : ForInStep (Option Fin × Array Value) → Shared → Prop) (E : Value → Shared → Prop) (s : Shared), wpAny (model prog w) A (Builtin.SmallTypes.nextOf it) (fun x => Q (.yield (none, acc.push x))) E s → wpAny (model prog w) A (f it (none, acc)) Q E s) :
    ∀ (L : List ZL) (acc : Array Value) (s : Shared) (Q : Option Fin × Array Value → Shared → Prop), (L.map (·.it)).Nodup → (∀ p ∈ L, p.src ∉ L.map (·.it)) → ItsAt s.heap k L → Srcs s.heap L → (∀ p ∈ L, k < p.xs.length) →
      (∀ h', ItsAt h' (k + 1) L → h'.objs.size = s.heap.objs.size → (∀ c o, c ∉ L.map (·.it) → s.heap.get? c = some o → h'.get? c = some o) → Q (none, acc ++ (L.map (valAt k)).toArray) { s with heap := h' }) →
      wpAny (model prog w) A (forIn (L.map fun p => Value.ref p.it) (none, acc) f) Q E s
  | [], acc, s, Q, _, _, _, _, _, hQ => by
    show wpAny _ _ (forIn [] _ _) _ _ _
    rw [List.forIn_nil]
    refine wpAny_pure ?_
    have := hQ s.heap (fun p hp => by cases hp) rfl fun c o _ e => e
    simpa using this
  | p :: L, acc, s, Q, nd, ns, hI, hS, hk, hQ => by
    show wpAny _ _ (forIn (Value.ref p.it :: L.map fun p => Value.ref p.it) _ _) _ _ _
    rw [List.forIn_cons]
    have nd' := List.nodup_cons.mp nd
    refine wpAny_bind (hf _ _ _ _ _ (nextOf_tuple_item (hI p List.mem_cons_self) (hS p List.mem_cons_self) (getD_val (hk p List.mem_cons_self)) fun h₁ h1₁ hs₁ => ?_))
    have ne : ∀ q ∈ L, q.it ≠ p.it := fun q hq e => nd'.1 (List.mem_map.mpr ⟨q, hq, e⟩)
    refine loop2 hf L (acc.push (valAt k p)) { s with heap := h₁ } Q nd'.2 (fun q hq z => ns q (List.mem_cons_of_mem _ hq) (List.mem_cons_of_mem _ z)) (fun q hq => isIter_keep (hI q (List.mem_cons_of_mem _ hq)) fun o e => hs₁.extBut _ _ (ne q hq) e)
      (fun q hq => isTup_keep (hS q (List.mem_cons_of_mem _ hq)) fun o e => hs₁.extBut _ _ (fun z => ns q (List.mem_cons_of_mem _ hq) (by rw [z]; exact List.mem_cons_self)) e) (fun q hq => hk q (List.mem_cons_of_mem _ hq)) fun h' a1 a2 a3 => ?_
    have := hQ h' (fun q hq => by
      rcases List.mem_cons.mp hq with e | e
      · subst e
        exact isIter_keep h1₁ fun o e => a3 _ o nd'.1 e
      · exact a1 q e) (a2.trans hs₁.1) fun c o hc e => a3 c o (fun z => hc (List.mem_cons_of_mem _ z)) (hs₁.extBut _ _ (fun z => hc (by rw [z]; exact List.mem_cons_self)) e)
    simpa using this
/-- the first turn: the zip's own tuple is filled -/
theorem loop1 {E : Value → Shared → Prop} {k : Nat} {TO : Addr} {f : Value × Nat → Option Fin × Unit → Sem (ForInStep (Option Fin × Unit))}
    (hf : ∀ (it : Value) (j : Nat) (Q : ForInStep (Option Fin × Unit) → Shared → Prop) (E : Value → Shared → Prop) (s : Shared), wpAny (model prog w) A (Builtin.SmallTypes.nextOf it)
      (fun x s' => ∃ vs, IsTp s'.heap TO vs ∧ vs.length ≤ sizeLine ∧ ∀ h', IsTp h' TO (vs.set j x) → Heap.SameBut TO s'.heap h' → Q (.yield (none, ())) { s' with heap := h' }) (fun _ _ => False) s → wpAny (model prog w) A (f (it, j) (none, ())) Q E s) :
    ∀ (L : List ZL) (pre olds : List Value) (s : Shared) (Q : Option Fin × Unit → Shared → Prop), (L.map (·.it)).Nodup → (∀ p ∈ L, p.src ∉ L.map (·.it)) → (∀ p ∈ L, p.src ≠ TO) → (∀ p ∈ L, p.it ≠ TO) → ItsAt s.heap k L → Srcs s.heap L → (∀ p ∈ L, k < p.xs.length) →
      IsTp s.heap TO (pre ++ olds) → olds.length = L.length → (pre ++ olds).length ≤ sizeLine →
      (∀ h', ItsAt h' (k + 1) L → IsTp h' TO (pre ++ L.map (valAt k)) → h'.objs.size = s.heap.objs.size → (∀ c o, c ≠ TO → c ∉ L.map (·.it) → s.heap.get? c = some o → h'.get? c = some o) → Q (none, ()) { s with heap := h' }) →
      wpAny (model prog w) A (forIn ((L.map fun p => Value.ref p.it).zipIdx pre.length) (none, ()) f) Q E s
  | [], pre, olds, s, Q, _, _, _, _, _, _, _, hT, ho, _, hQ => by
    show wpAny _ _ (forIn [] _ _) _ _ _
    rw [List.forIn_nil]
    have e0 : olds = [] := List.length_eq_zero_iff.mp ho
    subst e0
    exact wpAny_pure (hQ s.heap (fun p hp => by cases hp) hT rfl fun c o _ _ e => e)
  | p :: L, pre, [], s, Q, _, _, _, _, _, _, _, _, ho, _, _ => by simp at ho
  | p :: L, pre, y :: olds, s, Q, nd, ns, nT, iT, hI, hS, hk, hT, ho, hz, hQ => by
    show wpAny _ _ (forIn ((Value.ref p.it, pre.length) :: (L.map fun p => Value.ref p.it).zipIdx (pre.length + 1)) _ _) _ _ _
    rw [List.forIn_cons]
    have nd' := List.nodup_cons.mp nd
    refine wpAny_bind (hf _ _ _ _ _ (nextOf_tuple_item (hI p List.mem_cons_self) (hS p List.mem_cons_self) (getD_val (hk p List.mem_cons_self)) fun h₁ h1₁ hs₁ => ?_))
    have hT₁ : IsTp h₁ TO (pre ++ y :: olds) := hs₁.extBut _ _ (Ne.symm (iT p List.mem_cons_self)) hT
    refine ⟨_, hT₁, hz, fun h₂ hT₂ hs₂ => ?_⟩
    have ne : ∀ q ∈ L, q.it ≠ p.it := fun q hq e => nd'.1 (List.mem_map.mpr ⟨q, hq, e⟩)
    have eS : (pre ++ y :: olds).set pre.length (valAt k p) = (pre ++ [valAt k p]) ++ olds := by
      rw [List.set_append_right _ _ (Nat.le_refl _)]
      simp
    rw [eS] at hT₂
    have eL : (pre ++ [valAt k p]).length = pre.length + 1 := by simp
    have r := loop1 hf (E := E) L (pre ++ [valAt k p]) olds { s with heap := h₂ } Q nd'.2 (fun q hq z => ns q (List.mem_cons_of_mem _ hq) (List.mem_cons_of_mem _ z)) (fun q hq => nT q (List.mem_cons_of_mem _ hq)) (fun q hq => iT q (List.mem_cons_of_mem _ hq))
      (fun q hq => isIter_keep (hI q (List.mem_cons_of_mem _ hq)) fun o e => hs₂.extBut _ _ (iT q (List.mem_cons_of_mem _ hq)) (hs₁.extBut _ _ (ne q hq) e))
      (fun q hq => isTup_keep (hS q (List.mem_cons_of_mem _ hq)) fun o e => hs₂.extBut _ _ (nT q (List.mem_cons_of_mem _ hq)) (hs₁.extBut _ _ (fun z => ns q (List.mem_cons_of_mem _ hq) (by rw [z]; exact List.mem_cons_self)) e))
      (fun q hq => hk q (List.mem_cons_of_mem _ hq)) hT₂ (by simpa using ho) (by simp at hz ⊢; omega) fun h' a1 a2 a3 a4 => ?_
    · rw [eL] at r
      exact r
    · refine hQ h' (fun q hq => ?_) (by simpa using a2) (a3.trans (hs₂.1.trans hs₁.1)) fun c o c1 hc e => a4 c o c1 (fun z => hc (List.mem_cons_of_mem _ z)) (hs₂.extBut _ _ c1 (hs₁.extBut _ _ (fun z => hc (by rw [z]; exact List.mem_cons_self)) e))
      rcases List.mem_cons.mp hq with e | e
      · subst e
        exact isIter_keep h1₁ fun o e => a4 _ o (iT q List.mem_cons_self) nd'.1 (hs₂.extBut _ _ (iT q List.mem_cons_self) e)
      · exact a1 q e

/-- the zip object with its iterators at k -/
structure Zt (h : Heap) (z TI TO : Addr) (L : List ZL) (k : Nat) : Prop where
  its : ItsAt h k L
  src : Srcs h L
  ti : IsTp h TI (L.map fun p => Value.ref p.it)
  to : ∃ vs : List Value, vs.length = L.length ∧ IsTp h TO vs
  zo : ∃ f0 b, IsZp h z TI TO f0 (.bool b) ∧ (f0 = .none ∨ ∃ T : Addr, f0 = rawInt T)
theorem Zt.keep {h h' : Heap} {z TI TO : Addr} {L : List ZL} {k : Nat} (t : Zt h z TI TO L k) (hk : ∀ c o, h.get? c = some o → (c = z ∨ c = TI ∨ c = TO ∨ ∃ p ∈ L, c = p.it ∨ c = p.src) → h'.get? c = some o) : Zt h' z TI TO L k where
  its := fun p hp => isIter_keep (t.its p hp) fun o e => hk _ o e (.inr (.inr (.inr ⟨p, hp, .inl rfl⟩)))
  src := fun p hp => isTup_keep (t.src p hp) fun o e => hk _ o e (.inr (.inr (.inr ⟨p, hp, .inr rfl⟩)))
  ti := hk _ _ t.ti (.inr (.inl rfl))
  to := let ⟨vs, h1, h2⟩ := t.to; ⟨vs, h1, hk _ _ h2 (.inr (.inr (.inl rfl)))⟩
  zo := let ⟨f0, b, e, r⟩ := t.zo; ⟨f0, b, hk _ _ e (.inl rfl), r⟩
theorem Zt.zh {h : Heap} {z TI TO : Addr} {L : List ZL} {k : Nat} (t : Zt h z TI TO L k) : ∃ o, h.get? z = some o ∧ o.cls = .type "zip" := by
  obtain ⟨f0, b, e, _⟩ := t.zo
  exact ⟨_, e, rfl⟩
theorem free_true {E : Value → Shared → Prop} {s : Shared} {z TI TO : Addr} {f0 : Value} {b : Bool} {Q : Bool → Shared → Prop} (hz : IsZp s.heap z TI TO f0 (.bool b)) (hf : f0 = .none ∨ ∃ T : Addr, f0 = rawInt T ∧ s.heap.get? T = none) (hQ : Q true s) :
    wpAny (model prog w) A (Builtin.SmallTypes.ownedTupleIsFree (.ref z)) Q E s := by
  unfold Builtin.SmallTypes.ownedTupleIsFree
  refine wpAny_bind (wpAny_field hz rfl (x := f0) rfl ?_)
  rcases hf with rfl | ⟨T, rfl, hT⟩
  · exact wpAny_pure hQ
  · show wpAny _ _ (loadIfAlive (T : Int).toNat >>= _) _ _ _
    rw [Int.toNat_natCast]
    refine wpAny_bind (wpAny_loadIfAlive ?_)
    rw [hT]
    exact wpAny_pure hQ
theorem free_false {E : Value → Shared → Prop} {s : Shared} {z TI TO T : Addr} {o : Obj} {b : Bool} {Q : Bool → Shared → Prop} (hz : IsZp s.heap z TI TO (rawInt T) (.bool b)) (hT : s.heap.get? T = some o)
    (hQ : ∀ h₁, IsZp h₁ z TI TO (rawInt T) (.bool true) → Heap.ExtBut z s.heap h₁ → h₁.objs.size = s.heap.objs.size → Q false { s with heap := h₁ }) :
    wpAny (model prog w) A (Builtin.SmallTypes.ownedTupleIsFree (.ref z)) Q E s := by
  unfold Builtin.SmallTypes.ownedTupleIsFree
  refine wpAny_bind (wpAny_field hz rfl (x := rawInt T) rfl ?_)
  show wpAny _ _ (loadIfAlive (T : Int).toNat >>= _) _ _ _
  rw [Int.toNat_natCast]
  refine wpAny_bind (wpAny_loadIfAlive ?_)
  rw [hT]
  simp only [Option.isNone_some, Bool.false_eq_true, if_false]
  refine wpAny_bind (wpAny_field hz rfl (x := .bool b) rfl ?_)
  cases b with
  | true => exact wpAny_pure (hQ s.heap hz (fun _ _ _ e => e) rfl)
  | false =>
    show wpAny _ _ (setField (.ref z) 1 (.bool true) >>= _) _ _ _
    exact wpAny_bind (wpAny_setField_rec hz (by simp) fun h₁ hz₁ hs₁ => wpAny_pure (hQ h₁ hz₁ hs₁.extBut hs₁.1))
theorem zo_cases {h : Heap} {z TI TO : Addr} {L : List ZL} {k : Nat} (t : Zt h z TI TO L k) : (∃ f0 b, IsZp h z TI TO f0 (.bool b) ∧ (f0 = .none ∨ ∃ T : Addr, f0 = rawInt T ∧ h.get? T = none)) ∨ ∃ (T : Addr) (b : Bool) (o : Obj), IsZp h z TI TO (rawInt T) (.bool b) ∧ h.get? T = some o := by
  obtain ⟨f0, b, e, r⟩ := t.zo
  rcases r with r | ⟨T, r⟩
  · exact .inl ⟨f0, b, e, .inl r⟩
  · subst r
    cases q : h.get? T with
    | none => exact .inl ⟨_, b, e, .inr ⟨T, rfl, q⟩⟩
    | some o => exact .inr ⟨T, b, o, e, q⟩

theorem zn_item {E : Value → Shared → Prop} {s : Shared} {z TI TO : Addr} {L : List ZL} {k : Nat} {Q : Value → Shared → Prop} (D : Ap z TI TO L) (t : Zt s.heap z TI TO L k) (hL : L ≠ [])
    (hk : ∀ p ∈ L, k < p.xs.length) (hn : L.length ≤ sizeLine)
    (hQ : ∀ h', Zt h' z TI TO L (k + 1) → IsTp h' s.heap.objs.size (L.map (valAt k)) → h'.objs.size = s.heap.objs.size + 1 →
      (∀ c o, c ≠ z → c ≠ TO → c ∉ L.map (·.it) → s.heap.get? c = some o → h'.get? c = some o) → Q (.ref s.heap.objs.size) { s with heap := h' }) :
    wpAny (model prog w) A (Builtin.«zip.__next__» ⟨[.ref z], []⟩) (fun fin s' => ∃ v, fin = .done (.ret v) ∧ Q v s') E s := by
  have nI : ∀ p ∈ L, p.it ∈ L.map (·.it) := fun p hp => List.mem_map.mpr ⟨p, hp, rfl⟩
  have zI : z ∉ L.map (·.it) := fun q => by
    obtain ⟨p, hp, e⟩ := List.mem_map.mp q
    exact (D.it p hp).1 e
  have TII : TI ∉ L.map (·.it) := fun q => by
    obtain ⟨p, hp, e⟩ := List.mem_map.mp q
    exact (D.it p hp).2.1 e
  have TOI : TO ∉ L.map (·.it) := fun q => by
    obtain ⟨p, hp, e⟩ := List.mem_map.mp q
    exact (D.it p hp).2.2 e
  have e0 : (L.map fun p => Value.ref p.it).toArray.isEmpty = false := by
    cases L with
    | nil => exact absurd rfl hL
    | cons p L => rfl
  obtain ⟨vs, hv, hTO⟩ := t.to
  rcases zo_cases t with ⟨f0, b, hz, hfree⟩ | ⟨T, b, oT, hz, hoT⟩
  · show wpAny _ _ (field (.ref z) 2 >>= _) _ _ _
    refine wpAny_bind (wpAny_field hz rfl (x := .bool false) rfl ?_)
    show wpAny _ _ (field (.ref z) 3 >>= _) _ _ _
    refine wpAny_bind (wpAny_field hz rfl (x := .ref TI) rfl ?_)
    refine wpAny_bind (wpAny_seqItems t.ti rfl ?_)
    simp only [e0]
    show wpAny _ _ (Builtin.SmallTypes.ownedTupleIsFree (.ref z) >>= _) _ _ _
    refine wpAny_bind (free_true hz hfree ?_)
    rw [if_pos rfl]
    refine wpAny_bind (wpAny_rule ?_)
    refine wpAny_bind (wpAny_field hz rfl (x := .ref TO) rfl ?_)
    refine wpAny_bind (wpAny_setField_rec hz (by simp) fun h₁ hz₁ hs₁ => ?_)
    replace hz₁ : IsZp h₁ z TI TO .ellipsis (.bool b) := hz₁
    refine wpAny_bind ?_
    refine loop1 (prog := prog) (w := w) (A := A) (E := E) (k := k) (TO := TO) (fun it j Q' E' s' hn' => ?_) L [] vs { s with heap := h₁ } _ D.nd (fun p hp => (D.src p hp).2.2) (fun p hp => (D.src p hp).2.1) (fun p hp => (D.it p hp).2.2)
      (fun p hp => isIter_keep (t.its p hp) fun o e => hs₁.extBut _ _ (D.it p hp).1 e) (fun p hp => isTup_keep (t.src p hp) fun o e => hs₁.extBut _ _ (D.src p hp).1 e) hk (hs₁.extBut _ _ D.TOz hTO) hv (by simp; omega) fun h₅ a1 a2 a3 a4 => ?_
    · refine wpAny_bind (wpAny_onRaise ?_)
      show wpAny _ _ (Builtin.SmallTypes.nextOf it >>= _) _ _ _
      refine wpAny_bind (wpAny_mono hn' (fun x s₁ ⟨us, hT₁, hu, q⟩ => wpAny_pure ?_) fun _ _ q => q.elim)
      refine wpAny_bind (wpAny_seqItems hT₁ rfl ?_)
      refine wpAny_bind (wpAny_updateSeq hT₁ rfl ?_ (by simpa using hu) (by simp; omega))
      refine wpAny_bind (wpAny_letGo (wpAny_pure (q _ ?_ (Heap.SameBut.update ..))))
      show Heap.get? _ _ = _
      rw [Heap.get?_update_self _ hT₁ rfl]
      simp [Obj.mapSeq]
    · replace a2 : IsTp h₅ TO (L.map (valAt k)) := a2
      have hsz : h₅.objs.size = s.heap.objs.size := a3.trans hs₁.1
      have hz₅ : IsZp h₅ z TI TO .ellipsis (.bool b) := a4 _ _ (Ne.symm D.TOz) zI hz₁
      have hk₅ : ∀ c o, c ≠ z → c ≠ TO → c ∉ L.map (·.it) → s.heap.get? c = some o → h₅.get? c = some o := fun c o c1 c2 c3 e => a4 _ _ c2 c3 (hs₁.extBut _ _ c1 e)
      refine wpAny_bind (wpAny_seqItems a2 rfl ?_)
      refine wpAny_bind (wpAny_newTuple ?_ (by simpa using hn))
      show wpAny _ _ (Builtin.SmallTypes.ownedTupleHandOut (.ref z) (.ref h₅.objs.size) >>= _) _ _ _
      refine wpAny_bind ?_
      unfold Builtin.SmallTypes.ownedTupleHandOut
      have hzlt : z < h₅.objs.size := Heap.lt_size hz₅
      have hz₆ : IsZp (h₅.push { cls := .type "tuple", data := .seq (L.map (valAt k)).toArray }) z TI TO .ellipsis (.bool b) := Heap.get?_push_of_some _ hz₅
      refine wpAny_bind (wpAny_setField_rec hz₆ (by simp) fun h₇ hz₇ hs₇ => ?_)
      replace hz₇ : IsZp h₇ z TI TO (rawInt h₅.objs.size) (.bool b) := hz₇
      refine wpAny_setField_rec hz₇ (by simp) fun h₈ hz₈ hs₈ => ?_
      replace hz₈ : IsZp h₈ z TI TO (rawInt h₅.objs.size) (.bool false) := hz₈
      have up : ∀ c o, c ≠ z → h₅.get? c = some o → h₈.get? c = some o := fun c o c1 e => hs₈.extBut _ _ c1 (hs₇.extBut _ _ c1 (Heap.get?_push_of_some _ e))
      have hT₈ : IsTp h₈ h₅.objs.size (L.map (valAt k)) := hs₈.extBut _ _ (Nat.ne_of_gt hzlt) (hs₇.extBut _ _ (Nat.ne_of_gt hzlt) (Heap.get?_push_size _ rfl))
      have hz8 : h₈.objs.size = h₅.objs.size + 1 := by rw [hs₈.1, hs₇.1, Heap.size_push]
      rw [hsz] at hz₈ hT₈ hz8
      refine wpAny_pure ⟨_, rfl, ?_⟩
      show Q (.ref h₅.objs.size) _
      rw [hsz]
      refine hQ h₈ ⟨fun p hp => isIter_keep (a1 p hp) fun o e => up _ o (D.it p hp).1 e, fun p hp => isTup_keep (t.src p hp) fun o e => up _ o (D.src p hp).1 (hk₅ _ _ (D.src p hp).1 (D.src p hp).2.1 (D.src p hp).2.2 e), up _ _ D.TIz (hk₅ _ _ D.TIz D.TITO TII t.ti), ⟨_, by simp, up _ _ D.TOz a2⟩, ⟨_, _, hz₈, .inr ⟨_, rfl⟩⟩⟩ hT₈ hz8
        fun c o c1 c2 c3 e => up c o c1 (hk₅ c o c1 c2 c3 e)
  · -- from a state in which the zip's second field is told
    have core : ∀ h₁ : Heap, IsZp h₁ z TI TO (rawInt T) (.bool true) → Heap.ExtBut z s.heap h₁ → h₁.objs.size = s.heap.objs.size → ∀ (f : Value → Option Fin × Array Value → Sem (ForInStep (Option Fin × Array Value))) (R : Option Fin × Array Value → Shared → Prop),
        (∀ (it : Value) (acc : Array Value) (Q : ForInStep (Option Fin × Array Value) → Shared → Prop) (E : Value → Shared → Prop) (s : Shared), wpAny (model prog w) A (Builtin.SmallTypes.nextOf it) (fun x => Q (.yield (none, acc.push x))) E s → wpAny (model prog w) A (f it (none, acc)) Q E s) →
        (∀ h₅, (∀ h₆, h₆ = h₅.push { cls := .type "tuple", data := .seq (L.map (valAt k)).toArray } → Q (.ref h₅.objs.size) { s with heap := h₆ }) → R (none, (L.map (valAt k)).toArray) { s with heap := h₅ }) →
        wpAny (model prog w) A (forIn (L.map fun p => Value.ref p.it).toArray (none, #[]) f) R E { s with heap := h₁ } := fun h₁ hz₁ hs₁ z1 f R hf hR => by
      rw [← Array.forIn_toList]
      refine loop2 (E := E) (k := k) hf L #[] { s with heap := h₁ } R D.nd (fun p hp => (D.src p hp).2.2) (fun p hp => isIter_keep (t.its p hp) fun o e => hs₁ _ _ (D.it p hp).1 e) (fun p hp => isTup_keep (t.src p hp) fun o e => hs₁ _ _ (D.src p hp).1 e) hk fun h₅ a1 a2 a3 => ?_
      have ea : (#[] : Array Value) ++ (L.map (valAt k)).toArray = (L.map (valAt k)).toArray := by simp
      rw [ea]
      refine hR h₅ fun h₆ e6 => ?_
      subst e6
      have hsz : h₅.objs.size = s.heap.objs.size := a2.trans z1
      have kp : ∀ c o, c ≠ z → c ∉ L.map (·.it) → s.heap.get? c = some o → (h₅.push { cls := .type "tuple", data := .seq (L.map (valAt k)).toArray }).get? c = some o := fun c o c1 c3 e => Heap.get?_push_of_some _ (a3 _ _ c3 (hs₁ _ _ c1 e))
      have hT : IsTp (h₅.push { cls := .type "tuple", data := .seq (L.map (valAt k)).toArray }) h₅.objs.size (L.map (valAt k)) := Heap.get?_push_size _ rfl
      rw [hsz] at hT ⊢
      exact hQ _ ⟨fun p hp => isIter_keep (a1 p hp) fun o e => Heap.get?_push_of_some _ e, fun p hp => isTup_keep (t.src p hp) fun o e => kp _ o (D.src p hp).1 (D.src p hp).2.2 e, kp _ _ D.TIz TII t.ti, ⟨vs, hv, kp _ _ D.TOz TOI hTO⟩, ⟨_, true, Heap.get?_push_of_some _ (a3 _ _ zI hz₁), .inr ⟨_, rfl⟩⟩⟩ hT (by rw [Heap.size_push, hsz])
        fun c o c1 _ c3 e => kp c o c1 c3 e
    show wpAny _ _ (field (.ref z) 2 >>= _) _ _ _
    refine wpAny_bind (wpAny_field hz rfl (x := .bool false) rfl ?_)
    show wpAny _ _ (field (.ref z) 3 >>= _) _ _ _
    refine wpAny_bind (wpAny_field hz rfl (x := .ref TI) rfl ?_)
    refine wpAny_bind (wpAny_seqItems t.ti rfl ?_)
    simp only [e0]
    show wpAny _ _ (Builtin.SmallTypes.ownedTupleIsFree (.ref z) >>= _) _ _ _
    have step : ∀ h₁ : Heap, IsZp h₁ z TI TO (rawInt T) (.bool true) → Heap.ExtBut z s.heap h₁ → h₁.objs.size = s.heap.objs.size → ∀ (f : Value → Option Fin × Array Value → Sem (ForInStep (Option Fin × Array Value))) (g : Option Fin × Array Value → Sem Fin),
        (∀ (it : Value) (acc : Array Value) (Q : ForInStep (Option Fin × Array Value) → Shared → Prop) (E : Value → Shared → Prop) (s : Shared), wpAny (model prog w) A (Builtin.SmallTypes.nextOf it) (fun x => Q (.yield (none, acc.push x))) E s → wpAny (model prog w) A (f it (none, acc)) Q E s) →
        g (none, (L.map (valAt k)).toArray) = (newTuple (L.map (valAt k)) >>= fun v => PySem.ret v) →
        wpAny (model prog w) A (forIn (L.map fun p => Value.ref p.it).toArray (none, #[]) f >>= g) (fun fin s' => ∃ v, fin = .done (.ret v) ∧ Q v s') E { s with heap := h₁ } := fun h₁ c1 c2 c3 f g hf hg => by
      refine wpAny_bind (core h₁ c1 c2 c3 f _ hf fun h₅ hq => ?_)
      rw [hg]
      exact wpAny_bind (wpAny_newTuple (wpAny_pure ⟨_, rfl, hq _ rfl⟩) (by simpa using hn))
    refine wpAny_bind (free_false hz hoT fun h₁ hz₁ hs₁ z₁ => ?_)
    rw [if_neg Bool.false_ne_true]
    refine step h₁ hz₁ hs₁ z₁ _ _ (fun it acc Q' E' s' h' => ?_) rfl
    refine wpAny_bind (wpAny_holding ?_)
    show wpAny _ _ (Builtin.SmallTypes.nextOf it >>= _) _ _ _
    exact wpAny_bind (wpAny_mono h' (fun x s₁ q => wpAny_pure (wpAny_pure q)) fun _ _ q => q)

/-- no item is left: the first row is at its end -/
theorem zn_end {E : Value → Shared → Prop} {s : Shared} {z TI TO : Addr} {p : ZL} {L : List ZL} {k : Nat} {Q : PySem.Fin → Shared → Prop} (hh : A.handled = none) (D : Ap z TI TO (p :: L)) (t : Zt s.heap z TI TO (p :: L) k)
    (hk : p.xs.length ≤ k)
    (hE : ∀ h' e, (∀ c o, c ≠ z → c ∉ (p :: L).map (·.it) → s.heap.get? c = some o → h'.get? c = some o) → (∃ o, h'.get? e = some o ∧ o.cls = .type "StopIteration") → E (.ref e) { s with heap := h' }) :
    wpAny (model prog w) A (Builtin.«zip.__next__» ⟨[.ref z], []⟩) Q E s := by
  have hx : p.xs.toArray[k]? = none := by simp; omega
  have pI : p.it ∈ (p :: L).map (·.it) := List.mem_cons_self
  have e0 : ((p :: L).map fun p => Value.ref p.it).toArray.isEmpty = false := rfl
  rcases zo_cases t with ⟨f0, b, hz, hfree⟩ | ⟨T, b, oT, hz, hoT⟩
  · show wpAny _ _ (field (.ref z) 2 >>= _) _ _ _
    refine wpAny_bind (wpAny_field hz rfl (x := .bool false) rfl ?_)
    show wpAny _ _ (field (.ref z) 3 >>= _) _ _ _
    refine wpAny_bind (wpAny_field hz rfl (x := .ref TI) rfl ?_)
    refine wpAny_bind (wpAny_seqItems t.ti rfl ?_)
    simp only [e0]
    show wpAny _ _ (Builtin.SmallTypes.ownedTupleIsFree (.ref z) >>= _) _ _ _
    refine wpAny_bind (free_true hz hfree ?_)
    rw [if_pos rfl]
    refine wpAny_bind (wpAny_rule ?_)
    refine wpAny_bind (wpAny_field hz rfl (x := .ref TO) rfl ?_)
    refine wpAny_bind (wpAny_setField_rec hz (by simp) fun h₁ hz₁ hs₁ => ?_)
    replace hz₁ : IsZp h₁ z TI TO .ellipsis (.bool b) := hz₁
    refine wpAny_bind ?_
    show wpAny _ _ (forIn ((Value.ref p.it, 0) :: (L.map fun p => Value.ref p.it).zipIdx 1) _ _) _ _ _
    rw [List.forIn_cons]
    refine wpAny_bind (wpAny_bind (wpAny_onRaise ?_))
    show wpAny _ _ (Builtin.SmallTypes.nextOf (.ref p.it) >>= _) _ _ _
    refine wpAny_bind (nextOf_tuple_end (s := { s with heap := h₁ }) hh (isIter_keep (t.its p List.mem_cons_self) fun o e => hs₁.extBut _ _ (D.it p List.mem_cons_self).1 e) (isTup_keep (t.src p List.mem_cons_self) fun o e => hs₁.extBut _ _ (D.src p List.mem_cons_self).1 e) hx fun h₂ e hs₂ he => ?_)
    obtain ⟨oe, hoe, hce⟩ := he
    have hz₂ : IsZp h₂ z TI TO .ellipsis (.bool b) := hs₂ _ _ (Ne.symm (D.it p List.mem_cons_self).1) hz₁
    have hez : e ≠ z := fun x => by subst x; rw [hz₂] at hoe; cases hoe; simp at hce
    exact wpAny_setField_rec hz₂ (by simp) fun h₃ _ hs₃ => hE h₃ e (fun c o c1 c2 x => hs₃.extBut _ _ c1 (hs₂ _ _ (fun q => c2 (by rw [q]; exact pI)) (hs₁.extBut _ _ c1 x))) ⟨oe, hs₃.extBut _ _ hez hoe, hce⟩
  · have core : ∀ h₁ : Heap, Heap.ExtBut z s.heap h₁ → ∀ (f : Value → Option Fin × Array Value → Sem (ForInStep (Option Fin × Array Value))) (R : Option Fin × Array Value → Shared → Prop),
        (∀ (it : Value) (acc : Array Value) (Q : ForInStep (Option Fin × Array Value) → Shared → Prop) (E : Value → Shared → Prop) (s : Shared), wpAny (model prog w) A (Builtin.SmallTypes.nextOf it) (fun x => Q (.yield (none, acc.push x))) E s → wpAny (model prog w) A (f it (none, acc)) Q E s) →
        wpAny (model prog w) A (forIn ((p :: L).map fun p => Value.ref p.it).toArray (none, #[]) f) R E { s with heap := h₁ } := fun h₁ hs₁ f R hf => by
      rw [← Array.forIn_toList]
      show wpAny _ _ (forIn (Value.ref p.it :: L.map fun p => Value.ref p.it) _ _) _ _ _
      rw [List.forIn_cons]
      refine wpAny_bind (hf _ _ _ _ _ (nextOf_tuple_end hh (isIter_keep (t.its p List.mem_cons_self) fun o e => hs₁ _ _ (D.it p List.mem_cons_self).1 e) (isTup_keep (t.src p List.mem_cons_self) fun o e => hs₁ _ _ (D.src p List.mem_cons_self).1 e) hx fun h₂ e hs₂ he => ?_))
      exact hE h₂ e (fun c o c1 c2 q => hs₂ _ _ (fun z => c2 (by rw [z]; exact pI)) (hs₁ _ _ c1 q)) he
    show wpAny _ _ (field (.ref z) 2 >>= _) _ _ _
    refine wpAny_bind (wpAny_field hz rfl (x := .bool false) rfl ?_)
    show wpAny _ _ (field (.ref z) 3 >>= _) _ _ _
    refine wpAny_bind (wpAny_field hz rfl (x := .ref TI) rfl ?_)
    refine wpAny_bind (wpAny_seqItems t.ti rfl ?_)
    simp only [e0]
    show wpAny _ _ (Builtin.SmallTypes.ownedTupleIsFree (.ref z) >>= _) _ _ _
    refine wpAny_bind (free_false hz hoT fun h₁ hz₁ hs₁ z₁ => ?_)
    rw [if_neg Bool.false_ne_true]
    refine wpAny_bind (core h₁ hs₁ _ _ fun it acc Q' E' s' h' => ?_)
    refine wpAny_bind (wpAny_holding ?_)
    show wpAny _ _ (Builtin.SmallTypes.nextOf it >>= _) _ _ _
    exact wpAny_bind (wpAny_mono h' (fun x s₁ q => wpAny_pure (wpAny_pure q)) fun _ _ q => q)
theorem pyNext_zn_item {E : Value → Shared → Prop} {s : Shared} {z TI TO : Addr} {L : List ZL} {k : Nat} {Q : Option Value → Shared → Prop} (D : Ap z TI TO L) (t : Zt s.heap z TI TO L k) (hL : L ≠ [])
    (hk : ∀ p ∈ L, k < p.xs.length) (hn : L.length ≤ sizeLine)
    (hQ : ∀ h', Zt h' z TI TO L (k + 1) → IsTp h' s.heap.objs.size (L.map (valAt k)) → h'.objs.size = s.heap.objs.size + 1 →
      (∀ c o, c ≠ z → c ≠ TO → c ∉ L.map (·.it) → s.heap.get? c = some o → h'.get? c = some o) → Q (some (.ref s.heap.objs.size)) { s with heap := h' }) :
    wpAny (model prog w) A (pyNext (.ref z)) Q E s := by
  have hT : s.TypeIs (.ref z) "zip" := t.zh
  unfold pyNext
  exact wpAny_bind (wpAny_attempt (wpAny_callSpecial?_slot (name := Str.ofString "__next__") hT PySem.F.slot_zip_next
    (wpAny_call_entry PySem.F.slot_zip_next hT PySem.F.entry_zip_next
      (zn_item D t hL hk hn fun h' a1 a2 a3 a4 => wpAny_pure (hQ h' a1 a2 a3 a4)) (PySem.F.args_zip_next_1 _))))
theorem pyNext_zn_end {E : Value → Shared → Prop} {s : Shared} {z TI TO : Addr} {p : ZL} {L : List ZL} {k : Nat} {Q : Option Value → Shared → Prop} (hh : A.handled = none) (D : Ap z TI TO (p :: L)) (t : Zt s.heap z TI TO (p :: L) k)
    (hk : p.xs.length ≤ k) (hQ : ∀ h', (∀ c o, c ≠ z → c ∉ (p :: L).map (·.it) → s.heap.get? c = some o → h'.get? c = some o) → Q none { s with heap := h' }) : wpAny (model prog w) A (pyNext (.ref z)) Q E s := by
  have hT : s.TypeIs (.ref z) "zip" := t.zh
  unfold pyNext
  refine wpAny_bind (wpAny_attempt (wpAny_callSpecial?_slot (name := Str.ofString "__next__") hT PySem.F.slot_zip_next
    (wpAny_call_entry PySem.F.slot_zip_next hT PySem.F.entry_zip_next (zn_end hh D t hk fun h' e hk he => ?_) (PySem.F.args_zip_next_1 _))))
  obtain ⟨o, ho, hc⟩ := he
  refine wpAny_bind (wpAny_isInstance (T := "StopIteration") (b := true) ⟨o, ho, hc⟩ isSubtype_stop ?_)
  exact wpAny_pure (hQ _ hk)
theorem pyIter_zn {E : Value → Shared → Prop} {s : Shared} {z TI TO : Addr} {L : List ZL} {k : Nat} {Q : Value → Shared → Prop} (t : Zt s.heap z TI TO L k) (h : Q (.ref z) s) : wpAny (model prog w) A (pyIter (.ref z)) Q E s := by
  have hT : s.TypeIs (.ref z) "zip" := t.zh
  refine wpAny_pyIter_slot hT PySem.F.slot_zip_iter (wpAny_call_entry PySem.F.slot_zip_iter hT PySem.F.entry_zip_iter ?_ (PySem.F.args_zip_iter_1 _))
  show wpAny _ _ (PySem.ret (.ref z)) _ _ s
  exact wpAny_pure ⟨_, rfl, "zip", _, hT, PySem.F.slot_zip_next.lookup, h⟩

/-! ### list(z) -/
theorem zn_no_len : typeLookup (.type "zip") "__len__" = pure none := by rw [typeLookup_type, builtinLookup_eq_fast]; kernel_rfl
theorem zn_no_hint : typeLookup (.type "zip") "__length_hint__" = pure none := by rw [typeLookup_type, builtinLookup_eq_fast]; kernel_rfl
/-- how far things lie: all that is walked lies below n -/
structure Blw (n S z TI TO : Addr) (L : List ZL) : Prop where
  bS : S < n
  bz : z < n
  bTI : TI < n
  bTO : TO < n
  bL : ∀ p ∈ L, p.it < n ∧ p.src < n
  Sz : S ≠ z
  STI : S ≠ TI
  STO : S ≠ TO
  SL : ∀ p ∈ L, S ≠ p.it ∧ S ≠ p.src
abbrev IsLs (h : Heap) (S : Addr) (vs : List Value) (c : Nat) : Prop := h.get? S = some { cls := .type "list", dict := none, data := .seq vs.toArray c, slots := #[] }
/-- the tuples made so far -/
structure Cols (h : Heap) (n : Addr) (L : List ZL) (Ts : List Addr) : Prop where
  at_ : ∀ (j : Nat) (T : Addr), Ts[j]? = some T → IsTp h T (L.map (valAt j))
  ge : ∀ T ∈ Ts, n ≤ T
  nd : Ts.Nodup
theorem ext_zip {R : Result → Shared → Prop} {S z TI TO n : Addr} {p : ZL} {L : List ZL} {m : Nat} (hh : A.in1.handled = none) (D : Ap z TI TO (p :: L)) (B : Blw n S z TI TO (p :: L)) (hn : (p :: L).length ≤ sizeLine) (hm : m ≤ sizeLine) (hx : ∀ q ∈ p :: L, q.xs.length = m) (res : Value) :
    ∀ (r k : Nat) (s : Shared) (Ts : List Addr) (c : Nat), m - k = r → k ≤ m → Zt s.heap z TI TO (p :: L) k → n ≤ s.heap.objs.size →
    IsLs s.heap S (Ts.map Value.ref) c → Ts.length = k → Cols s.heap n (p :: L) Ts →
    (∀ h' Ts' c', IsLs h' S (Ts'.map Value.ref) c' → Ts'.length = m → Cols h' n (p :: L) Ts' → (∀ b o, b ≠ S → b ≠ z → b ≠ TO → b ∉ (p :: L).map (·.it) → s.heap.get? b = some o → h'.get? b = some o) → R (.ok (.ret res)) { s with heap := h' }) →
    codeAny (model prog w) A (.builtin "list.extend.loop" ⟨[.ref S, .ref z, res], []⟩) R s := by
  intro r
  induction r with
  | zero =>
    intro k s Ts c hk hi t hb hS hl hc hR
    have ek : k = m := by omega
    subst ek
    refine codeAny_builtin PySem.F.entry_extend_loop ?_
    rw [Around.under_plainId PySem.F.plain_extend_loop _]
    show wpAny _ A.in1 (pyNext (.ref z) >>= _) _ _ s
    refine wpAny_bind (pyNext_zn_end hh D t (Nat.le_of_eq (hx p List.mem_cons_self)) fun h' a1 => ?_)
    have SI : S ∉ (p :: L).map (·.it) := fun q => by
      obtain ⟨x, hx1, e⟩ := List.mem_map.mp q
      exact (B.SL x hx1).1 e.symm
    have up : ∀ b : Addr, n ≤ b → ∀ o, s.heap.get? b = some o → h'.get? b = some o := fun b hb' o e => a1 b o (fun q => Nat.lt_irrefl _ (Nat.lt_of_lt_of_le B.bz (by rw [← q]; exact hb'))) (fun q => by
      obtain ⟨x, hx1, e⟩ := List.mem_map.mp q
      exact Nat.lt_irrefl _ (Nat.lt_of_lt_of_le (B.bL x hx1).1 (by rw [show x.it = b from e]; exact hb'))) e
    exact wpAny_pure (hR h' Ts c (a1 _ _ B.Sz SI hS) hl ⟨fun j T hT => up _ (hc.ge T (List.mem_of_getElem? hT)) _ (hc.at_ j T hT), hc.ge, hc.nd⟩ fun b o _ c2 _ c4 e => a1 b o c2 c4 e)
  | succ r ih =>
    intro k s Ts c hk hi t hb hS hl hc hR
    have hlt : k < m := by omega
    refine codeAny_builtin PySem.F.entry_extend_loop ?_
    rw [Around.under_plainId PySem.F.plain_extend_loop _]
    show wpAny _ A.in1 (pyNext (.ref z) >>= _) _ _ s
    refine wpAny_bind (pyNext_zn_item D t (List.cons_ne_nil _ _) (fun q hq => by rw [hx q hq]; exact hlt) hn fun h₁ t₁ hT₁ z₁ k₁ => ?_)
    have SI : S ∉ (p :: L).map (·.it) := fun q => by
      obtain ⟨x, hx1, e⟩ := List.mem_map.mp q
      exact (B.SL x hx1).1 e.symm
    have farz : ∀ b : Addr, n ≤ b → b ≠ z ∧ b ≠ TO ∧ b ∉ (p :: L).map (·.it) ∧ b ≠ S := fun b hb' => ⟨fun q => Nat.lt_irrefl _ (Nat.lt_of_lt_of_le B.bz (by rw [← q]; exact hb')), fun q => Nat.lt_irrefl _ (Nat.lt_of_lt_of_le B.bTO (by rw [← q]; exact hb')), fun q => by
      obtain ⟨x, hx1, e⟩ := List.mem_map.mp q
      exact Nat.lt_irrefl _ (Nat.lt_of_lt_of_le (B.bL x hx1).1 (by rw [show x.it = b from e]; exact hb')), fun q => Nat.lt_irrefl _ (Nat.lt_of_lt_of_le B.bS (by rw [← q]; exact hb'))⟩
    have hS₁ : IsLs h₁ S (Ts.map Value.ref) c := k₁ _ _ B.Sz B.STO SI hS
    show wpAny _ A.in1 (updateSeq S (·.push (.ref s.heap.objs.size)) >>= _) _ _ _
    refine wpAny_bind ?_
    have hsz : (Ts.map Value.ref).toArray.size ≤ sizeLine := by simp; omega
    have hsz' : ((Ts.map Value.ref).toArray.push (.ref s.heap.objs.size)).size ≤ sizeLine + 1 := by simp; omega
    refine wpAny_updateSeq (s := { s with heap := h₁ }) hS₁ rfl (wpAny_pure ⟨plainId_quiet PySem.F.plain_extend_loop _, ?_⟩) hsz hsz'
    have hS₂ := Heap.get?_update_self (Obj.mapSeq (·.push (Value.ref s.heap.objs.size))) hS₁ rfl
    have oth : ∀ b o, b ≠ S → h₁.get? b = some o → (h₁.update S (Obj.mapSeq (·.push (Value.ref s.heap.objs.size)))).get? b = some o := fun b o hb e => (Heap.get?_update_other _ _ (Ne.symm hb)).trans e
    have hS₃ : ∃ c', IsLs (h₁.update S (Obj.mapSeq (·.push (Value.ref s.heap.objs.size)))) S ((Ts ++ [s.heap.objs.size]).map Value.ref) c' := ⟨_, by
      show Heap.get? _ _ = _
      rw [hS₂]
      simp [Obj.mapSeq]
      rfl⟩
    obtain ⟨c', hS₃⟩ := hS₃
    refine ih (k + 1) { s with heap := h₁.update S (Obj.mapSeq (·.push (Value.ref s.heap.objs.size))) } (Ts ++ [s.heap.objs.size]) c' (by omega) hlt (t₁.keep fun b o e hb' => oth b o (fun q => ?_) e) ?_ hS₃ (by simp [hl]) ⟨fun j T hT => ?_, fun T hT => ?_, ?_⟩ fun h' Ts' c' a1 a2 a3 a4 => hR h' Ts' c' a1 a2 a3 fun b o b1 b2 b3 b4 e => a4 b o b1 b2 b3 b4 (oth b o b1 (k₁ b o b2 b3 b4 e))
    · subst q
      rcases hb' with q | q | q | ⟨x, hx1, q⟩
      · exact B.Sz q
      · exact B.STI q
      · exact B.STO q
      · rcases q with q | q
        · exact (B.SL x hx1).1 q
        · exact (B.SL x hx1).2 q
    · show n ≤ (h₁.update S _).objs.size
      rw [show (h₁.update S (Obj.mapSeq (·.push (Value.ref s.heap.objs.size)))).objs.size = h₁.objs.size from (Heap.SameBut.update ..).1, z₁]
      exact Nat.le_trans hb (Nat.le_succ _)
    · by_cases hj : j < Ts.length
      · rw [List.getElem?_append_left hj] at hT
        have ge := hc.ge T (List.mem_of_getElem? hT)
        exact oth _ _ (farz T ge).2.2.2 (k₁ _ _ (farz T ge).1 (farz T ge).2.1 (farz T ge).2.2.1 (hc.at_ j T hT))
      · rw [List.getElem?_append_right (Nat.le_of_not_lt hj)] at hT
        have e0 : j - Ts.length = 0 := by
          have := (List.getElem?_eq_some_iff.mp hT).1
          simp at this
          omega
        rw [e0] at hT
        cases hT
        have ej : j = k := by omega
        rw [ej]
        exact oth _ _ (farz _ hb).2.2.2 hT₁
    · rcases List.mem_append.mp hT with h | h
      · exact hc.ge T h
      · rw [List.mem_singleton.mp h]; exact hb
    · refine List.nodup_append.mpr ⟨hc.nd, by simp, fun a ha b hb' e => ?_⟩
      rw [List.mem_singleton.mp hb'] at e
      obtain ⟨j, hj⟩ := List.getElem?_of_mem ha
      have := Heap.lt_size (hc.at_ j a hj)
      rw [e] at this
      exact Nat.lt_irrefl _ this

theorem ext_zip0 {R : Result → Shared → Prop} {S z TI TO n : Addr} {p : ZL} {L : List ZL} {m : Nat} {s : Shared} (hh : A.in1.handled = none) (D : Ap z TI TO (p :: L)) (B : Blw n S z TI TO (p :: L)) (hn : (p :: L).length ≤ sizeLine) (hm : m ≤ sizeLine) (hx : ∀ q ∈ p :: L, q.xs.length = m) (res : Value) (c₀ : Nat)
    (t : Zt s.heap z TI TO (p :: L) 0) (hb : n ≤ s.heap.objs.size) (hS : s.heap.get? S = some { cls := .type "list", data := .seq #[] c₀ })
    (hR : ∀ h' Ts' c', IsLs h' S (Ts'.map Value.ref) c' → Ts'.length = m → Cols h' n (p :: L) Ts' → (∀ b o, b ≠ S → b ≠ z → b ≠ TO → b ∉ (p :: L).map (·.it) → s.heap.get? b = some o → h'.get? b = some o) → R (.ok (.ret res)) { s with heap := h' }) :
    wpAny (model prog w) A.in1 (Builtin.List.listExtendWith (.ref S) (.ref z) res)
      (fun fin s' => match fin with | .done f => R (.ok f) s' | .again c' => c'.quiet = true ∧ codeAny (model prog w) A c' R s') (fun e s' => R (.error e) s') s := by
  have hT : ∀ h : Heap, Zt h z TI TO (p :: L) 0 → ({ s with heap := h } : Shared).TypeIs (.ref z) "zip" := fun h t => t.zh
  unfold Builtin.List.listExtendWith
  refine wpAny_bind (wpAny_typeOf (hT _ t) ?_)
  have h1 : Builtin.List.listSameRef (.ref S) (.ref z) = false := by simp [Builtin.List.listSameRef, B.Sz]
  have h2 : (Value.type "zip" == Value.type "list") = false := by decide
  have h3 : (Value.type "zip" == Value.type "tuple") = false := by decide
  simp only [h1, h2, h3, Bool.or_false, Bool.false_eq_true, if_false]
  refine wpAny_bind (pyIter_zn t ?_)
  refine wpAny_bind (wpAny_holding ?_)
  unfold Builtin.List.listLengthHint
  refine wpAny_bind (wpAny_specialOf (hT _ t) zn_no_len ?_)
  show wpAny _ A.in1 (specialOf (Value.ref z) (Str.ofString "__length_hint__") >>= _) _ _ _
  refine wpAny_bind (wpAny_specialOf (hT _ t) zn_no_hint ?_)
  refine wpAny_pure ?_
  show wpAny _ A.in1 (rule "list.extend.makes-room" >>= fun _ => Builtin.List.listTouch (.ref S) >>= fun _ =>
    again (.builtin "list.extend.loop" ⟨[.ref S, .ref z, res], []⟩)) _ _ _
  refine wpAny_bind (wpAny_rule ?_)
  refine wpAny_bind ?_
  show wpAny _ A.in1 (updateSeq S (·.push .none) >>= fun _ => updateSeq S (·.pop)) _ _ _
  refine wpAny_bind (wpAny_updateSeq hS rfl ?_)
  have hS₂ := Heap.get?_update_self (Obj.mapSeq (·.push Value.none)) hS rfl
  refine wpAny_updateSeq (hz := by seq_fits) hS₂ rfl ?_
  have hS₃ := Heap.get?_update_self (Obj.mapSeq (·.pop)) hS₂ rfl
  have oth : ∀ b o, b ≠ S → s.heap.get? b = some o → ((s.heap.update S (Obj.mapSeq (·.push Value.none))).update S (Obj.mapSeq (·.pop))).get? b = some o :=
    fun b o hb e => (Heap.get?_update_other _ _ (Ne.symm hb)).trans ((Heap.get?_update_other _ _ (Ne.symm hb)).trans e)
  have zz : ((s.heap.update S (Obj.mapSeq (·.push Value.none))).update S (Obj.mapSeq (·.pop))).objs.size = s.heap.objs.size := (Heap.SameBut.update ..).1.trans (Heap.SameBut.update ..).1
  refine wpAny_pure ⟨plainId_quiet PySem.F.plain_extend_loop _, ext_zip hh D B hn hm hx res m 0 { s with heap := _ } [] _ rfl (Nat.zero_le _) (t.keep fun b o e hb' => oth b o (fun q => ?_) e) ?_ hS₃ rfl ⟨fun j T e => by simp at e, fun T e => by simp at e, List.nodup_nil⟩ fun h' Ts' c' a1 a2 a3 a4 => hR h' Ts' c' a1 a2 a3 fun b o b1 b2 b3 b4 e => a4 b o b1 b2 b3 b4 (oth b o b1 e)⟩
  · subst q
    rcases hb' with q | q | q | ⟨x, hx1, q⟩
    · exact B.Sz q
    · exact B.STI q
    · exact B.STO q
    · rcases q with q | q
      · exact (B.SL x hx1).1 q
      · exact (B.SL x hx1).2 q
  · show n ≤ Array.size _
    rw [zz]
    exact hb
theorem list_zip {E : Value → Shared → Prop} {s : Shared} {z TI TO : Addr} {p : ZL} {L : List ZL} {m : Nat} {Q : Value → Shared → Prop} (hh : A.handled = none) (D : Ap z TI TO (p :: L)) (hn : (p :: L).length ≤ sizeLine) (hm : m ≤ sizeLine) (hx : ∀ q ∈ p :: L, q.xs.length = m)
    (t : Zt s.heap z TI TO (p :: L) 0)
    (hQ : ∀ h' Ts' c', IsLs h' s.heap.objs.size (Ts'.map Value.ref) c' → Ts'.length = m → Cols h' (s.heap.objs.size + 1) (p :: L) Ts' → (∀ b o, b ≠ z → b ≠ TO → b ∉ (p :: L).map (·.it) → s.heap.get? b = some o → h'.get? b = some o) → Q (.ref s.heap.objs.size) { s with heap := h' }) :
    wpAny (model prog w) A (call (.type "list") [.ref z]) Q E s := by
  have lt : ∀ b o, s.heap.get? b = some o → b < s.heap.objs.size := fun b o e => Heap.lt_size e
  have ltz : z < s.heap.objs.size := by obtain ⟨o, e, _⟩ := t.zh; exact lt _ _ e
  have ltTI : TI < s.heap.objs.size := lt _ _ t.ti
  have ltTO : TO < s.heap.objs.size := by obtain ⟨_, _, e⟩ := t.to; exact lt _ _ e
  have ltL : ∀ q ∈ p :: L, q.it < s.heap.objs.size ∧ q.src < s.heap.objs.size := fun q hq => ⟨by obtain ⟨o, e, _⟩ := t.its q hq; exact lt _ _ e, by obtain ⟨o, e, _⟩ := t.src q hq; exact lt _ _ e⟩
  refine callType_codes (Q₁ := fun obj s₁ => obj = .ref s.heap.objs.size ∧ s₁ = { s with heap := s.heap.push { cls := .type "list", data := .seq #[] } }) PySem.F.called_list (PySem.F.typeCall_list_1 _) PySem.F.entry_list_init
    (code_list_new _ ⟨rfl, rfl⟩) fun obj s₁ h₁ => ?_
  obtain ⟨rfl, rfl⟩ := h₁
  have hS : (s.heap.push { cls := .type "list", data := .seq #[] }).get? s.heap.objs.size = some { cls := .type "list", data := .seq #[] } := Heap.get?_push_size _ rfl
  have z1 : (s.heap.push { cls := .type "list", data := .seq #[] }).objs.size = s.heap.objs.size + 1 := Heap.size_push ..
  refine ⟨⟨_, hS, rfl⟩, PySem.F.args_list_init_2 _ _, ?_⟩
  show wpAny _ A.in1.in1 (do let old ← Builtin.List.listItems (.ref s.heap.objs.size); Builtin.List.listUpdate (.ref s.heap.objs.size) (fun _ => #[]); letGo old.toList.reverse; Builtin.List.listExtendWith (.ref s.heap.objs.size) (.ref z) .none) _ _ _
  refine wpAny_bind ?_
  unfold Builtin.List.listItems
  refine wpAny_bind (wpAny_seqItems hS rfl (wpAny_pure ?_))
  show wpAny _ A.in1.in1 (updateSeq s.heap.objs.size (fun _ => #[]) >>= fun _ => letGo (#[] : Array Value).toList.reverse >>= fun _ => Builtin.List.listExtendWith (.ref s.heap.objs.size) (.ref z) .none) _ _ _
  refine wpAny_bind (wpAny_updateSeq hS rfl ?_)
  have hS₂ := Heap.get?_update_self (Obj.mapSeq (fun _ => (#[] : Array Value))) hS rfl
  have up : ∀ b o, s.heap.get? b = some o → ((s.heap.push { cls := .type "list", data := .seq #[] }).update s.heap.objs.size (Obj.mapSeq (fun _ => (#[] : Array Value)))).get? b = some o :=
    fun b o e => (Heap.get?_update_other _ _ (Nat.ne_of_gt (lt _ _ e))).trans (Heap.get?_push_of_some _ e)
  refine wpAny_bind (wpAny_letGo ?_)
  refine ext_zip0 (A := A.in1) (n := s.heap.objs.size + 1) (m := m) hh D ⟨Nat.lt_succ_self _, Nat.lt_succ_of_lt ltz, Nat.lt_succ_of_lt ltTI, Nat.lt_succ_of_lt ltTO, fun q hq => ⟨Nat.lt_succ_of_lt (ltL q hq).1, Nat.lt_succ_of_lt (ltL q hq).2⟩, Nat.ne_of_gt ltz, Nat.ne_of_gt ltTI, Nat.ne_of_gt ltTO, fun q hq => ⟨Nat.ne_of_gt (ltL q hq).1, Nat.ne_of_gt (ltL q hq).2⟩⟩
    hn hm hx .none _ (t.keep fun b o e _ => up b o e) ?_ hS₂ fun h' Ts' c' a1 a2 a3 a4 => ?_
  · show _ ≤ Array.size _
    rw [(Heap.SameBut.update ..).1, z1]
    exact Nat.le_refl _
  · exact ⟨rfl, hQ h' Ts' c' a1 a2 a3 fun b o b1 b2 b3 e => a4 b o (Nat.ne_of_lt (lt _ _ e)) b1 b2 b3 (up b o e)⟩
end
end DL

-- DRawZ2
set_option maxHeartbeats 2000000
/-! DRawZ2: zip of n tuples made; list(zip(*e)) -/
namespace DL
open PySem PySem.Spec PyProof.Rows L2 RZ
theorem typeCall_zn (as : List Value) : checkTypeCall "zip" ⟨as, []⟩ = pure () := by kernel_rfl
theorem newCall_zn (as : List Value) : checkBuiltinCall "zip.__new__" ⟨.type "zip" :: as, []⟩ = pure () := by
  cases as with
  | nil => kernel_rfl
  | cons a as => kernel_rfl
theorem args_init_zn (obj : Value) (as : List Value) : argsOk "object.__init__" ⟨obj :: as, []⟩ := by
  unfold argsOk; rw [signature?_of (id := "object.__init__") (n := ['_', '_', 't', 'i', 'n', 'i', '_', '_']) (o := ['t', 'c', 'e', 'j', 'b', 'o']) (by kernel_rfl) PySem.F.owner_object]; kernel_rfl
theorem newClass_zn (as : List Value) : Builtin.SmallTypes.newClass "zip" ⟨.type "zip" :: as, []⟩ = pure (.type "zip", as) := by
  unfold Builtin.SmallTypes.newClass
  simp only [isType, sub_zip, pure_bind, Bool.not_true, Bool.false_eq_true, if_false]
section
variable {prog : Program} {w : World} {A : Around} {E : Value → Shared → Prop} {s : Shared}
/-- iterators of tuples made one behind another -/
theorem iters_made {f : Value → Array Value → Sem (ForInStep (Array Value))}
    (hf : ∀ (x : Value) (acc : Array Value) (Q : ForInStep (Array Value) → Shared → Prop) (E : Value → Shared → Prop) (s : Shared), wpAny (model prog w) A (pyIter x) (fun v => Q (.yield (acc.push v))) E s → wpAny (model prog w) A (f x acc) Q E s) :
    ∀ (rows : List (Addr × List Value)) (acc : Array Value) (s : Shared) (Q : Array Value → Shared → Prop), (∀ r ∈ rows, s.heap.IsTuple r.1 r.2.toArray) →
      (∀ h' L, L.map (fun p : ZL => (p.src, p.xs)) = rows → ItsAt h' 0 L → (L.map (·.it)).Nodup → (∀ p ∈ L, s.heap.objs.size ≤ p.it) → s.heap.objs.size ≤ h'.objs.size → (∀ b o, s.heap.get? b = some o → h'.get? b = some o) →
        Q (acc ++ (L.map fun p => Value.ref p.it).toArray) { s with heap := h' }) →
      wpAny (model prog w) A (forIn (rows.map fun r => Value.ref r.1) acc f) Q E s
  | [], acc, s, Q, hr, hQ => by
    show wpAny _ _ (forIn [] _ _) _ _ _
    rw [List.forIn_nil]
    have := hQ s.heap [] rfl (fun p hp => by cases hp) List.nodup_nil (fun p hp => by cases hp) (Nat.le_refl _) fun _ _ e => e
    exact wpAny_pure (by simpa using this)
  | r :: rows, acc, s, Q, hr, hQ => by
    show wpAny _ _ (forIn (Value.ref r.1 :: rows.map fun r => Value.ref r.1) _ _) _ _ _
    rw [List.forIn_cons]
    refine wpAny_bind (hf _ _ _ _ _ (wpAny_pyIter_tuple (hr r List.mem_cons_self) ?_))
    refine iters_made hf rows (acc.push (.ref s.heap.objs.size)) { s with heap := s.heap.push { cls := .type "tuple_iterator", data := .fields #[.ref r.1, .int 0 0] } } Q (fun q hq => isTup_keep (hr q (List.mem_cons_of_mem _ hq)) fun o e => Heap.get?_push_of_some _ e) fun h' L a1 a2 a3 a4 a5 a6 => ?_
    have sz : (s.heap.push { cls := .type "tuple_iterator", data := .fields #[.ref r.1, .int 0 0] }).objs.size = s.heap.objs.size + 1 := Heap.size_push ..
    have a4' : ∀ p ∈ L, s.heap.objs.size + 1 ≤ p.it := fun p hp => by rw [← sz]; exact a4 p hp
    have hT : h'.IsTupleIter s.heap.objs.size r.1 0 := ⟨_, a6 _ _ (Heap.get?_push_size _ rfl), rfl, rfl⟩
    have := hQ h' (⟨s.heap.objs.size, r.1, r.2⟩ :: L) (by rw [List.map_cons, a1]) (fun p hp => by
      rcases List.mem_cons.mp hp with e | e
      · subst e; exact hT
      · exact a2 p e) (List.nodup_cons.mpr ⟨fun q => by
        obtain ⟨p, hp, e⟩ := List.mem_map.mp q
        have := a4' p hp
        rw [show p.it = s.heap.objs.size from e] at this
        exact Nat.lt_irrefl _ this, a3⟩) (fun p hp => by
      rcases List.mem_cons.mp hp with e | e
      · subst e; exact Nat.le_refl _
      · exact Nat.le_of_succ_le (a4' p e)) (Nat.le_trans (by rw [sz]; exact Nat.le_succ _) a5) fun b o e => a6 b o (Heap.get?_push_of_some _ e)
    simpa using this
theorem new_zn (rows : List (Addr × List Value)) (hn : rows.length ≤ sizeLine) : MeetsIn prog w (Builtin.«zip.__new__» ⟨.type "zip" :: rows.map (fun r => Value.ref r.1), []⟩)
    (fun A R s => (∀ r ∈ rows, s.heap.IsTuple r.1 r.2.toArray) ∧ ∀ (h' : Heap) (z TI TO : Addr) (L : List ZL), L.map (fun p : ZL => (p.src, p.xs)) = rows → Ap z TI TO L → Zt h' z TI TO L 0 → (∀ b o, s.heap.get? b = some o → h'.get? b = some o) → (s.heap.objs.size ≤ z ∧ s.heap.objs.size ≤ TO ∧ (∀ p ∈ L, s.heap.objs.size ≤ p.it) ∧ s.heap.objs.size ≤ h'.objs.size ∧ s.heap.objs.size ≤ TI) → R (.ok (.ret (.ref z))) { s with heap := h' }) :=
  .of_wp fun A R s ⟨hr, h⟩ => by
    unfold Builtin.«zip.__new__»
    refine wpAny_bind (wpAny_of_eq (newClass_zn _) ?_)
    dsimp only
    rw [if_neg (show ¬ (([] : List (Str × Value)).length > 1) from by decide)]
    show wpAny _ _ (Builtin.SmallTypes.iterAll _ >>= _) _ _ _
    refine wpAny_bind ?_
    unfold Builtin.SmallTypes.iterAll
    refine wpAny_bind ?_
    refine iters_made (fun x acc Q' E' s' h' => ?_) rows #[] s _ hr fun h' L a1 a2 a3 a4 a5 a6 => ?_
    · refine wpAny_bind (wpAny_holding (wpAny_mono h' (fun v s₁ q => ?_) fun _ _ q => q))
      exact wpAny_pure q
    · have hLn : L.length = rows.length := by rw [← a1, List.length_map]
      have e1 : ((#[] : Array Value) ++ (L.map fun p => Value.ref p.it).toArray).toList = L.map fun p => Value.ref p.it := by simp
      refine wpAny_pure ?_
      rw [e1]
      have hsz1 : (L.map fun p => Value.ref p.it).length ≤ sizeLine := by rw [List.length_map, hLn]; exact hn
      have hsz2 : ((L.map fun p => Value.ref p.it).map fun _ => Value.none).length ≤ sizeLine := by rw [List.length_map]; exact hsz1
      refine wpAny_bind (wpAny_newTuple ?_ (by first | exact hsz1 | (rw [List.size_toArray]; exact hsz1)))
      refine wpAny_bind (wpAny_newTuple ?_ (by first | exact hsz2 | (rw [List.size_toArray]; exact hsz2)))
      generalize eh1 : h'.push { cls := .type "tuple", data := .seq (L.map fun p => Value.ref p.it).toArray } = h1
      have z1 : h1.objs.size = h'.objs.size + 1 := by rw [← eh1]; exact Heap.size_push ..
      show wpAny _ _ (newObj (.type "zip") (.fields #[.none, .bool false, .bool false, .ref h'.objs.size, .ref h1.objs.size]) >>= _) _ _ _
      refine wpAny_bind (wpAny_newObj_type ?_)
      refine wpAny_pure ⟨_, rfl, ?_⟩
      generalize eh2 : h1.push { cls := .type "tuple", data := .seq ((L.map fun p => Value.ref p.it).map fun _ => Value.none).toArray } = h2
      have z2 : h2.objs.size = h1.objs.size + 1 := by rw [← eh2]; exact Heap.size_push ..
      have up1 : ∀ b o, h'.get? b = some o → h1.get? b = some o := fun b o e => by rw [← eh1]; exact Heap.get?_push_of_some _ e
      have up2 : ∀ b o, h1.get? b = some o → h2.get? b = some o := fun b o e => by rw [← eh2]; exact Heap.get?_push_of_some _ e
      have up : ∀ b o, h'.get? b = some o → (h2.push { cls := .type "zip", data := .fields #[.none, .bool false, .bool false, .ref h'.objs.size, .ref h1.objs.size] }).get? b = some o := fun b o e => Heap.get?_push_of_some _ (up2 _ _ (up1 _ _ e))
      have gTI : IsTp (h2.push { cls := .type "zip", data := .fields #[.none, .bool false, .bool false, .ref h'.objs.size, .ref h1.objs.size] }) h'.objs.size (L.map fun p => Value.ref p.it) := Heap.get?_push_of_some _ (up2 _ _ (by rw [← eh1]; exact Heap.get?_push_size _ rfl))
      have gTO : IsTp (h2.push { cls := .type "zip", data := .fields #[.none, .bool false, .bool false, .ref h'.objs.size, .ref h1.objs.size] }) h1.objs.size ((L.map fun p => Value.ref p.it).map fun _ => Value.none) := Heap.get?_push_of_some _ (by rw [← eh2]; exact Heap.get?_push_size _ rfl)
      have gz : IsZp (h2.push { cls := .type "zip", data := .fields #[.none, .bool false, .bool false, .ref h'.objs.size, .ref h1.objs.size] }) h2.objs.size h'.objs.size h1.objs.size .none (.bool false) := Heap.get?_push_size _ rfl
      have hs : ∀ p ∈ L, h'.IsTuple p.src p.xs.toArray := fun p hp => isTup_keep (hr (p.src, p.xs) (by rw [← a1]; exact List.mem_map.mpr ⟨p, hp, rfl⟩)) fun o e => a6 _ _ e
      have lti : ∀ p ∈ L, p.it < h'.objs.size := fun p hp => by obtain ⟨o, e, _⟩ := a2 p hp; exact Heap.lt_size e
      have lts : ∀ p ∈ L, p.src < s.heap.objs.size := fun p hp => by obtain ⟨o, e, _⟩ := hr (p.src, p.xs) (by rw [← a1]; exact List.mem_map.mpr ⟨p, hp, rfl⟩); exact Heap.lt_size e
      refine h _ h2.objs.size h'.objs.size h1.objs.size L a1 ⟨?_, ?_, ?_, a3, fun p hp => ⟨?_, ?_, ?_⟩, fun p hp => ⟨?_, ?_, fun q => ?_⟩⟩ ⟨fun p hp => isIter_keep (a2 p hp) fun o e => up _ _ e, fun p hp => isTup_keep (hs p hp) fun o e => up _ _ e, gTI, ⟨_, by simp, gTO⟩, ⟨_, _, gz, .inl rfl⟩⟩ (fun b o e => up _ _ (a6 _ _ e)) ⟨by rw [z2, z1]; exact Nat.le_trans a5 (Nat.le_trans (Nat.le_succ _) (Nat.le_succ _)), by rw [z1]; exact Nat.le_trans a5 (Nat.le_succ _), a4, by rw [Heap.size_push, z2, z1]; exact Nat.le_trans a5 (Nat.le_trans (Nat.le_succ _) (Nat.le_trans (Nat.le_succ _) (Nat.le_succ _))), a5⟩
      · rw [z2, z1]; exact Nat.ne_of_lt (Nat.lt_of_lt_of_le (Nat.lt_succ_self _) (Nat.le_succ _))
      · rw [z2]; exact Nat.ne_of_lt (Nat.lt_succ_self _)
      · rw [z1]; exact Nat.ne_of_lt (Nat.lt_succ_self _)
      · rw [z2, z1]; exact Nat.ne_of_lt (Nat.lt_of_lt_of_le (lti p hp) (Nat.le_trans (Nat.le_succ _) (Nat.le_succ _)))
      · exact Nat.ne_of_lt (lti p hp)
      · rw [z1]; exact Nat.ne_of_lt (Nat.lt_of_lt_of_le (lti p hp) (Nat.le_succ _))
      · rw [z2, z1]; exact Nat.ne_of_lt (Nat.lt_of_lt_of_le (lts p hp) (Nat.le_trans a5 (Nat.le_trans (Nat.le_succ _) (Nat.le_succ _))))
      · rw [z1]; exact Nat.ne_of_lt (Nat.lt_of_lt_of_le (lts p hp) (Nat.le_trans a5 (Nat.le_succ _)))
      · obtain ⟨x, hx, e⟩ := List.mem_map.mp q
        have := a4 x hx
        rw [show x.it = p.src from e] at this
        exact Nat.lt_irrefl _ (Nat.lt_of_lt_of_le (lts p hp) this)
theorem call_zn {rows : List (Addr × List Value)} {Q : Value → Shared → Prop} (hn : rows.length ≤ sizeLine) (hr : ∀ r ∈ rows, s.heap.IsTuple r.1 r.2.toArray)
    (hQ : ∀ (h' : Heap) (z TI TO : Addr) (L : List ZL), L.map (fun p : ZL => (p.src, p.xs)) = rows → Ap z TI TO L → Zt h' z TI TO L 0 → (∀ b o, s.heap.get? b = some o → h'.get? b = some o) → (s.heap.objs.size ≤ z ∧ s.heap.objs.size ≤ TO ∧ (∀ p ∈ L, s.heap.objs.size ≤ p.it) ∧ s.heap.objs.size ≤ h'.objs.size ∧ s.heap.objs.size ≤ TI) → Q (.ref z) { s with heap := h' }) :
    wpAny (model prog w) A (call (.type "zip") (rows.map fun r => Value.ref r.1)) Q E s := by
  refine callType_newIn PySem.F.called_zip (by decide) (typeCall_zn _) (newCall_zn _) (fun obj => args_init_zn obj _) PySem.F.entry_zip_new (new_zn rows hn) ?_
  refine ⟨hr, fun h' z TI TO L a1 a2 a3 a4 a5 => ?_⟩
  show _ ∧ _
  exact ⟨a3.zh, hQ h' z TI TO L a1 a2 a3 a4 a5⟩
/-- list(zip(*rows)) -/
theorem call_list_zip {rows : List (Addr × List Value)} {m : Nat} {Q : Value → Shared → Prop} {B : Around} (hh : B.handled = none) (hn : rows.length ≤ sizeLine) (h0 : rows ≠ []) (hm : m ≤ sizeLine) (hm0 : 0 < m) (hr : ∀ r ∈ rows, s.heap.IsTuple r.1 r.2.toArray ∧ r.2.length = m)
    (hQ : ∀ h' S Ts c, IsLs h' S (Ts.map Value.ref) c → Ts.length = m → Ts.Nodup → S ∉ Ts → (∀ T ∈ S :: Ts, s.heap.objs.size ≤ T) → (∀ j T, Ts[j]? = some T → IsTp h' T (rows.map fun r => r.2.getD j .none)) → (∀ b o, s.heap.get? b = some o → h'.get? b = some o) → Q (.ref S) { s with heap := h' }) :
    wpAny (model prog w) A (call (.type "zip") (rows.map fun r => Value.ref r.1)) (fun v s' => ∃ z, v = .ref z ∧ ∀ E, wpAny (model prog w) B (call (.type "list") [.ref z]) Q E s') E s := by
  refine call_zn hn (fun r hr' => (hr r hr').1) fun h' z TI TO L a1 a2 a3 a4 ⟨g1, g2, g3, g4, _⟩ => ⟨z, rfl, fun E => ?_⟩
  cases L with
  | nil => exact absurd a1.symm h0
  | cons p L =>
    have hLn : (p :: L).length = rows.length := by rw [← a1, List.length_map]
    have hx : ∀ q ∈ p :: L, q.xs.length = m := fun q hq => (hr (q.src, q.xs) (by rw [← a1]; exact List.mem_map.mpr ⟨q, hq, rfl⟩)).2
    refine list_zip (s := { s with heap := h' }) hh a2 (by rw [hLn]; exact hn) hm hx a3 fun h'' Ts c b1 b2 b3 b4 => ?_
    have old : ∀ b o, s.heap.get? b = some o → b < s.heap.objs.size := fun b o e => Heap.lt_size e
    refine hQ h'' h'.objs.size Ts c b1 b2 b3.nd (fun z => Nat.lt_irrefl _ (b3.ge _ z)) (fun T hT => ?_) (fun j T hT => ?_) fun b o e => b4 b o (fun q => ?_) (fun q => ?_) (fun q => ?_) (a4 b o e)
    · rcases List.mem_cons.mp hT with e | e
      · rw [e]; exact g4
      · exact Nat.le_trans g4 (Nat.le_of_succ_le (b3.ge T e))
    · have := b3.at_ j T hT
      rw [← a1, List.map_map]
      exact this
    · have := old b o e
      rw [q] at this
      exact Nat.lt_irrefl _ (Nat.lt_of_lt_of_le this g1)
    · have := old b o e
      rw [q] at this
      exact Nat.lt_irrefl _ (Nat.lt_of_lt_of_le this g2)
    · obtain ⟨x, hx1, e1⟩ := List.mem_map.mp q
      have := old b o e
      rw [← show x.it = b from e1] at this
      exact Nat.lt_irrefl _ (Nat.lt_of_lt_of_le this (g3 x hx1))
end

/-! ### many objects laid at once -/
def Lay : Hp → List (Addr × List V) → Hp → Prop
  | H, [], H' => H' = H
  | H, p :: r, H' => H p.1 = none ∧ Lay (upd H p.1 (.tup p.2)) r H'
section
variable {X : Cx} {pins : List (Addr × Obj)} {σ : L2.St} {s : Shared} {h' : Heap}
theorem lay_many : ∀ (W : List (Addr × List V × List Value)) (H : Hp) (G : Heap), (W.map (·.1)).Nodup → Inv X pins σ H { s with heap := G } → (∀ t ∈ W, G.get? t.1 = none ∧ H t.1 = none) → (∀ b u, G.get? b = some u → h'.get? b = some u) →
    (∀ t ∈ W, Vals t.2.1 t.2.2 ∧ IsTp h' t.1 t.2.2 ∧ t.2.1.length ≤ sizeLine) →
    ∃ H2 G2, Lay H (W.map fun t => (t.1, t.2.1)) H2 ∧ Inv X pins σ H2 { s with heap := G2 } ∧ (∀ b u, G2.get? b = some u → h'.get? b = some u) ∧ ∀ b, b ∉ W.map (·.1) → G2.get? b = G.get? b ∧ H2 b = H b
  | [], H, G, _, I, _, k, _ => ⟨H, G, rfl, I, k, fun _ _ => ⟨rfl, rfl⟩⟩
  | t :: W, H, G, nd, I, n, k, g => by
    have nd' := List.nodup_cons.mp nd
    obtain ⟨v1, v2, v3⟩ := g t List.mem_cons_self
    obtain ⟨n1, n2⟩ := n t List.mem_cons_self
    obtain ⟨G1, r1, r2⟩ := restrict h' fun b => decide (b = t.1) || (G.get? b).isSome
    have gG : ∀ b u, G.get? b = some u → G1.get? b = some u := fun b u e => by
      rw [r1 b (by simp [e])]
      exact k b u e
    have gt : IsTp G1 t.1 t.2.2 := (r1 t.1 (by simp)).trans v2
    have sub : ∀ b u, G1.get? b = some u → h'.get? b = some u := fun b u e => by
      cases q : (decide (b = t.1) || (G.get? b).isSome) with
      | true => rw [← r1 b q]; exact e
      | false => rw [r2 b q] at e; cases e
    have oth : ∀ b, b ≠ t.1 → G1.get? b = G.get? b := fun b hb => by
      cases e : G.get? b with
      | some u => exact gG b u e
      | none => exact r2 b (by simp [e, hb])
    have I1 : Inv X pins σ (upd H t.1 (.tup t.2.1)) { s with heap := G1 } := Inv.laidN (s := { s with heap := G }) (t' := s.toks) I gG n1 n2 ⟨v3, t.2.2, v1, ⟨_, gt, rfl, _, rfl⟩⟩
    have ne : ∀ q ∈ W, q.1 ≠ t.1 := fun q hq e => nd'.1 (List.mem_map.mpr ⟨q, hq, e⟩)
    obtain ⟨H2, G2, a1, a2, a3, a4⟩ := lay_many W (upd H t.1 (.tup t.2.1)) G1 nd'.2 I1 (fun q hq => ⟨by rw [oth _ (ne q hq)]; exact (n q (List.mem_cons_of_mem _ hq)).1, by rw [upd_ne (ne q hq)]; exact (n q (List.mem_cons_of_mem _ hq)).2⟩) sub fun q hq => g q (List.mem_cons_of_mem _ hq)
    refine ⟨H2, G2, ⟨n2, a1⟩, a2, a3, fun b hb => ?_⟩
    have hb1 : b ≠ t.1 := fun z => hb (by rw [z]; exact List.mem_cons_self)
    obtain ⟨c1, c2⟩ := a4 b fun z => hb (List.mem_cons_of_mem _ z)
    exact ⟨c1.trans (oth b hb1), c2.trans (upd_ne hb1)⟩
end
theorem vals_refs : ∀ Ts : List Addr, Vals (Ts.map V.ref) (Ts.map Value.ref)
  | [] => .nil
  | T :: Ts => .cons rfl (vals_refs Ts)
theorem vals_refs_eq : ∀ {Ts : List Addr} {us : List Value}, Vals (Ts.map V.ref) us → us = Ts.map Value.ref
  | [], _, .nil => rfl
  | T :: Ts, _, .cons r t => by
    obtain rfl : _ = Value.ref T := r
    rw [vals_refs_eq t]
    rfl
theorem zip_zip_fst {α β γ : Type} : ∀ (as : List α) (bs : List β) (cs : List γ), bs.length ≤ cs.length → (as.zip (bs.zip cs)).map (fun t => (t.1, t.2.1)) = as.zip bs
  | [], _, _, _ => by simp
  | _ :: _, [], _, _ => by simp
  | _ :: _, _ :: _, [], h => by simp at h
  | a :: as, b :: bs, c :: cs, h => by
    simp only [List.zip_cons_cons, List.map_cons]
    rw [zip_zip_fst as bs cs (by simpa using h)]
def colsV (m : Nat) (rxs : List (Addr × List V)) : List (List V) := (List.range m).map fun j => rxs.map fun r => r.2.getD j .non
/-- list(zip(*e)), e a tuple of tuples of one length -/
def tLZ (K : PySem.W.Frag) (te : TE) : TE := fun σ H Q => te σ H fun x H1 => ∃ (p : Addr) (rxs : List (Addr × List V)) (m : Nat), x = .ref p ∧ SqT K H1 p (rxs.map fun r => V.ref r.1) ∧ rxs ≠ [] ∧ rxs.length ≤ sizeLine ∧ 0 < m ∧ m ≤ sizeLine ∧ (∀ r ∈ rxs, SqT K H1 r.1 r.2 ∧ r.2.length = m) ∧
  ∀ (Ts : List Addr) (H2 : Hp) (a : Addr), Ts.length = m → Lay H1 (Ts.zip (colsV m rxs)) H2 → H2 a = none → Q (.ref a) (upd H2 a (.lst (Ts.map V.ref)))
section
variable {X : Cx}
theorem rows_of {pins : List (Addr × Obj)} {σ : L2.St} {H : Hp} {s : Shared} (I : Inv X pins σ H s) : ∀ {rxs : List (Addr × List V)}, (∀ r ∈ rxs, SqT X.K H r.1 r.2) → ∃ rows : List (Addr × List Value), rows.map (·.1) = rxs.map (·.1) ∧ (∀ r ∈ rows, s.heap.IsTuple r.1 r.2.toArray) ∧ (∀ m, (∀ r ∈ rxs, r.2.length = m) → ∀ r ∈ rows, r.2.length = m) ∧
      ∀ j, Vals (rxs.map fun r => r.2.getD j .non) (rows.map fun r => r.2.getD j .none)
  | [], _ => ⟨[], rfl, fun _ h => (by cases h), fun _ _ _ h => (by cases h), fun _ => .nil⟩
  | r :: rxs, h => by
    obtain ⟨rows, a1, a2, a3, a4⟩ := rows_of I (rxs := rxs) fun q hq => h q (List.mem_cons_of_mem _ hq)
    obtain ⟨its, rv, p, hz⟩ := I.tuple (h r List.mem_cons_self)
    refine ⟨(r.1, its) :: rows, by rw [List.map_cons, List.map_cons, a1], fun q hq => ?_, fun m hm q hq => ?_, fun j => ?_⟩
    · rcases List.mem_cons.mp hq with e | e
      · rw [e]; exact p
      · exact a2 q e
    · rcases List.mem_cons.mp hq with e | e
      · rw [e]; exact rv.length.symm.trans (hm r List.mem_cons_self)
      · exact a3 m (fun x hx => hm x (List.mem_cons_of_mem _ hx)) q e
    · refine .cons ?_ (a4 j)
      cases e : r.2[j]? with
      | none =>
        have e2 : its[j]? = none := List.getElem?_eq_none (by rw [← rv.length]; exact List.getElem?_eq_none_iff.mp e)
        simp only [List.getD, e, e2, Option.getD_none]
        rfl
      | some x =>
        obtain ⟨u, hu, ru⟩ := rv.get e
        simp only [List.getD, e, hu, Option.getD_some]
        exact ru
theorem pe_listZip {e : Expr} {te : TE} {p1 p2 p3 p4 p5 : Pos} (hl : Gl X "list") (hml : X.mg "list" = none) (hbl : bootBuiltins "list" = some (.type "list")) (hz : Gl X "zip") (hmz : X.mg "zip" = none) (he : PE X e te) (hcalm : X.calm = true)
    (h1 : starEach [.Call (.Name "zip" p2) [.Starred e p3] [] p4] X.env = (false, eval (.Call (.Name "zip" p2) [.Starred e p3] [] p4) X.env) :: starEach [] X.env := by rfl)
    (h2 : starEach [.Starred e p3] X.env = [(true, eval e X.env)] := by rfl) :
    PE X (.Call (.Name "list" p1) [.Call (.Name "zip" p2) [.Starred e p3] [] p4] [] p5) (tLZ X.K te) := by
  refine ⟨fun pins s σ H Q I h => ?_⟩
  refine wpAny_Call_Name_kw (ld_blt I hl hml hbl ?_)
  refine PyProof.Rows.callWith_type1 ?_ h1 rfl
  rw [h1]
  show wpAny _ _ (spliced ((false, eval (.Call (.Name "zip" p2) [.Starred e p3] [] p4) X.env) :: [])) _ _ s
  refine Calls.spliced_cons ?_
  refine wpAny_Call_Name_kw (ld_blt I hz hmz PyProof.Rows.boot_zip ?_)
  rw [h2]
  show wpAny _ _ (callWith p4 (.type "zip") [] [(true, (do let v ← eval e X.env; standAt p4; pure v))] []) _ _ s
  refine PySem.W.ks_call (P := fun _ => True) rfl (fun _ _ => ⟨.machine, .inr (.inl rfl), PySem.W.Looks.now⟩) (PySem.W.ks_lone (thn (he.run pins s σ H _ I h) fun v s1 ⟨x, H1, I1, rx, p, rxs, m, ex, hp, hne, hl, hm0, hm, hr, q⟩ => ?_))
  subst ex
  obtain rfl : v = Value.ref p := rx
  refine StX.star_any I1 (.inl hp) fun us s2 I2 rv => ⟨trivial, ?_⟩
  obtain ⟨rows, a1, a2, a3, a4⟩ := rows_of I2 fun r hr' => (hr r hr').1
  have eu : us = rows.map fun r => Value.ref r.1 := by
    have e1 : (rxs.map fun r => V.ref r.1) = (rxs.map (·.1)).map V.ref := by rw [List.map_map]; rfl
    rw [e1] at rv
    rw [vals_refs_eq rv, ← a1, List.map_map]
    rfl
  subst eu
  have hlr : rows.length = rxs.length := by rw [← List.length_map (f := (·.1)), a1, List.length_map]
  show wpAny _ _ (call (.type "zip") (rows.map fun r => Value.ref r.1)) _ _ _
  refine thn (call_list_zip (m := m) (B := X.A) (Q := EP X pins σ Q) (I.ok.hd hcalm) (by rw [hlr]; exact hl) (fun z => hne (by
    rw [z] at hlr
    exact List.length_eq_zero_iff.mp hlr.symm)) hm hm0 (fun r hr' => ⟨a2 r hr', a3 m (fun r hr' => (hr r hr').2) r hr'⟩) fun h' S Ts c b1 b2 b3 b4 b5 b6 b7 => ?_) fun v s' ⟨z, ev, hz⟩ => ?_
  · have nT : ∀ T ∈ S :: Ts, s2.heap.get? T = none ∧ H1 T = none := fun T hT => ⟨Heap.get?_none_of_le (b5 T hT), I2.hok.fresh (b5 T hT)⟩
    have lW : (Ts.zip ((colsV m rxs).zip ((List.range m).map fun j => rows.map fun r => r.2.getD j .none))).map (·.1) = Ts := by
      rw [List.map_fst_zip]
      simp [colsV, b2]
    obtain ⟨H2, G2, c1, c2, c3, c4⟩ := lay_many (s := s2) (h' := h') (Ts.zip ((colsV m rxs).zip ((List.range m).map fun j => rows.map fun r => r.2.getD j .none))) H1 s2.heap (by rw [lW]; exact b3) I2 (fun t ht => nT t.1 (List.mem_cons_of_mem _ (by rw [← lW]; exact List.mem_map.mpr ⟨t, ht, rfl⟩))) b7 fun t ht => by
      obtain ⟨j, hj⟩ := List.getElem?_of_mem ht
      rw [List.getElem?_zip_eq_some, List.getElem?_zip_eq_some] at hj
      obtain ⟨hj1, hj2, hj3⟩ := hj
      have hjm : j < m := by
        have := (List.getElem?_eq_some_iff.mp hj1).1
        rw [b2] at this
        exact this
      unfold colsV at hj2
      rw [List.getElem?_map, List.getElem?_range hjm] at hj2 hj3
      have e1 : (rxs.map fun r => r.2.getD j .non) = t.2.1 := Option.some.inj hj2
      have e2 : (rows.map fun r => r.2.getD j .none) = t.2.2 := Option.some.inj hj3
      rw [← e1, ← e2]
      exact ⟨a4 j, b6 j t.1 hj1, by rw [List.length_map]; exact hl⟩
    rw [zip_zip_fst _ _ _ (by simp [colsV])] at c1
    obtain ⟨d1, d2⟩ := c4 S (by rw [lW]; exact b4)
    obtain ⟨n1, n2⟩ := nT S List.mem_cons_self
    refine ⟨.ref S, upd H2 S (.lst (Ts.map V.ref)), Inv.laidN (s := { s2 with heap := G2 }) (t' := s2.toks) c2 c3 (d1.trans n1) (d2.trans n2) ⟨by rw [List.length_map, b2]; exact hm, Ts.map Value.ref, c, vals_refs Ts, b1⟩, rfl, q Ts H2 S b2 c1 (d2.trans n2)⟩
  · subst ev
    exact Calls.spliced_nil (hz _)
end
end DL

-- DZip
set_option maxHeartbeats 4000000
/-! DZip: list(zip(*e)), e a tuple of tuples of one length -/
namespace DL
open PySem PySem.Spec PyProof.Rows L2
def rowsD : List D → Option (List (List D))
  | [] => some []
  | .tup xs :: r => match rowsD r with
    | some xss => some (xs :: xss)
    | none => none
  | _ :: _ => none
def colsD (m : Nat) (xss : List (List D)) : List D := (List.range m).map fun j => .tup (xss.map fun xs => xs.getD j .non)
def zcolD : D → Option D
  | .tup rows => match rowsD rows with
    | some (xs :: xss) => if 0 < xs.length ∧ xs.length ≤ lim ∧ rows.length ≤ lim ∧ (∀ ys ∈ xss, ys.length = xs.length) then some (.lst (colsD xs.length (xs :: xss))) else none
    | _ => none
  | _ => none
section
variable {B : Bs} {G H : Hp}
theorem lay_grow : ∀ {W : List (Addr × List V)} {G H H2 : Hp}, Lay H W H2 → Same G H → ∃ G2, Grow G H G2 H2 ∧ ∀ w ∈ W, G2 w.1 = some (.tup w.2)
  | [], G, H, _, h, e => by
    obtain rfl : _ = H := h
    exact ⟨G, Grow.refl e, fun _ h => by cases h⟩
  | w :: W, G, H, H2, ⟨n, h⟩, e => by
    have g := Grow.new (o := .tup w.2) e n
    obtain ⟨G2, g2, h2⟩ := lay_grow h g.ex
    refine ⟨G2, g.trans g2, fun x hx => ?_⟩
    rcases List.mem_cons.mp hx with q | q
    · subst q
      exact g2.g _ _ upd_same
    · exact h2 x q
theorem rowsD_rep : ∀ {rows : List D} {xss : List (List D)} {vs : List V}, rowsD rows = some xss → Reps B G rows vs → ∃ rxs : List (Addr × List V), vs = rxs.map (fun r => V.ref r.1) ∧ xss.length = rxs.length ∧ rows.length = rxs.length ∧ (∀ r ∈ rxs, SqT B.K G r.1 r.2) ∧
    (∀ m, (∀ ys ∈ xss, ys.length = m) → ∀ r ∈ rxs, r.2.length = m) ∧ ∀ j, Reps B G (xss.map fun xs => xs.getD j .non) (rxs.map fun r => r.2.getD j .non)
  | [], _, _, h, q => by
    cases h
    cases q
    exact ⟨[], rfl, rfl, rfl, fun _ h => (by cases h), fun _ _ _ h => (by cases h), fun _ => .nil⟩
  | d :: rows, xss, vs, h, ⟨v, r, e, hd, t⟩ => by
    subst e
    cases d with
    | tup xs =>
      unfold rowsD at h
      cases e : rowsD rows with
      | none => rw [e] at h; cases h
      | some yss =>
        rw [e] at h
        cases h
        obtain ⟨rxs, rfl, a1, a0, a2, a3, a4⟩ := rowsD_rep e t
        obtain ⟨a, ws, rfl, hq, hr⟩ := hd
        refine ⟨(a, ws) :: rxs, rfl, by simp [a1], by simp [a0], fun x hx => ?_, fun m hm x hx => ?_, fun j => .cons ?_ (a4 j)⟩
        · rcases List.mem_cons.mp hx with q | q
          · subst q; exact hq
          · exact a2 x q
        · rcases List.mem_cons.mp hx with q | q
          · subst q; exact hr.length.symm.trans (hm xs List.mem_cons_self)
          · exact a3 m (fun y hy => hm y (List.mem_cons_of_mem _ hy)) x q
        · show Rep B G (xs.getD j .non) (ws.getD j .non)
          cases e : xs[j]? with
          | none =>
            have e2 : ws[j]? = none := List.getElem?_eq_none (by rw [← hr.length]; exact List.getElem?_eq_none_iff.mp e)
            simp only [List.getD, e, e2, Option.getD_none]
            rfl
          | some x =>
            obtain ⟨u, hu, ru⟩ := hr.get e
            simp only [List.getD, e, hu, Option.getD_some]
            exact ru
    | _ => cases h
theorem zcolD_ok {d y : D} (h : zcolD d = some y) : ∃ rows xs xss, d = .tup rows ∧ rowsD rows = some (xs :: xss) ∧ (0 < xs.length ∧ xs.length ≤ lim ∧ rows.length ≤ lim ∧ ∀ ys ∈ xss, ys.length = xs.length) ∧ y = .lst (colsD xs.length (xs :: xss)) := by
  cases d with
  | tup rows =>
    cases e : rowsD rows with
    | none => simp only [zcolD, e] at h; cases h
    | some l =>
      cases l with
      | nil => simp only [zcolD, e] at h; cases h
      | cons xs xss =>
        by_cases c : 0 < xs.length ∧ xs.length ≤ lim ∧ rows.length ≤ lim ∧ ∀ ys ∈ xss, ys.length = xs.length
        · refine ⟨rows, xs, xss, rfl, e, c, ?_⟩
          have h' : (if 0 < xs.length ∧ xs.length ≤ lim ∧ rows.length ≤ lim ∧ (∀ ys ∈ xss, ys.length = xs.length) then some (D.lst (colsD xs.length (xs :: xss))) else none) = some y := by
            simp only [zcolD, e] at h
            exact h
          rw [if_pos c] at h'
          exact (Option.some.inj h').symm
        · have h' : (if 0 < xs.length ∧ xs.length ≤ lim ∧ rows.length ≤ lim ∧ (∀ ys ∈ xss, ys.length = xs.length) then some (D.lst (colsD xs.length (xs :: xss))) else none) = some y := by
            simp only [zcolD, e] at h
            exact h
          rw [if_neg c] at h'
          cases h'
  | _ => cases h
theorem cols_rep : ∀ (js : List Nat) {G2 : Hp} {Ts : List Addr} {xss : List (List D)} {rxs : List (Addr × List V)}, Ts.length = js.length → (∀ j, Reps B G2 (xss.map fun xs => xs.getD j .non) (rxs.map fun r => r.2.getD j .non)) →
    (∀ w ∈ Ts.zip (js.map fun j => rxs.map fun r => r.2.getD j .non), G2 w.1 = some (.tup w.2)) → Reps B G2 (js.map fun j => D.tup (xss.map fun xs => xs.getD j .non)) (Ts.map V.ref)
  | [], _, [], _, _, _, _, _ => .nil
  | [], _, _ :: _, _, _, h, _, _ => by simp at h
  | _ :: _, _, [], _, _, h, _, _ => by simp at h
  | j :: js, G2, T :: Ts, xss, rxs, hl, hr, hw => .cons ⟨T, _, rfl, .inl (.inl (hw (T, _) List.mem_cons_self)), hr j⟩ (cols_rep js (by simpa using hl) hr fun w hw' => hw w (List.mem_cons_of_mem _ hw'))
end
section
variable {X : Cx} {B : Bs} {W : XK} {e : Expr} {m : M D} {p1 p2 p3 p4 p5 : Pos}
theorem do_listZip (hC : Ctx X B W) (hl : Gl X "list") (hml : X.mg "list" = none) (hbl : bootBuiltins "list" = some (.type "list")) (hz : Gl X "zip") (hmz : X.mg "zip" = none) (he : DE X B W e m)
    (h1 : starEach [.Call (.Name "zip" p2) [.Starred e p3] [] p4] X.env = (false, eval (.Call (.Name "zip" p2) [.Starred e p3] [] p4) X.env) :: starEach [] X.env := by rfl)
    (h2 : starEach [.Starred e p3] X.env = [(true, eval e X.env)] := by rfl) :
    DO X B W (.Call (.Name "list" p1) [.Call (.Name "zip" p2) [.Starred e p3] [] p4] [] p5) (mLft m zcolD) :=
  PE.imp (pe_listZip hl hml hbl hz hmz he hC.calm h1 h2) fun σ H Q ⟨G0, H0, G, z, r, z', R, hm, hA⟩ => by
    obtain ⟨r1, z1, m1, A1⟩ := After.bnd (K := fun d G1 H1 => ∀ v, Rep B G1 d v → ∃ (p : Addr) (rxs : List (Addr × List V)) (m : Nat), v = .ref p ∧ SqT X.K H1 p (rxs.map fun r => V.ref r.1) ∧ rxs ≠ [] ∧ rxs.length ≤ sizeLine ∧ 0 < m ∧ m ≤ sizeLine ∧ (∀ r ∈ rxs, SqT X.K H1 r.1 r.2 ∧ r.2.length = m) ∧
      ∀ (Ts : List Addr) (H2 : Hp) (a : Addr), Ts.length = m → Lay H1 (Ts.zip (colsV m rxs)) H2 → H2 a = none → Q (.ref a) (upd H2 a (.lst (Ts.map V.ref)))) hm hA fun d z1 G1 H1 R1 s1 hm hA v q1 => by
      obtain ⟨y, hf, rfl, rfl⟩ := lft_ok hm
      obtain ⟨rows, xs, xss, rfl, h3, ⟨c1, c2, c3, c4⟩, rfl⟩ := zcolD_ok hf
      obtain ⟨p, vs, rfl, hp, hr⟩ := q1
      obtain ⟨rxs, rfl, a1, a0, a2, a3, a4⟩ := rowsD_rep h3 hr
      have lm : ∀ r ∈ rxs, r.2.length = xs.length := a3 xs.length fun ys hy => by
        rcases List.mem_cons.mp hy with q | q
        · rw [q]
        · exact c4 ys q
      refine ⟨p, rxs, xs.length, rfl, by rw [← hC.hK]; exact sqT_mono R1.ex hp, fun z => by rw [z] at a1; simp at a1, by rw [← a0, lim_eq]; exact c3, c1, by rw [lim_eq]; exact c2, fun r hr' => ⟨by rw [← hC.hK]; exact sqT_mono R1.ex (a2 r hr'), lm r hr'⟩, fun Ts H2 a hT hL hn => ?_⟩
      obtain ⟨G2, g2, w2⟩ := lay_grow hL R1.ex
      have R2 := R1.grow g2
      have rep : Reps B G2 (colsD xs.length (xs :: xss)) (Ts.map V.ref) := cols_rep (List.range xs.length) (by rw [hT, List.length_range]) (fun j => Reps.mono g2.g _ _ (a4 j)) w2
      refine tO_of (k := fun _ _ _ => True) R2 (.inl ⟨_, _, rfl, rfl, rep⟩) (fun G' H' R' sg => hA G' H' R' (g2.g.trans sg)) a hn
    exact ⟨G0, H0, G, z, r1, z1, R, m1, A1⟩
end
end DL

-- DRawZ3
set_option maxHeartbeats 2000000
/-! DRawZ3: for x in zip(a, b), two tuples of one length, the pairs kept -/
namespace DL
open PySem PySem.Spec PyProof.Rows L2 RZ
def ItzN (K : PySem.W.Frag) (a b : Addr) : It :=
  ⟨fun i H => ∃ (xs ys : List V) (x y : V), SqT K H a xs ∧ SqT K H b ys ∧ xs[i]? = some x ∧ ys[i]? = some y,
    fun i H v H' => ∃ T x y, v = .ref T ∧ H T = none ∧ H' = upd H T (.tup [x, y]) ∧ (∀ xs, SqT K H a xs → xs[i]? = some x) ∧ ∀ ys, SqT K H b ys → ys[i]? = some y,
    fun i H => ∃ xs ys : List V, SqT K H a xs ∧ SqT K H b ys ∧ xs.length = i ∧ ys.length = i⟩
structure ApN (z TI TO i1 i2 a b : Addr) : Prop where
  ap : ∀ xs ys : List Value, Ap z TI TO [⟨i1, a, xs⟩, ⟨i2, b, ys⟩]
theorem ApN.of {z TI TO : Addr} {p q : ZL} (D : Ap z TI TO [p, q]) : ApN z TI TO p.it q.it p.src q.src := ⟨fun xs ys => ⟨D.TIz, D.TOz, D.TITO, D.nd, fun r hr => by
  rcases List.mem_cons.mp hr with e | e
  · subst e; exact D.it p List.mem_cons_self
  · obtain rfl := List.mem_singleton.mp e; exact D.it q (List.mem_cons_of_mem _ List.mem_cons_self), fun r hr => by
  rcases List.mem_cons.mp hr with e | e
  · subst e; exact D.src p List.mem_cons_self
  · obtain rfl := List.mem_singleton.mp e; exact D.src q (List.mem_cons_of_mem _ List.mem_cons_self)⟩⟩
structure ZtN (h : Heap) (z TI TO i1 i2 a b : Addr) (k : Nat) : Prop where
  f1 : h.IsTupleIter i1 a k
  f2 : h.IsTupleIter i2 b k
  ti : IsTp h TI [Value.ref i1, Value.ref i2]
  to : ∃ vs : List Value, vs.length = 2 ∧ IsTp h TO vs
  zo : ∃ f0 b, IsZp h z TI TO f0 (.bool b) ∧ (f0 = .none ∨ ∃ T : Addr, f0 = rawInt T)
theorem ZtN.zt {h : Heap} {z TI TO i1 i2 a b : Addr} {k : Nat} (t : ZtN h z TI TO i1 i2 a b k) {xs ys : List Value} (h1 : h.IsTuple a xs.toArray) (h2 : h.IsTuple b ys.toArray) : Zt h z TI TO [⟨i1, a, xs⟩, ⟨i2, b, ys⟩] k where
  its := fun r hr => by
    rcases List.mem_cons.mp hr with e | e
    · subst e; exact t.f1
    · obtain rfl := List.mem_singleton.mp e; exact t.f2
  src := fun r hr => by
    rcases List.mem_cons.mp hr with e | e
    · subst e; exact h1
    · obtain rfl := List.mem_singleton.mp e; exact h2
  ti := t.ti
  to := t.to
  zo := t.zo
theorem ZtN.of {h : Heap} {z TI TO : Addr} {k : Nat} {p q : ZL} (t : Zt h z TI TO [p, q] k) : ZtN h z TI TO p.it q.it p.src q.src k :=
  ⟨t.its p List.mem_cons_self, t.its q (List.mem_cons_of_mem _ List.mem_cons_self), t.ti, t.to, t.zo⟩
theorem ZtN.lt {h : Heap} {z TI TO i1 i2 a b : Addr} {k : Nat} (t : ZtN h z TI TO i1 i2 a b k) : ∀ c ∈ [z, TI, TO, i1, i2], ∃ o, h.get? c = some o ∧ ∀ v, o.data ≠ .cell v := fun c hc => by
  obtain ⟨o1, e1, _, d1⟩ := t.f1
  obtain ⟨o2, e2, _, d2⟩ := t.f2
  obtain ⟨f0, b', hz, _⟩ := t.zo
  obtain ⟨vs, _, hTO⟩ := t.to
  have e' : c = z ∨ c = TI ∨ c = TO ∨ c = i1 ∨ c = i2 := by simpa using hc
  rcases e' with q | q | q | q | q
  · rw [q]; exact ⟨_, hz, fun v q => nomatch q⟩
  · rw [q]; exact ⟨_, t.ti, fun v q => nomatch q⟩
  · rw [q]; exact ⟨_, hTO, fun v q => nomatch q⟩
  · rw [q]; exact ⟨o1, e1, fun v q => by rw [d1] at q; cases q⟩
  · rw [q]; exact ⟨o2, e2, fun v q => by rw [d2] at q; cases q⟩
theorem turn_zipN {P : Program} {w : World} {K : PySem.W.Frag} {x : Str} {tpos : Pos} {a b z TI TO i1 i2 : Addr} (D : ApN z TI TO i1 i2 a b) :
    Turn P w K (.Name x tpos) (ItzN K a b) [z, TI, TO, i1, i2] z (fun i h => ZtN h z TI TO i1 i2 a b i) where
  mem := by simp
  obj := fun i h st => st.lt
  keep := fun i h h' t k => ⟨isIter_keep t.f1 fun o e => k i1 (by simp) o e, isIter_keep t.f2 fun o e => k i2 (by simp) o e, k TI (by simp) _ t.ti, let ⟨vs, h1, h2⟩ := t.to; ⟨vs, h1, k TO (by simp) _ h2⟩, let ⟨f0, b, e, r⟩ := t.zo; ⟨f0, b, k z (by simp) _ e, r⟩⟩
  item := by
    intro X hP hw hK hc i pins s σ H E I hf t hg
    subst hP hw hK
    obtain ⟨xs, ys, x, y, hqx, hqy, hx, hy⟩ := hg
    obtain ⟨its, rv, p, _⟩ := I.tuple hqx
    obtain ⟨its2, rv2, p2, _⟩ := I.tuple hqy
    obtain ⟨u, hu, ru⟩ := rv.get hx
    obtain ⟨u2, hu2, ru2⟩ := rv2.get hy
    have lt1 : i < its.length := (List.getElem?_eq_some_iff.mp hu).1
    have lt2 : i < its2.length := (List.getElem?_eq_some_iff.mp hu2).1
    refine pyNext_zn_item (D.ap its its2) (t.zt p p2) (List.cons_ne_nil _ _) (fun r hr => ?_) (show 2 ≤ sizeLine by decide) fun h' t1 hT hsz hk => ⟨_, rfl, ?_⟩
    · rcases List.mem_cons.mp hr with e | e
      · subst e; exact lt1
      · obtain rfl := List.mem_singleton.mp e; exact lt2
    show wpAny _ _ (pure ()) _ _ _
    have ev : ([⟨i1, a, its⟩, ⟨i2, b, its2⟩] : List ZL).map (valAt i) = [u, u2] := by
      simp [valAt, List.getD, hu, hu2]
    rw [ev] at hT
    have new : ObjOk X.prog X.w (upd H s.heap.objs.size (.tup [x, y])) h' s.heap.objs.size (.tup [x, y]) :=
      ⟨by show 2 ≤ sizeLine; decide, [u, u2], .cons ru (.cons ru2 .nil), ⟨_, hT, rfl, _, rfl⟩⟩
    have I1 : Inv X pins σ (upd H s.heap.objs.size (.tup [x, y])) { s with heap := h' } :=
      I.turnedNew (t' := s.toks) (ch := [z, TI, TO, i1, i2]) (fun c o hb q => hk c o (fun q' => hb (by simp [q'])) (fun q' => hb (by simp [q'])) (fun q' => hb (by
        have e' : c = i1 ∨ c = i2 := by simpa using q'
        rcases e' with e | e <;> simp [e])) q) hf (Nat.le_refl _) new
    refine wpAny_pure ⟨.ref s.heap.objs.size, _, I1, rfl, ⟨_, x, y, rfl, I.hok.fresh (Nat.le_refl _), rfl, fun l hl => by rw [I.tuple_inj hl hqx]; exact hx, fun l hl => by rw [I.tuple_inj hl hqy]; exact hy⟩, ZtN.of t1, fun c hcm => ?_⟩
    obtain ⟨o, ho, _⟩ := t.lt c hcm
    rw [upd_ne (Nat.ne_of_lt (Heap.lt_size ho))]
    exact (hf c hcm).1
  done := by
    intro X hP hw hK hc i pins s σ H E I hf t hg
    subst hP hw hK
    obtain ⟨xs, ys, hqx, hqy, hl1, hl2⟩ := hg
    obtain ⟨its, rv, p, _⟩ := I.tuple hqx
    obtain ⟨its2, rv2, p2, _⟩ := I.tuple hqy
    exact pyNext_zn_end (I.ok.hd hc) (D.ap its its2) (t.zt p p2) (by show its.length ≤ i; rw [← rv.length, hl1]; exact Nat.le_refl _) fun h' hk => ⟨rfl, I.turnedL (t' := s.toks) (ch := [z, TI, TO, i1, i2]) (fun c o hb q =>
      hk c o (fun q' => hb (by simp [q'])) (fun q' => hb (by
        have e' : c = i1 ∨ c = i2 := by simpa using q'
        rcases e' with e | e <;> simp [e])) q) hf⟩
  self := fun A i s Q E t h => by
    obtain ⟨f0, b', hz, _⟩ := t.zo
    have hT : s.TypeIs (.ref z) "zip" := ⟨_, hz, rfl⟩
    refine wpAny_pyIter_slot hT PySem.F.slot_zip_iter (wpAny_call_entry PySem.F.slot_zip_iter hT PySem.F.entry_zip_iter ?_ (PySem.F.args_zip_iter_1 _))
    show wpAny _ _ (PySem.ret (.ref z)) _ _ s
    exact wpAny_pure ⟨_, rfl, "zip", _, hT, PySem.F.slot_zip_next.lookup, h⟩
def iZipN (K : PySem.W.Frag) (ta : TA) : TI := fun σ H R => ta σ H fun vs H1 => ∃ a b xs ys, vs = [.ref a, .ref b] ∧ SqT K H1 a xs ∧ SqT K H1 b ys ∧ R (ItzN K a b) H1
theorem pi_zipN {X : Cx} {e e2 : Expr} {ta : TA} {p pos tpos : Pos} {x : Str} (hg : Gl X "zip") (hm : X.mg "zip" = none) (ha : PA X [e, e2] ta)
    (hs : starEach [e, e2] X.env = (false, eval e X.env) :: starEach [e2] X.env := by rfl) (hpl : (backTo pos (starEach [e2] X.env)).any (·.1) = false := by rfl) :
    PI X (.Name x tpos) (.Call (.Name "zip" p) [e, e2] [] pos) (iZipN X.K ta) := by
  refine ⟨fun pins s σ H R I h => ?_⟩
  refine Call_ (ld_blt I hg hm PyProof.Rows.boot_zip (PyProof.Rows.callWith_type1 (thn (ha.run pos pins s σ H _ I h) fun us s1 ⟨vs, H1, I1, r1, q1⟩ => ?_) hs hpl))
  obtain ⟨a, b, xs, ys, ex, hqx, hqy, q⟩ := q1
  subst ex
  cases r1 with
  | cons r rr =>
    cases rr with
    | cons r' rr =>
      cases rr
      cases r
      cases r'
      obtain ⟨its, rv, p1, _⟩ := I1.tuple hqx
      obtain ⟨its2, rv2, p2, _⟩ := I1.tuple hqy
      refine call_zn (rows := [(a, its), (b, its2)]) (show 2 ≤ sizeLine by decide) (fun r hr => ?_) fun h' z TI TO L a1 a2 a3 a4 ⟨g1, g2, g3, g4, g5⟩ => ?_
      · rcases List.mem_cons.mp hr with e | e
        · subst e; exact p1
        · obtain rfl := List.mem_singleton.mp e; exact p2
      · match L, a1 with
        | [u, v], a1 =>
          injection a1 with e1 a1
          injection a1 with e2 _
          obtain rfl : u.src = a := congrArg Prod.fst e1
          obtain rfl : v.src = b := congrArg Prod.fst e2
          refine pyIter_zn a3 ?_
          have I2 : Inv X pins σ H1 { s1 with heap := h' } := I1.kept (t' := s1.toks) a4
          refine ⟨z, [z, TI, TO, u.it, v.it], _, _, H1, rfl, I2, turn_zipN (ApN.of a2), ZtN.of a3, fun c hcm => ?_, q⟩
          have hle : s1.heap.objs.size ≤ c := by
            have e' : c = z ∨ c = TI ∨ c = TO ∨ c = u.it ∨ c = v.it := by simpa using hcm
            rcases e' with e | e | e | e | e
            · rw [e]; exact g1
            · rw [e]; exact g5
            · rw [e]; exact g2
            · rw [e]; exact g3 u List.mem_cons_self
            · rw [e]; exact g3 v (List.mem_cons_of_mem _ List.mem_cons_self)
          exact I1.fpOk hle (I1.hok.fresh hle)
/-! ### in the plain layer -/
def tupD2 : List D → Option (List D × List D)
  | [.tup xs, .tup ys] => if xs.length = ys.length then some (xs, ys) else none
  | _ => none
def zipND (ds : List D) : Option (List D) := (tupD2 ds).map fun p => zipL p.1 p.2
theorem zipND_ok {ds r : List D} (h : zipND ds = some r) : ∃ xs ys, ds = [.tup xs, .tup ys] ∧ xs.length = ys.length ∧ r = zipL xs ys := by
  unfold zipND at h
  cases e : tupD2 ds with
  | none => rw [e] at h; cases h
  | some p =>
    rw [e] at h
    cases h
    unfold tupD2 at e
    split at e
    · split at e
      · cases e
        exact ⟨_, _, rfl, by assumption, rfl⟩
      · cases e
    · cases e
section
variable {X : Cx} {B : Bs} {W : XK} {a b : Expr} {ms : M (List D)} {pos : Pos}
theorem wk_zipN {G1 : Hp} {a b : Addr} {ds es : List D} {vs us : List V} (hl : ds.length = es.length) (h1 : SqT B.K G1 a vs) (h2 : Reps B G1 ds vs) (h3 : SqT B.K G1 b us) (h4 : Reps B G1 es us) : Wk B G1 (ItzN B.K a b) (zipL ds es) := fun i G H P s1 s2 pn => by
  have q := sqT_mono s2 (sqT_mono s1 h1)
  have q' := sqT_mono s2 (sqT_mono s1 h3)
  refine ⟨fun d hd => ?_, fun hi => ⟨vs, us, q, q', ?_, ?_⟩⟩
  · unfold zipL at hd
    rw [List.getElem?_zipWith] at hd
    cases e : ds[i]? with
    | none => rw [e] at hd; simp at hd
    | some u =>
      cases e2 : es[i]? with
      | none => rw [e, e2] at hd; simp at hd
      | some w =>
        rw [e, e2] at hd
        simp at hd
        subst hd
        obtain ⟨v, q1, q2⟩ := h2.get e
        obtain ⟨v', q3, q4⟩ := h4.get e2
        refine ⟨⟨vs, us, v, v', q, q', q1, q3⟩, fun x H' y => ?_⟩
        obtain ⟨T, w1, w2, rfl, nT, rfl, y, y'⟩ := y
        have y := y vs q
        have y' := y' us q'
        rw [q1] at y
        rw [q3] at y'
        cases y; cases y'
        have g := Grow.new (o := .tup [v, v']) s2 nT
        exact ⟨_, g, T, _, rfl, .inl (.inl upd_same), .cons (Rep.mono (s1.trans g.g) _ _ q2) (.cons (Rep.mono (s1.trans g.g) _ _ q4) .nil)⟩
  · rw [← h2.length, ← hi]
    simp [zipL, hl]
  · rw [← h4.length, ← hi]
    simp [zipL, hl]
theorem di_zipN {p tpos : Pos} {x : Str} (hc : Ctx X B W) (hg : Gl X "zip") (hm : X.mg "zip" = none) (ha : DA X B W [a, b] ms) (hs : starEach [a, b] X.env = (false, eval a X.env) :: starEach [b] X.env := by rfl) (hpl : (backTo pos (starEach [b] X.env)).any (·.1) = false := by rfl) :
    DI X B W (.Name x tpos) (.Call (.Name "zip" p) [a, b] [] pos) (mLft ms zipND) := PI.imp (pi_zipN hg hm ha hs hpl) fun σ H R ⟨G0, H0, G, z, r, z', Rl, hm, hA⟩ => by
  obtain ⟨r1, z1, m1, A1⟩ := After.bnd (K := fun ds G1 H1 => ∀ vs, Reps B G1 ds vs → ∃ a b xs ys, vs = [.ref a, .ref b] ∧ SqT X.K H1 a xs ∧ SqT X.K H1 b ys ∧ R (ItzN X.K a b) H1) hm hA fun ds z1 G1 H1 R1 s1 hm hA vs q1 => by
    obtain ⟨ds', hf, rfl, rfl⟩ := lft_ok hm
    rw [← hc.hK]
    obtain ⟨xs, ys, rfl, hl, rfl⟩ := zipND_ok hf
    obtain ⟨v, u, rfl, q, q'⟩ := Reps.two q1
    obtain ⟨a, vs, rfl, h1, h2⟩ := q
    obtain ⟨b, us, rfl, h3, h4⟩ := q'
    exact ⟨a, b, vs, us, rfl, sqT_mono R1.ex h1, sqT_mono R1.ex h3, hA G1 H1 R1 (Same.refl _) _ (wk_zipN hl h1 h2 h3 h4)⟩
  exact ⟨G0, H0, G, z, r1, z1, Rl, m1, A1⟩
end
end DL

-- DLaw
set_option maxHeartbeats 4000000
/-! DLaw: the def law: its pen is made, then the rest runs by a plain function -/
namespace DL
open PySem PySem.Spec PyProof.Rows L2
/-- what law promises: True at every script -/
def spLaw (K : PySem.W.Frag) (T : List (Addr × Str)) : Sp := fun vs H Q _ => ∃ (a : Addr) (ns : List Int), vs = [.ref a] ∧ SqL K H a (ns.map V.int) ∧ ns.length ≤ 63 ∧ (∀ z ∈ ns, Builtin.Int.intBits z ≤ 1048576) ∧ (∀ p ∈ T, H p.1 = some (.tbl #[])) ∧ ∀ H', Q (.bl true) H'
theorem ints_reps {B : Bs} {G : Hp} : ∀ (ns : List Int), Reps B G (ns.map D.int) (ns.map V.int)
  | [] => .nil
  | n :: ns => .cons rfl (ints_reps ns)
theorem reps_ints {B : Bs} {G : Hp} : ∀ {ns : List Int} {vs : List V}, Reps B G (ns.map D.int) vs → vs = ns.map V.int
  | [], _, h => by cases h; rfl
  | n :: ns, _, ⟨v, r, e, h, t⟩ => by
    subst e
    cases h
    rw [reps_ints t]
    rfl
theorem start_law {K : PySem.W.Frag} {T : List (Addr × Str)} {H : Hp} {a : Addr} {ns : List Int} (P : Pen) (hT : ∀ p ∈ T, H p.1 = some (.tbl #[])) (hS : SqL K H a (ns.map V.int)) :
    ∃ G, Same G H ∧ PenOk ⟨K, none, T⟩ G H P ∧ Rep ⟨K, none, T⟩ G (.scr (ns.map D.int)) (.ref a) := by
  classical
  refine ⟨fun b => if b ∈ T.map (·.1) then none else H b, fun b u e => ?_, ⟨fun b e => (by cases e), fun b q hq => ?_, fun p hp => ⟨#[], hT p hp, trivial, fun pos cv hc => (by cases hc)⟩⟩, a, _, rfl, ?_, ints_reps ns⟩
  · by_cases hb : b ∈ T.map (·.1)
    · have z := (if_pos hb).symm.trans e; cases z
    · exact (if_neg hb).symm.trans e
  · exact if_pos (List.mem_map.mpr ⟨(b, q), hq, rfl⟩)
  · rcases hS with (h | ⟨o, h⟩) | h
    · have hb : a ∉ T.map (·.1) := fun z => by
        obtain ⟨p, hp, e⟩ := List.mem_map.mp z
        have := hT p hp
        rw [show p.1 = a from e, h] at this
        cases this
      exact .inl (.inl ((if_neg hb).trans h))
    · have hb : a ∉ T.map (·.1) := fun z => by
        obtain ⟨p, hp, e⟩ := List.mem_map.mp z
        have := hT p hp
        rw [show p.1 = a from e, h] at this
        cases this
      exact .inl (.inr ⟨o, (if_neg hb).trans h⟩)
    · exact .inr h
/-- the slots of law when its pen is made -/
def zLaw (N : Nat) (ns : List Int) : Z := ⟨.va (.scr (ns.map D.int)) :: .va .pen :: List.replicate (N - 2) .un, ⟨ns, 0, 0⟩⟩
section
variable {P : Program} {w : World} {K : PySem.W.Frag} {mg : Str → Option Value} {base : Heap}
theorem pss_ex {α : Type} {X : Cx} {sts : List Stmt} {t : α → TS} (h : ∀ a, PSs X sts (t a)) : PSs X sts (fun D σ H => ∃ a, t a D σ H) := ⟨fun pins s σ H D I ⟨a, q⟩ => (h a).run pins s σ H D I q⟩
theorem fn_law {x qual : Str} {st : Stmt} {fa fp cl : Addr} {dp : FuncData} {oc kV doc pm ct : Value} {od an : Option Addr} {osl : Array (Option Value)} {N : List Str} {k k1 : Nat} {m : M Fl} {mp : Mf} {T : List (Addr × Str)} {rest : List Stmt} {q1 q2 q3 q4 q5 : Pos} (lk : K.lookup fa = some ⟨oc, od, .func (PySem.W.fnOf x qual (defArgs st) (defBody st) (defScope st) .none kV doc pm an (.ref cl) ct), osl⟩) (hcd : PySem.W.codeIn K (.ref cl) qual = true) (S : FnScope N ["script"] (defScope st))
    (hb : defBody st = .Assign [.Name "pen" q1] (.Call (.Name "_law_pen" q2) [.Name "script" q3] [] q4) q5 :: rest) (h0 : N[0]? = some ("script" : Str)) (h1 : N[1]? = some ("pen" : Str)) (hN : 2 ≤ N.length)
    (FP : FnOk P w K mg base (L2.CX P w) k1 fp dp ["script"] (spO ⟨K, none, T⟩ 1 mp)) (hk1 : k1 ≤ k) (gp : mg "_law_pen" = some (.ref fp)) (kp : PySem.W.keepIn K (.ref fp) = true) (bp : Binds K dp ["script"] [])
    (hx : Loc (defScope st) "pen") (hv : Vis (defScope st) "script") (hg : ∀ (A : Around) (outer : List Env) (s : Shared) (H : Hp) (E : XK), Gl (cxOf (L2.CX P w) P w K mg base N qual (defScope st) fa (.ref cl) A outer s H E) ("_law_pen" : Str))
    (hbody : ∀ (a : Addr) (A : Around) (outer : List Env) (s : Shared) (H : Hp) (E : XK), Bd (cxOf (L2.CX P w) P w K mg base N qual (defScope st) fa (.ref cl) A outer s H E) ⟨K, some a, T⟩ E k → DSs (cxOf (L2.CX P w) P w K mg base N qual (defScope st) fa (.ref cl) A outer s H E) ⟨K, some a, T⟩ E rest m)
    (hpen : ∀ (ns : List Int) (P : Pen), ns.length ≤ 63 → mp [.scr (ns.map D.int)] P = some (.ok (.lst [.lst (ns.map D.int), .int 0, .int 0]), P))
    (hm : ∀ ns : List Int, ns.length ≤ 63 → (∀ z ∈ ns, Builtin.Int.intBits z ≤ 1048576) → ∃ z', m (zLaw N.length ns) = some (.ok (.rt (.bl true)), z')) :
    FnOk P w K mg base (L2.CX P w) (k + 1) fa (PySem.W.fnOf x qual (defArgs st) (defBody st) (defScope st) .none kV doc pm an (.ref cl) ct) ["script"] (spLaw K T) :=
  fn_of lk hcd S (fun vs H Q E h => by obtain ⟨a, ns, rfl, _⟩ := h; rfl) fun A outer s H vs Q E hr h => by
    have tk : Takes (cxOf (L2.CX P w) P w K mg base N qual (defScope st) fa (.ref cl) A outer s H E) (fun c d _ H => E c d H) := takes_of rfl rfl rfl rfl
    have ps : Passes (L2.CX P w) (cxOf (L2.CX P w) P w K mg base N qual (defScope st) fa (.ref cl) A outer s H E) E := passes_call tk fun _ _ _ _ h => h
    have bd : ∀ a, Bd (cxOf (L2.CX P w) P w K mg base N qual (defScope st) fa (.ref cl) A outer s H E) ⟨K, some a, T⟩ E k := fun a => ⟨⟨rfl, rfl, S.nd, ps⟩, hr, passes_of rfl, tk⟩
    rw [hb]
    refine ⟨_, pss_cons (ps_set (X := cxOf (L2.CX P w) P w K mg base N qual (defScope st) fa (.ref cl) A outer s H E) (i := 1) S.nd h1 hx (pe_call (x := ("_law_pen" : Str)) FP (hr.mono hk1) (hg A outer s H E) gp kp bp .nil ps (pa_cons (pe_var (i := 0) h0 hv) pa_nil))) (pss_ex fun a => hbody a A outer s H E (bd a)), ?_⟩
    obtain ⟨a0, ns, rfl, hS, hl, hbits, hT, hq⟩ := h
    obtain ⟨G, sg, pn, rp⟩ := start_law ⟨ns, 0, 0⟩ hT hS
    obtain ⟨z', hz⟩ := hm ns hl hbits
    refine ⟨.ref a0, rfl, rfl, G, ⟨ns, 0, 0⟩, [.scr (ns.map D.int)], _, _, sg, pn, .cons rp .nil, hpen ns _ hl, fun a o G' H' g e1 e2 e3 e4 ow => ?_⟩
    refine ⟨a, G', H', G', zLaw N.length ns, _, z', ?_, hz, fun σ' G2 H2 v l R s q => ?_⟩
    · have hlen : (L2.start N [.ref a0]).length = N.length := by
        unfold L2.start
        simp
        omega
      rcases ow with ⟨ds, vs, q1, q2, q3⟩ | ⟨C, xs, ds, dx, fs, q1, _⟩
      · injection q1 with q1
        subst q1 q2
        obtain ⟨v1, r1, e5, ⟨c, ws, e6, hc, hw⟩, v2, r2, e7, e8, v3, r3, e9, e10, e11⟩ := q3
        subst e5 e6 e7 e9
        cases e8; cases e10; cases e11
        obtain rfl := reps_ints hw
        refine ⟨g.ex, Same.refl _, fun _ _ q _ => q, fun _ _ q => .inl q, ⟨fun a' ea => ?_, g.pen.gT, g.pen.tab⟩, fun i d q => ?_, fun i d q => ?_, fun i j d e b q _ _ _ _ => ?_⟩
        · cases ea
          exact ⟨c, e1, hc, e2⟩
        · match i, q with
          | 0, q =>
            cases q
            obtain ⟨b, vs, eb, hb1, hb2⟩ := rp
            refine ⟨.ref a0, ?_, b, vs, eb, sqL_mono g.g hb1, ?_⟩
            · show ((L2.start N [.ref a0]).set 1 (some (.ref a)))[0]? = _
              rw [List.getElem?_set_ne (by decide)]
              rfl
            · rw [reps_ints hb2]
              exact ints_reps ns
          | 1, q =>
            cases q
            refine ⟨.ref a, ?_, a, rfl, rfl⟩
            show ((L2.start N [.ref a0]).set 1 (some (.ref a)))[1]? = _
            rw [List.getElem?_set_self (by rw [hlen]; omega)]
          | i + 2, q =>
            have q' : (List.replicate (N.length - 2) Sl.un)[i]? = some (.va d) := q
            rw [List.getElem?_replicate] at q'
            split at q' <;> cases q'
        · match i, q with
          | 0, q => cases q
          | 1, q => cases q
          | i + 2, q =>
            have q' : (List.replicate (N.length - 2) Sl.un)[i]? = some (.ow d) := q
            rw [List.getElem?_replicate] at q'
            split at q' <;> cases q'
        · match i, q with
          | 0, q => cases q
          | 1, q => cases q
          | i + 2, q =>
            have q' : (List.replicate (N.length - 2) Sl.un)[i]? = some (.ow d) := q
            rw [List.getElem?_replicate] at q'
            split at q' <;> cases q'
      · cases q1
    · obtain rfl : v = .bl true := q
      exact hq _
end
end DL

-- DPenM
set_option maxHeartbeats 4000000
/-! DPenM: what the mirror of _law_pen gives -/
namespace DL
open PySem PySem.Spec PyProof.Rows L2
theorem bnd_eq {α β : Type} {m : M α} {f : α → M β} {z z1 : Z} {a : α} (h : m z = some (.ok a, z1)) : bnd m f z = f a z1 := by
  unfold bnd
  rw [h]
theorem lim_pos {n : Nat} (h : n ≤ 63) : n < lim := Nat.lt_of_le_of_lt h (by decide)
theorem pen_go : ∀ (ns : List Int) (acc : List D) (s0 s1 : Sl) (P : Pen), acc.length + ns.length ≤ 63 →
    ∃ z', lcGo [1] (setV 1) mYes (mLft (mCons (mVar 1) mNil) intD) (ns.map D.int) acc ⟨[s0, s1], P⟩ = some (acc ++ ns.map D.int, z') ∧ z'.P = P
  | [], acc, s0, s1, P, h => ⟨_, by simp [lcGo]; rfl, rfl⟩
  | n :: ns, acc, s0, s1, P, h => by
    have hl : acc.length < lim := lim_pos (by simp at h; omega)
    obtain ⟨z', e1, e2⟩ := pen_go ns (acc ++ [.int n]) s0 .un P (by simp at h ⊢; omega)
    refine ⟨z', ?_, e2⟩
    have step : lcGo [1] (setV 1) mYes (mLft (mCons (mVar 1) mNil) intD) (.int n :: ns.map D.int) acc ⟨[s0, s1], P⟩ = (if acc.length < lim then lcGo [1] (setV 1) mYes (mLft (mCons (mVar 1) mNil) intD) (ns.map D.int) (acc ++ [.int n]) ⟨[s0, .un], P⟩ else none) := rfl
    show lcGo [1] (setV 1) mYes (mLft (mCons (mVar 1) mNil) intD) (.int n :: ns.map D.int) acc ⟨[s0, s1], P⟩ = _
    rw [step, if_pos hl, e1]
    simp
def penE : M D := mLft (mCons (mLc [1] (mLft (mSl (mVar 0) (ret none) (mLft (ret (.int 63)) intO)) seqD) (setV 1) mYes (mLft (mCons (mVar 1) mNil) intD)) (mCons (ret (.int 0)) (mCons (ret (.int 0)) mNil))) mkLst
theorem pen_mirror (ns : List Int) (P : Pen) (h : ns.length ≤ 63) : (penE (z0 2 [.scr (ns.map D.int)] P)).map (fun p => (p.1, p.2.P)) = some (.ok (.lst [.lst (ns.map D.int), .int 0, .int 0]), P) := by
  have hc : cutL (ns.map D.int) none (some 63) = ns.map D.int := by
    unfold cutL
    rw [HT.sIx_none, show ((some 63 : Option Int)) = some ((63 : Nat) : Int) from rfl, HT.sIx_nat, List.length_map, Nat.min_eq_right h]
    have e : ns.length = (ns.map D.int).length := by simp
    rw [List.drop_zero, Nat.sub_zero, e, List.take_length]
  obtain ⟨z', e1, e2⟩ := pen_go ns [] (.va (.scr (ns.map D.int))) .un P (by simpa using h)
  have m0 : mLft (mSl (mVar 0) (ret none) (mLft (ret (.int 63)) intO)) seqD (z0 2 [.scr (ns.map D.int)] P) = some (.ok (ns.map D.int), z0 2 [.scr (ns.map D.int)] P) := by
    show (match (some (D.lst (cutL (ns.map D.int) none (some 63)))).bind seqD with
      | some a => some (Except.ok a, z0 2 [.scr (ns.map D.int)] P)
      | none => none) = _
    rw [hc]
    rfl
  have m1 : mLc [1] (mLft (mSl (mVar 0) (ret none) (mLft (ret (.int 63)) intO)) seqD) (setV 1) mYes (mLft (mCons (mVar 1) mNil) intD) (z0 2 [.scr (ns.map D.int)] P) = some (.ok (.lst (ns.map D.int)), ⟨backS (z0 2 [.scr (ns.map D.int)] P).S z'.S [1], z'.P⟩) := by
    unfold mLc bnd
    rw [m0]
    show (match lcGo [1] (setV 1) mYes (mLft (mCons (mVar 1) mNil) intD) (ns.map D.int) [] ⟨[.va (.scr (ns.map D.int)), .un], P⟩ with
      | some (acc, z') => some (Except.ok (D.lst acc), (⟨backS (z0 2 [.scr (ns.map D.int)] P).S z'.S [1], z'.P⟩ : Z))
      | none => none) = _
    rw [e1]
    rfl
  have m2 : mCons (mLc [1] (mLft (mSl (mVar 0) (ret none) (mLft (ret (.int 63)) intO)) seqD) (setV 1) mYes (mLft (mCons (mVar 1) mNil) intD)) (mCons (ret (.int 0)) (mCons (ret (.int 0)) mNil)) (z0 2 [.scr (ns.map D.int)] P) = some (.ok [.lst (ns.map D.int), .int 0, .int 0], ⟨backS (z0 2 [.scr (ns.map D.int)] P).S z'.S [1], z'.P⟩) := by
    exact (bnd_eq m1).trans rfl
  have m3 : mkLst [.lst (ns.map D.int), .int 0, .int 0] = some (.lst [.lst (ns.map D.int), .int 0, .int 0]) := if_pos (show (3 : Nat) ≤ lim by decide)
  have m4 : penE (z0 2 [.scr (ns.map D.int)] P) = some (.ok (.lst [.lst (ns.map D.int), .int 0, .int 0]), ⟨backS (z0 2 [.scr (ns.map D.int)] P).S z'.S [1], z'.P⟩) := by
    refine (bnd_eq m2).trans ?_
    show lft (mkLst _) _ = _
    rw [m3]
    rfl
  rw [m4]
  show some (_, z'.P) = _
  rw [e2]
end DL

-- DEv
set_option maxHeartbeats 4000000
/-! DEv: mirrors are run, step by step, in plain Lean -/
namespace DL
open PySem PySem.Spec PyProof.Rows L2

section
variable {α β : Type} {z z1 z2 z3 : Z} {m n o : M D} {ms : M (List D)} {d e u : D} {ds : List D}
theorem ev {m : M α} {a b : α} (h : m z = some (.ok a, z1)) (e : a = b) (e2 : z1 = z2) : m z = some (.ok b, z2) := by rw [h, e, e2]
theorem e_ret {a : α} : ret a z = some (.ok a, z) := rfl
theorem e_nil : mNil z = some (.ok [], z) := rfl
theorem e_yes : mYes z = some (.ok true, z) := rfl
theorem e_nx : mNx z = some (.ok .nx, z) := rfl
theorem e_var {i : Nat} (h : z.S[i]? = some (.va d)) : mVar i z = some (.ok d, z) := by
  unfold mVar
  rw [h]
theorem e_varl {i : Nat} (h : z.S[i]? = some (.ow (.lst ds))) : mVar i z = some (.ok (.lst ds), ⟨z.S.set i (.va (.lst ds)), z.P⟩) := by
  unfold mVar
  rw [h]
theorem e_cons (h : m z = some (.ok d, z1)) (t : ms z1 = some (.ok ds, z2)) : mCons m ms z = some (.ok (d :: ds), z2) := by
  refine (bnd_eq h).trans ((bnd_eq t).trans rfl)
theorem e_cons_er {x : XD} (h : m z = some (.error x, z1)) : mCons m ms z = some (.error x, z1) := by
  unfold mCons bnd
  rw [h]
theorem e_cons_tl {x : XD} (h : m z = some (.ok d, z1)) (t : ms z1 = some (.error x, z2)) : mCons m ms z = some (.error x, z2) := by
  refine (bnd_eq h).trans ?_
  unfold bnd
  rw [t]
theorem e_lft {m : M α} {a : α} {f : α → Option β} {b : β} (h : m z = some (.ok a, z1)) (hf : f a = some b) : mLft m f z = some (.ok b, z1) := by
  refine (bnd_eq h).trans ?_
  unfold lft
  rw [hf]
theorem e_lft_er {m : M α} {x : XD} {f : α → Option β} (h : m z = some (.error x, z1)) : mLft m f z = some (.error x, z1) := by
  unfold mLft bnd
  rw [h]
theorem e_bin {f : D → D → Option D} (h : m z = some (.ok d, z1)) (h2 : n z1 = some (.ok e, z2)) (hf : f d e = some u) : mBin f m n z = some (.ok u, z2) := by
  refine (bnd_eq h).trans ((bnd_eq h2).trans ?_)
  unfold lft
  rw [hf]
theorem e_call {f : Mf} {dd : List D} {r : Rs D} {P' : Pen} (h : ms z = some (.ok ds, z1)) (hf : f (ds ++ dd) z1.P = some (r, P')) : mCall f dd ms z = some (r, ⟨z1.S, P'⟩) := by
  refine (bnd_eq h).trans ?_
  unfold callM
  rw [hf]
theorem e_call_er {f : Mf} {dd : List D} {x : XD} (h : ms z = some (.error x, z1)) : mCall f dd ms z = some (.error x, z1) := by
  unfold mCall bnd
  rw [h]
theorem e_callK {f : Mf} {perm : List Nat} {r : Rs D} {P' : Pen} (h : ms z = some (.ok ds, z1)) (hf : f (pick perm ds) z1.P = some (r, P')) : mCallK perm f ms z = some (r, ⟨z1.S, P'⟩) := by
  refine (bnd_eq h).trans ?_
  unfold callM
  rw [hf]
theorem e_meth {C : Addr} {nm : Str} {f : Mf} {dd : List D} {ns : List Str} {es : List D} {r : Rs D} {P' : Pen} (h : m z = some (.ok (.obj C ns es), z1)) (hn : nm ∉ ns) (h2 : ms z1 = some (.ok ds, z2)) (hf : f (.obj C ns es :: (ds ++ dd)) z2.P = some (r, P')) : mMeth C nm f dd m ms z = some (r, ⟨z2.S, P'⟩) := by
  refine (bnd_eq h).trans ?_
  show (if C = C ∧ nm ∉ ns then bnd ms (fun xs => callM f (.obj C ns es :: (xs ++ dd))) else fun _ => none) z1 = _
  rw [if_pos ⟨rfl, hn⟩]
  refine (bnd_eq h2).trans ?_
  unfold callM
  rw [hf]
theorem e_make {C : Addr} {f : Mi} {dd : List D} {ns : List Str} {es : List D} {P' : Pen} (h : ms z = some (.ok ds, z1)) (hf : f (ds ++ dd) z1.P = some (.ok (ns, es), P')) : mMake C f dd ms z = some (.ok (.obj C ns es), ⟨z1.S, P'⟩) := by
  refine (bnd_eq h).trans ?_
  unfold callI
  rw [hf]
theorem e_make_er {C : Addr} {f : Mi} {dd : List D} {x : XD} {P' : Pen} (h : ms z = some (.ok ds, z1)) (hf : f (ds ++ dd) z1.P = some (.error x, P')) : mMake C f dd ms z = some (.error x, ⟨z1.S, P'⟩) := by
  refine (bnd_eq h).trans ?_
  unfold callI
  rw [hf]
theorem e_makeK {C : Addr} {f : Mi} {perm : List Nat} {ns : List Str} {es : List D} {P' : Pen} (h : ms z = some (.ok ds, z1)) (hf : f (pick perm ds) z1.P = some (.ok (ns, es), P')) : mMakeK perm C f ms z = some (.ok (.obj C ns es), ⟨z1.S, P'⟩) := by
  refine (bnd_eq h).trans ?_
  unfold callI
  rw [hf]
theorem e_eqO {C : Addr} {ts : List String} {cs : List Addr} {f : Mf} {neg b : Bool} {ns : List Str} {es : List D} {P' : Pen} (h : m z = some (.ok (.obj C ns es), z1)) (h2 : n z1 = some (.ok e, z2)) (ht : tyOk ts cs e = true) (hf : f [.obj C ns es, e] z2.P = some (.ok (.bl b), P')) : mEqO C ts cs f neg m n z = some (.ok (.bl (neg ^^ b)), ⟨z2.S, P'⟩) := by
  refine (bnd_eq h).trans ((bnd_eq h2).trans ?_)
  show (if C = C ∧ tyOk ts cs e = true then _ else _) = _
  rw [if_pos ⟨rfl, ht⟩]
  unfold callM
  rw [hf]
theorem e_set {i : Nat} (h : m z = some (.ok d, z1)) : mSet i m z = some (.ok .nx, ⟨z1.S.set i (.va d), z1.P⟩) := bnd_eq h
theorem e_own {i : Nat} (h : m z = some (.ok d, z1)) : mOwn i m z = some (.ok .nx, ⟨z1.S.set i (.ow d), z1.P⟩) := bnd_eq h
theorem e_asg {f : D → Z → Option Z} (h : m z = some (.ok d, z1)) (hf : f d z1 = some z2) : mAsg f m z = some (.ok .nx, z2) := by
  refine (bnd_eq h).trans ?_
  rw [hf]
  rfl
theorem e_drop (h : m z = some (.ok d, z1)) : mDrop m z = some (.ok .nx, z1) := bnd_eq h
theorem e_drop_er {x : XD} (h : m z = some (.error x, z1)) : mDrop m z = some (.error x, z1) := by
  unfold mDrop bnd
  rw [h]
theorem e_mret (h : m z = some (.ok d, z1)) : mRet m z = some (.ok (.rt d), z1) := bnd_eq h
theorem e_seq {k l : M Fl} {r : Option (Rs Fl × Z)} (h : k z = some (.ok .nx, z1)) (h2 : l z1 = r) : mSeq k l z = r := by
  unfold mSeq
  rw [h]
  exact h2
theorem e_seq_rt {k l : M Fl} (h : k z = some (.ok (.rt d), z1)) : mSeq k l z = some (.ok (.rt d), z1) := by
  unfold mSeq
  rw [h]
theorem e_seq_er {k l : M Fl} {x : XD} (h : k z = some (.error x, z1)) : mSeq k l z = some (.error x, z1) := by
  unfold mSeq
  rw [h]
theorem e_if {t : M Bool} {b : Bool} {k l : M α} {r : Option (Rs α × Z)} (h : t z = some (.ok b, z1)) (h2 : (if b = true then k else l) z1 = r) : mIf t k l z = r := (bnd_eq h).trans h2
theorem e_ift {t : M Bool} {k l : M α} {r : Option (Rs α × Z)} (h : t z = some (.ok true, z1)) (h2 : k z1 = r) : mIf t k l z = r := (bnd_eq h).trans h2
theorem e_iff {t : M Bool} {k l : M α} {r : Option (Rs α × Z)} (h : t z = some (.ok false, z1)) (h2 : l z1 = r) : mIf t k l z = r := (bnd_eq h).trans h2
theorem e_or_t {t s : M Bool} (h : t z = some (.ok true, z1)) : mOr t s z = some (.ok true, z1) := bnd_eq h
theorem e_or_f {t s : M Bool} {r : Option (Rs Bool × Z)} (h : t z = some (.ok false, z1)) (h2 : s z1 = r) : mOr t s z = r := (bnd_eq h).trans h2
theorem e_and_t {t s : M Bool} {r : Option (Rs Bool × Z)} (h : t z = some (.ok true, z1)) (h2 : s z1 = r) : mAnd t s z = r := (bnd_eq h).trans h2
theorem e_and_f {t s : M Bool} (h : t z = some (.ok false, z1)) : mAnd t s z = some (.ok false, z1) := bnd_eq h
theorem e_not {t : M Bool} {b : Bool} (h : t z = some (.ok b, z1)) : mNot t z = some (.ok (!b), z1) := bnd_eq h
theorem e_andV_t {r : Option (Rs D × Z)} (h : m z = some (.ok d, z1)) (ht : truD d = some true) (h2 : n z1 = r) : mAndV m n z = r := by
  refine (bnd_eq h).trans ?_
  rw [ht]
  exact h2
theorem e_andV_f (h : m z = some (.ok d, z1)) (ht : truD d = some false) : mAndV m n z = some (.ok d, z1) := by
  refine (bnd_eq h).trans ?_
  rw [ht]
  rfl
theorem e_notV {b : Bool} (h : m z = some (.ok d, z1)) (ht : truD d = some b) : mNotV m z = some (.ok (.bl (!b)), z1) := by
  refine (bnd_eq h).trans ?_
  rw [ht]
  rfl
theorem e_chain_t {f g : D → D → Option D} {d4 : D} (h : m z = some (.ok d, z1)) (h2 : n z1 = some (.ok e, z2)) (hf : f d e = some (.bl true)) (h3 : o z2 = some (.ok u, z3)) (hg : g e u = some d4) : mChain f g m n o z = some (.ok d4, z3) := by
  refine (bnd_eq h).trans ((bnd_eq h2).trans ?_)
  rw [hf]
  show bnd o _ z2 = _
  refine (bnd_eq h3).trans ?_
  unfold lft
  rw [hg]
theorem e_chain_f {f g : D → D → Option D} (h : m z = some (.ok d, z1)) (h2 : n z1 = some (.ok e, z2)) (hf : f d e = some (.bl false)) : mChain f g m n o z = some (.ok (.bl false), z2) := by
  refine (bnd_eq h).trans ((bnd_eq h2).trans ?_)
  rw [hf]
  rfl
theorem e_raise {C : Addr} {ns : List Str} (h : ms z = some (.ok ds, z1)) (hl : ds.length = ns.length) : (mRaise C ns ms : M α) z = some (.error ⟨C, ns.reverse, ds.reverse⟩, z1) := by
  refine (bnd_eq h).trans ?_
  show (if ds.length = ns.length then _ else _) = _
  rw [if_pos hl]
theorem e_fld {C : Addr} {i : Nat} {f : Str} {ns : List Str} {es : List D} (h : m z = some (.ok d, z1)) (hi : z1.S[i]? = some (.ow (.obj C ns es))) (hn : ns.length < 1000) : mFldS C i f m z = some (.ok .nx, ⟨z1.S.set i (.ow (.obj C (putN f d ns es).1 (putN f d ns es).2)), z1.P⟩) := by
  refine (bnd_eq h).trans ?_
  unfold fldZ
  rw [hi]
  show (if C = C ∧ ns.length < 1000 then _ else _) = _
  rw [if_pos ⟨rfl, hn⟩]
theorem e_app {i : Nat} {xs ys : List D} (h0 : z.S[i]? = some (.ow (.lst ys))) (h : m z = some (.ok d, z1)) (hi : z1.S[i]? = some (.ow (.lst xs))) (hn : xs.length < lim) : mApp i m z = some (.ok .nx, ⟨z1.S.set i (.ow (.lst (xs ++ [d]))), z1.P⟩) := by
  unfold mApp
  rw [h0]
  refine (bnd_eq h).trans ?_
  unfold appZ
  rw [hi]
  show (if xs.length < lim then _ else _) = _
  rw [if_pos hn]
theorem e_for {f : D → Z → Option Z} {k : M Fl} {mi : M (List D)} {r : Option (Rs Fl × Z)} (h : mi z = some (.ok ds, z1)) (h2 : forGo f k ds z1 = r) : mFor mi f k z = r := (bnd_eq h).trans h2
theorem e_pen {j i : Nat} (h : z.S[j]? = some (.va .pen)) (h2 : penAt z.P i = some d) : mPen j i z = some (.ok d, z) := by
  unfold mPen
  rw [h, h2]
theorem e_penS {j i : Nat} {v : Int} {P' : Pen} (h : m z = some (.ok (.int v), z1)) (h1 : z1.S[j]? = some (.va .pen)) (h2 : putP z1.P v i = some P') : mPenS j i m z = some (.ok .nx, ⟨z1.S, P'⟩) := by
  refine (bnd_eq h).trans ?_
  show (match z1.S[j]? with
    | some (.va .pen) => match putP z1.P v i with
      | some P => some (Except.ok Fl.nx, (⟨z1.S, P⟩ : Z))
      | none => none
    | _ => none) = _
  rw [h1, h2]
theorem e_heard_ok {Cs : List Addr} {N : Nat} {rest : M Fl} {P' : Pen} (h : m z = some (.ok d, z1)) (hf : fin (rest (zH N d .non z1.P)) = some (.ok e, P')) : mHeard Cs N rest m z = some (.ok e, ⟨z1.S, P'⟩) := by
  unfold mHeard
  rw [h]
  show (match fin (rest (zH N d .non z1.P)) with
    | some (.ok e, P') => some (Except.ok e, (⟨z1.S, P'⟩ : Z))
    | _ => none) = _
  rw [hf]
theorem e_heard_er {Cs : List Addr} {N : Nat} {rest : M Fl} {x : XD} {P' : Pen} (h : m z = some (.error x, z1)) (hx : x.C ∈ Cs) (hf : fin (rest (zH N .non (.exc x.C x.ns x.ds) z1.P)) = some (.ok e, P')) : mHeard Cs N rest m z = some (.ok e, ⟨z1.S, P'⟩) := by
  unfold mHeard
  rw [h]
  show (if x.C ∈ Cs then (match fin (rest (zH N .non (.exc x.C x.ns x.ds) z1.P)) with
    | some (.ok e, P') => some (Except.ok e, (⟨z1.S, P'⟩ : Z))
    | _ => none) else none) = _
  rw [if_pos hx, hf]
theorem r_rt {N : Nat} {k : M Fl} {P : Pen} (h : k (z0 N ds P) = some (.ok (.rt d), z1)) : runF N k ds P = some (.ok d, z1.P) := by
  unfold runF
  rw [h]
  rfl
theorem r_nx {N : Nat} {k : M Fl} {P : Pen} (h : k (z0 N ds P) = some (.ok .nx, z1)) : runF N k ds P = some (.ok .non, z1.P) := by
  unfold runF
  rw [h]
  rfl
theorem r_er {N : Nat} {k : M Fl} {P : Pen} {x : XD} (h : k (z0 N ds P) = some (.error x, z1)) : runF N k ds P = some (.error x, z1.P) := by
  unfold runF
  rw [h]
  rfl
theorem r_in {C : Addr} {N : Nat} {k : M Fl} {P : Pen} {ns : List Str} {es : List D} (h : k (zI C N ds P) = some (.ok .nx, z1)) (h0 : z1.S[0]? = some (.ow (.obj C ns es))) : runI C N k ds P = some (.ok (ns, es), z1.P) := by
  unfold runI
  rw [h]
  show (match (z1.S[0]? : Option Sl) with
    | some (Sl.ow (.obj C' ns es)) => if C' = C then some ((Except.ok (ns, es) : Rs (List Str × List D)), z1.P) else none
    | _ => none) = _
  rw [h0]
  show (if C = C then _ else _) = _
  rw [if_pos rfl]
theorem r_in_er {C : Addr} {N : Nat} {k : M Fl} {P : Pen} {x : XD} (h : k (zI C N ds P) = some (.error x, z1)) : runI C N k ds P = some (.error x, z1.P) := by
  unfold runI
  rw [h]
  rfl
end

/-- item by item -/
inductive A2 (R : D → D → Prop) : List D → List D → Prop where
  | nil : A2 R [] []
  | cons {d e : D} {ds es : List D} (h : R d e) (t : A2 R ds es) : A2 R (d :: ds) (e :: es)
theorem A2.len {R : D → D → Prop} : ∀ {ds es : List D}, A2 R ds es → es.length = ds.length
  | _, _, .nil => rfl
  | _, _, .cons _ t => congrArg (· + 1) t.len
/-! ### comprehensions -/
section
variable {vs : List Nat} {tg : D → Z → Option Z} {me : M D} {S : List Sl}
/-- each turn gives f d and draws nothing -/
theorem go_map {P : Pen} {f : D → D} : ∀ (ds acc : List D), (∀ d ∈ ds, ∃ z2 S', tg d ⟨S, P⟩ = some z2 ∧ me z2 = some (.ok (f d), ⟨S', P⟩) ∧ wipeS S' vs = S) → acc.length + ds.length ≤ lim →
    lcGo vs tg mYes me ds acc ⟨S, P⟩ = some (acc ++ ds.map f, ⟨S, P⟩)
  | [], acc, _, _ => by simp [lcGo]
  | d :: ds, acc, h, hl => by
    obtain ⟨z2, S', h1, h2, h3⟩ := h d List.mem_cons_self
    have ih := go_map ds (acc ++ [f d]) (fun e he => h e (List.mem_cons_of_mem _ he)) (by simp at hl ⊢; omega)
    have hacc : acc.length < lim := by simp only [List.length_cons] at hl; omega
    unfold lcGo
    rw [h1]
    show (match me z2 with
      | some (.ok y, z3) => if acc.length < lim then lcGo vs tg mYes me ds (acc ++ [y]) (wipeZ vs z3) else none
      | _ => none) = _
    rw [h2]
    show (if acc.length < lim then lcGo vs tg mYes me ds (acc ++ [f d]) ⟨wipeS S' vs, P⟩ else none) = _
    rw [if_pos hacc, h3, ih]
    simp
theorem e_lc_map {ms : M (List D)} {z z1 : Z} {ds : List D} {S3 : List Sl} (f : D → D) (h : ms z = some (.ok ds, z1)) (hl : ds.length ≤ lim) (hb : ∀ d ∈ ds, ∃ z2 S', tg d ⟨wipeS z1.S vs, z1.P⟩ = some z2 ∧ me z2 = some (.ok (f d), ⟨S', z1.P⟩) ∧ wipeS S' vs = wipeS z1.S vs)
    (hS : backS z1.S (wipeS z1.S vs) vs = S3) : mLc vs ms tg mYes me z = some (.ok (.lst (ds.map f)), ⟨S3, z1.P⟩) := by
  refine (bnd_eq h).trans ?_
  show (match lcGo vs tg mYes me ds [] ⟨wipeS z1.S vs, z1.P⟩ with
    | some (acc, z') => some (Except.ok (D.lst acc), (⟨backS z1.S z'.S vs, z'.P⟩ : Z))
    | none => none) = _
  rw [go_map ds [] hb (by simpa using hl)]
  show some (Except.ok (D.lst ([] ++ ds.map f)), (⟨backS z1.S (wipeS z1.S vs) vs, z1.P⟩ : Z)) = _
  rw [hS]
  rfl
/-- each turn gives something with R, and costs k draws -/
theorem go_draw {J : Nat → Pen → Prop} {R : D → D → Prop} {k n : Nat} : ∀ (ds acc : List D) (P : Pen), (∀ d ∈ ds, ∀ P n, J (k + n) P → ∃ z2 S' y P', tg d ⟨S, P⟩ = some z2 ∧ me z2 = some (.ok y, ⟨S', P'⟩) ∧ wipeS S' vs = S ∧ R d y ∧ J n P') → acc.length + ds.length ≤ lim → J (k * ds.length + n) P →
    ∃ ys P', lcGo vs tg mYes me ds acc ⟨S, P⟩ = some (acc ++ ys, ⟨S, P'⟩) ∧ A2 R ds ys ∧ J n P'
  | [], acc, P, _, _, j => ⟨[], P, by simp [lcGo], .nil, by simpa using j⟩
  | d :: ds, acc, P, h, hl, j => by
    obtain ⟨z2, S', y, P1, h1, h2, h3, h4, h5⟩ := h d List.mem_cons_self P (k * ds.length + n) (by rw [List.length_cons, Nat.mul_succ] at j; rw [show k + (k * ds.length + n) = k * ds.length + k + n by omega]; exact j)
    obtain ⟨ys, P', i1, i2, i3⟩ := go_draw (n := n) ds (acc ++ [y]) P1 (fun e he => h e (List.mem_cons_of_mem _ he)) (by simp at hl ⊢; omega) h5
    have hacc : acc.length < lim := by simp only [List.length_cons] at hl; omega
    refine ⟨y :: ys, P', ?_, .cons h4 i2, i3⟩
    unfold lcGo
    rw [h1]
    show (match me z2 with
      | some (.ok y, z3) => if acc.length < lim then lcGo vs tg mYes me ds (acc ++ [y]) (wipeZ vs z3) else none
      | _ => none) = _
    rw [h2]
    show (if acc.length < lim then lcGo vs tg mYes me ds (acc ++ [y]) ⟨wipeS S' vs, P1⟩ else none) = _
    rw [if_pos hacc, h3, i1]
    simp
theorem e_lc_draw {J : Nat → Pen → Prop} {k n : Nat} {ms : M (List D)} {z z1 : Z} {ds : List D} {S3 : List Sl} (R : D → D → Prop) (h : ms z = some (.ok ds, z1)) (hl : ds.length ≤ lim) (j : J (k * ds.length + n) z1.P)
    (hb : ∀ d ∈ ds, ∀ P n, J (k + n) P → ∃ z2 S' y P', tg d ⟨wipeS z1.S vs, P⟩ = some z2 ∧ me z2 = some (.ok y, ⟨S', P'⟩) ∧ wipeS S' vs = wipeS z1.S vs ∧ R d y ∧ J n P')
    (hS : backS z1.S (wipeS z1.S vs) vs = S3) : ∃ ys P', mLc vs ms tg mYes me z = some (.ok (.lst ys), ⟨S3, P'⟩) ∧ A2 R ds ys ∧ J n P' := by
  obtain ⟨ys, P', i1, i2, i3⟩ := go_draw (n := n) ds [] z1.P hb (by simpa using hl) j
  refine ⟨ys, P', (bnd_eq h).trans ?_, i2, i3⟩
  show (match lcGo vs tg mYes me ds [] ⟨wipeS z1.S vs, z1.P⟩ with
    | some (acc, z') => some (Except.ok (D.lst acc), (⟨backS z1.S z'.S vs, z'.P⟩ : Z))
    | none => none) = _
  rw [i1]
  show some (Except.ok (D.lst ([] ++ ys)), (⟨backS z1.S (wipeS z1.S vs) vs, P'⟩ : Z)) = _
  rw [hS]
  rfl
theorem lc_t {mt : M Bool} {d y : D} {ds acc : List D} {z z1 z2 z3 : Z} {r : Option (List D × Z)} (h1 : tg d z = some z1) (h2 : mt z1 = some (.ok true, z2)) (h3 : me z2 = some (.ok y, z3)) (hl : acc.length < lim) (h : lcGo vs tg mt me ds (acc ++ [y]) (wipeZ vs z3) = r) : lcGo vs tg mt me (d :: ds) acc z = r := by
  unfold lcGo
  rw [h1]
  show (match mt z1 with
    | some (.ok true, z2) => match me z2 with
      | some (.ok y, z3) => if acc.length < lim then lcGo vs tg mt me ds (acc ++ [y]) (wipeZ vs z3) else none
      | _ => none
    | some (.ok false, z2) => lcGo vs tg mt me ds acc (wipeZ vs z2)
    | _ => none) = _
  rw [h2]
  show (match me z2 with
      | some (.ok y, z3) => if acc.length < lim then lcGo vs tg mt me ds (acc ++ [y]) (wipeZ vs z3) else none
      | _ => none) = _
  rw [h3]
  show (if acc.length < lim then lcGo vs tg mt me ds (acc ++ [y]) (wipeZ vs z3) else none) = _
  rw [if_pos hl, h]
theorem lc_f {mt : M Bool} {d : D} {ds acc : List D} {z z1 z2 : Z} {r : Option (List D × Z)} (h1 : tg d z = some z1) (h2 : mt z1 = some (.ok false, z2)) (h : lcGo vs tg mt me ds acc (wipeZ vs z2) = r) : lcGo vs tg mt me (d :: ds) acc z = r := by
  unfold lcGo
  rw [h1]
  show (match mt z1 with
    | some (.ok true, z2) => match me z2 with
      | some (.ok y, z3) => if acc.length < lim then lcGo vs tg mt me ds (acc ++ [y]) (wipeZ vs z3) else none
      | _ => none
    | some (.ok false, z2) => lcGo vs tg mt me ds acc (wipeZ vs z2)
    | _ => none) = _
  rw [h2]
  exact h
theorem lc_0 {mt : M Bool} {acc : List D} {z : Z} : lcGo vs tg mt me [] acc z = some (acc, z) := rfl
end
end DL

-- DDraw
set_option maxHeartbeats 4000000
/-! DDraw: what == says of plain data; what _law_draw and _law_pick give -/
namespace DL
open PySem PySem.Spec PyProof.Rows L2

/-! ### data that == can read, at most n deep -/
def Shp (n : Nat) (d : D) : Prop := ∃ p, toP d = some p ∧ p.canLay0 = true ∧ p.depth ≤ n
def Shs (n : Nat) (ds : List D) : Prop := ∃ ps, toPs ds = some ps ∧ PyData.canLayAll0 ps = true ∧ PyData.depthAll ps ≤ n
theorem sh_int {n : Nat} {i : Int} : Shp n (.int i) := ⟨.int i, rfl, rfl, by simp [PyData.depth]⟩
theorem sh_bl {n : Nat} {i : Bool} : Shp n (.bl i) := ⟨.bool i, rfl, rfl, by simp [PyData.depth]⟩
theorem sh_non {n : Nat} : Shp n .non := ⟨.none, rfl, rfl, by simp [PyData.depth]⟩
theorem sh_str {n : Nat} {x : Str} (h : (PyData.str x).canLay0 = true) : Shp n (.str x) := ⟨.str x, rfl, h, by simp [PyData.depth]⟩
theorem shs_nil {n : Nat} : Shs n [] := ⟨[], rfl, rfl, by simp [PyData.depthAll]⟩
theorem shs_cons {n : Nat} {d : D} {ds : List D} (h : Shp n d) (t : Shs n ds) : Shs n (d :: ds) := by
  obtain ⟨p, h1, h2, h3⟩ := h
  obtain ⟨ps, t1, t2, t3⟩ := t
  refine ⟨p :: ps, ?_, ?_, ?_⟩
  · unfold toPs
    rw [h1, t1]
  · simp [PyData.canLayAll0, h2, t2]
  · simp only [PyData.depthAll]
    omega
theorem shs_all {n : Nat} : ∀ {ds : List D}, (∀ d ∈ ds, Shp n d) → Shs n ds
  | [], _ => shs_nil
  | d :: ds, h => shs_cons (h d List.mem_cons_self) (shs_all fun e he => h e (List.mem_cons_of_mem _ he))
theorem sh_tup {n : Nat} {ds : List D} (h : Shs n ds) : Shp (n + 1) (.tup ds) := by
  obtain ⟨ps, t1, t2, t3⟩ := h
  refine ⟨.tuple ps, ?_, ?_, ?_⟩
  · unfold toP
    rw [t1]
    rfl
  · simp only [PyData.canLay0, t2]
  · simp only [PyData.depth]
    omega
theorem sh_lst {n : Nat} {ds : List D} (h : Shs n ds) : Shp (n + 1) (.lst ds) := by
  obtain ⟨ps, t1, t2, t3⟩ := h
  refine ⟨.list ps, ?_, ?_, ?_⟩
  · unfold toP
    rw [t1]
    rfl
  · simp only [PyData.canLay0, t2]
  · simp only [PyData.depth]
    omega
theorem sh_up {n m : Nat} {d : D} (h : Shp n d) (l : n ≤ m) : Shp m d := by
  obtain ⟨p, h1, h2, h3⟩ := h
  exact ⟨p, h1, h2, Nat.le_trans h3 l⟩
theorem shaped_of {p : PyData} {n : Nat} (h2 : p.canLay0 = true) (h3 : p.depth ≤ n) (hn : n ≤ 64) : SeqAt.shaped p = true := by
  unfold SeqAt.shaped
  rw [h2, decide_eq_true (Nat.le_trans h3 hn)]
  rfl
theorem eqB_tot {n m : Nat} {d e : D} (h : Shp n d) (k : Shp m e) (hn : n ≤ 64) (hm : m ≤ 64) : ∃ b, eqB d e = some b := by
  obtain ⟨p, h1, h2, h3⟩ := h
  obtain ⟨q, k1, k2, k3⟩ := k
  refine ⟨PyData.eqv p q, ?_⟩
  unfold eqB
  rw [h1, k1]
  show (if (SeqAt.shaped p && SeqAt.shaped q) = true then _ else _) = _
  rw [shaped_of h2 h3 hn, shaped_of k2 k3 hm]
  rfl
theorem eqB_refl {n : Nat} {d : D} (h : Shp n d) (hn : n ≤ 64) : eqB d d = some true := by
  obtain ⟨p, h1, h2, h3⟩ := h
  unfold eqB
  rw [h1]
  show (if (SeqAt.shaped p && SeqAt.shaped p) = true then _ else _) = _
  rw [shaped_of h2 h3 hn]
  show some (PyData.eqv p p) = _
  rw [SeqAt.eqv_refl p h2]
theorem eqD_refl {n : Nat} {d : D} (h : Shp n d) (hn : n ≤ 64) : eqD d d = some (.bl true) := by
  unfold eqD
  rw [eqB_refl h hn]
  rfl
theorem neD_refl {n : Nat} {d : D} (h : Shp n d) (hn : n ≤ 64) : neD d d = some (.bl false) := by
  unfold neD
  rw [eqB_refl h hn]
  rfl
theorem neD_same {n : Nat} {d e : D} (h : Shp n d) (q : d = e) (hn : n ≤ 64) : neD d e = some (.bl false) := by
  subst q
  exact neD_refl h hn
theorem eqB_int {i j : Int} : eqB (.int i) (.int j) = some (decide (i = j)) := by
  unfold eqB
  simp [toP, SeqAt.shaped, PyData.canLay0, PyData.depth, PyData.eqv]
  by_cases h : i = j
  · subst h; simp
  · simp [h]
theorem eqD_int {i j : Int} : eqD (.int i) (.int j) = some (.bl (decide (i = j))) := by
  unfold eqD
  rw [eqB_int]
  rfl
theorem neD_int {i j : Int} : neD (.int i) (.int j) = some (.bl (!decide (i = j))) := by
  unfold neD
  rw [eqB_int]
  rfl
theorem shs_ints {n : Nat} (ns : List Int) : Shs n (intsD ns) := shs_all fun d h => by
  obtain ⟨i, _, rfl⟩ := List.mem_map.mp h
  exact sh_int
theorem ne_nil {d : D} {ds : List D} (h : Shs 60 (d :: ds)) : neD (.lst (d :: ds)) (.lst []) = some (.bl true) := by
  obtain ⟨ps, h1, h2, h3⟩ := h
  have hp : ∃ p r, ps = p :: r := by
    unfold toPs at h1
    split at h1
    · cases h1; exact ⟨_, _, rfl⟩
    · cases h1
  obtain ⟨p, r, rfl⟩ := hp
  have e1 : toP (.lst (d :: ds)) = some (.list (p :: r)) := by
    unfold toP
    rw [h1]
    rfl
  have s1 : SeqAt.shaped (.list (p :: r)) = true := shaped_of (n := 61) (by simp only [PyData.canLay0, h2]) (by simp only [PyData.depth]; omega) (by decide)
  have s2 : SeqAt.shaped (.list []) = true := shaped_of (n := 61) rfl (by simp [PyData.depth, PyData.depthAll]) (by decide)
  unfold neD eqB
  rw [e1, show toP (.lst []) = some (.list []) from rfl]
  show Option.map _ (if (SeqAt.shaped (.list (p :: r)) && SeqAt.shaped (.list [])) = true then _ else _) = _
  rw [s1, s2]
  simp [PyData.eqv, PyData.eqvAll]
theorem ne_nil0 : neD (.lst []) (.lst []) = some (.bl false) := neD_refl (sh_lst (n := 3) shs_nil) (by decide)

/-! ### _law_draw -/
def drawM : M Fl := (mSeq (mIf (mLft (mBin gtD (mPen 0 2) (ret (.int 0))) asB) (mSeq (mSet 2 (mLft (mCons (mPen 0 2) mNil) intD))
    (mSeq (mPenS 0 2 (mBin fdivD (mVar 2) (mVar 1)))
    (mRet (mBin modD (mLft (mCons (mVar 2) mNil) intD) (mVar 1))))) mNx)
    (mSeq (mSet 3 (mPen 0 1))
    (mSeq (mPenS 0 1 (mBin addD (mVar 3) (ret (.int 1))))
    (mSeq (mSet 4 (mBin addD (mBin mulD (ret (.int 83641)) (mVar 3)) (ret (.int 27191))))
    (mSeq (mIf (mLft (mBin neD (mPen 0 0) (mLft mNil mkLst)) asB) (mSet 4 (mBin ixD (mPen 0 0) (mBin modD (mLft (mCons (mVar 3) mNil) intD) (mLft (mCons (mPen 0 0) mNil) lenD)))) mNx)
    (mSeq (mIf (mAnd (mLft (mBin ltD (mVar 3) (mLft (mCons (mPen 0 0) mNil) lenD)) asB) (mLft (mBin geD (mLft (mCons (mVar 4) mNil) absD) (mBin powD (ret (.int 10)) (ret (.int 18)))) asB)) (mSeq (mSet 2 (mBin addD (mBin mulD (ret (.int 2)) (mBin subD (mLft (mCons (mVar 4) mNil) absD) (mBin powD (ret (.int 10)) (ret (.int 18))))) (mLft (mCons (mBin ltD (mVar 4) (ret (.int 0))) mNil) intD)))
    (mSeq (mPenS 0 2 (mBin fdivD (mLft (mCons (mVar 2) mNil) intD) (mVar 1)))
    (mRet (mBin modD (mLft (mCons (mVar 2) mNil) intD) (mVar 1))))) mNx)
    (mSeq (mSet 5 (mBin modD (mLft (mCons (mBin powD (mBin addD (mBin addD (mBin modD (mLft (mCons (mVar 4) mNil) intD) (ret (.int 2147483549))) (mBin mulD (ret (.int 83641)) (mVar 3))) (ret (.int 27191))) (ret (.int 5))) mNil) intD) (ret (.int 2147483629))))
    (mSeq (mSet 5 (mBin modD (mLft (mCons (mBin powD (mBin addD (mBin addD (mBin mulD (mVar 5) (mBin addD (mBin mulD (ret (.int 2)) (mVar 3)) (ret (.int 7193)))) (mBin mulD (mBin mulD (ret (.int 44017)) (mVar 3)) (mVar 3))) (ret (.int 83641))) (ret (.int 3))) mNil) intD) (ret (.int 2147483587))))
    (mRet (mBin modD (mLft (mCons (mBin fdivD (mVar 5) (ret (.int 64))) mNil) intD) (mVar 1)))))))))))
/-- n more draws are let -/
def PG (n : Nat) (P : Pen) : Prop := 0 ≤ P.turn ∧ P.turn + n ≤ 1048576
theorem PG.le {n m : Nat} {P : Pen} (h : PG n P) (l : m ≤ n) : PG m P := ⟨h.1, by have := h.2; omega⟩
theorem mod_k {i j : Int} (h : 0 < j) : modD (.int i) (.int j) = some (.int (i % j)) := if_pos h
theorem fdiv_k {i j : Int} (h : 0 < j) (h2 : j < 1073741824) : fdivD (.int i) (.int j) = some (.int (i / j)) := if_pos ⟨h, h2⟩
theorem mul_k {i j : Int} (h : small64 i = true) : mulD (.int i) (.int j) = some (.int (i * j)) := by
  show (if (small64 i || small64 j) = true then _ else _) = _
  rw [h]
  rfl
theorem mul_k2 {i j : Int} (h : small64 j = true) : mulD (.int i) (.int j) = some (.int (i * j)) := by
  show (if (small64 i || small64 j) = true then _ else _) = _
  rw [h, Bool.or_true]
  rfl
theorem pow_k {i : Int} {j : Nat} (h : j ≤ 1000000) (h2 : i.natAbs < 2 ^ 64) : powD (.int i) (.int (j : Nat)) = some (.int (i ^ j)) := by
  show (if (0 : Int) ≤ (j : Nat) ∧ ((j : Nat) : Int) ≤ 1000000 ∧ i.natAbs < 2 ^ 64 then _ else _) = _
  rw [if_pos ⟨by omega, by omega, h2⟩]
  rfl
theorem gt_asB {i j : Int} {b : Bool} (h : decide (j < i) = b) : (gtD (.int i) (.int j)) = some (.bl b) := by
  rw [← h]
  rfl
theorem atI_int {xs : List D} {i : Int} (h0 : 0 ≤ i) (h1 : i < (xs.length : Nat)) : ∃ d, atI xs i = some d ∧ xs[i.toNat]? = some d := by
  have hj : i.toNat < xs.length := by omega
  refine ⟨xs[i.toNat], ?_, List.getElem?_eq_getElem hj⟩
  have e : atI xs i = atI xs (i.toNat : Int) := congrArg _ (by omega)
  rw [e]
  exact atI_nat (List.getElem?_eq_getElem hj)
theorem intsD_at {ns : List Int} {i : Int} (h0 : 0 ≤ i) (h1 : i < (ns.length : Nat)) : ∃ c, atI (intsD ns) i = some (.int c) := by
  obtain ⟨d, q, e⟩ := atI_int (xs := intsD ns) h0 (by unfold intsD; simpa using h1)
  unfold intsD at e
  rw [List.getElem?_map] at e
  cases q2 : ns[i.toNat]? with
  | none => rw [q2] at e; cases e
  | some c =>
    rw [q2] at e
    cases e
    exact ⟨c, q⟩
section
variable {P : Pen} {many : Int} {n : Nat}
abbrev zD (c3 c4 : D) (many : Int) (P : Pen) : Z := ⟨[.va .pen, .va (.int many), .un, .va c3, .va c4, .un], P⟩
theorem draw_rest (h0 : 0 < P.rest) (hm : 0 < many) (hm2 : many < 1073741824) : runF 6 drawM [.pen, .int many] P = some (.ok (.int (P.rest % many)), { P with rest := P.rest / many }) := by
  have hb : gtD (.int P.rest) (.int 0) = some (.bl true) := gt_asB (decide_eq_true h0)
  refine (r_rt (z1 := ⟨[.va .pen, .va (.int many), .va (.int P.rest), .un, .un, .un], { P with rest := P.rest / many }⟩) ?_)
  refine e_seq_rt (e_ift (e_lft (e_bin (e_pen rfl rfl) e_ret hb) rfl) (e_seq (e_set (e_lft (e_cons (e_pen rfl rfl) e_nil) rfl)) (e_seq (e_penS (e_bin (e_var rfl) (e_var rfl) (fdiv_k hm hm2)) rfl rfl) (e_mret (e_bin (e_lft (e_cons (e_var rfl) e_nil) rfl) (e_var rfl) (mod_k hm))))))
theorem draw_mix {c : Int} {Q : Pen} (hm : 0 < many) (t0 : 0 ≤ Q.turn) (t1 : Q.turn ≤ 1048576) {t : Int} (ht0 : 0 ≤ t) (ht1 : t ≤ 1048576) :
    ∃ v z1, (mSeq (mSet 5 (mBin modD (mLft (mCons (mBin powD (mBin addD (mBin addD (mBin modD (mLft (mCons (mVar 4) mNil) intD) (ret (.int 2147483549))) (mBin mulD (ret (.int 83641)) (mVar 3))) (ret (.int 27191))) (ret (.int 5))) mNil) intD) (ret (.int 2147483629))))
    (mSeq (mSet 5 (mBin modD (mLft (mCons (mBin powD (mBin addD (mBin addD (mBin mulD (mVar 5) (mBin addD (mBin mulD (ret (.int 2)) (mVar 3)) (ret (.int 7193)))) (mBin mulD (mBin mulD (ret (.int 44017)) (mVar 3)) (mVar 3))) (ret (.int 83641))) (ret (.int 3))) mNil) intD) (ret (.int 2147483587))))
    (mRet (mBin modD (mLft (mCons (mBin fdivD (mVar 5) (ret (.int 64))) mNil) intD) (mVar 1))))) (zD (.int t) (.int c) many Q) = some (.ok (.rt (.int v)), z1) ∧ 0 ≤ v ∧ v < many ∧ z1.P = Q := by
  have m1 : (c % 2147483549 + 83641 * t + 27191).natAbs < 2 ^ 64 := by
    have a1 := Int.emod_nonneg c (show (2147483549 : Int) ≠ 0 by decide)
    have a2 := Int.emod_lt_of_pos c (show (0 : Int) < 2147483549 by decide)
    omega
  have p1 : powD (.int (c % 2147483549 + 83641 * t + 27191)) (.int 5) = some (.int ((c % 2147483549 + 83641 * t + 27191) ^ 5)) := pow_k (j := 5) (by decide) m1
  generalize hx : (c % 2147483549 + 83641 * t + 27191) ^ 5 = x at p1
  have b1 := Int.emod_nonneg x (show (2147483629 : Int) ≠ 0 by decide)
  have b2 := Int.emod_lt_of_pos x (show (0 : Int) < 2147483629 by decide)
  generalize hy : x % 2147483629 = y at b1 b2
  have s1 : small64 y = true := decide_eq_true ⟨by omega, by omega⟩
  have s2 : small64 t = true := decide_eq_true ⟨by omega, by omega⟩
  have tt : 0 ≤ t * t ∧ t * t ≤ 1048576 * 1048576 := ⟨Int.mul_nonneg ht0 ht0, Int.mul_le_mul ht1 ht1 ht0 (by decide)⟩
  have yt : 0 ≤ y * (2 * t + 7193) ∧ y * (2 * t + 7193) ≤ 2147483629 * (2 * 1048576 + 7193) := ⟨Int.mul_nonneg b1 (by omega), Int.mul_le_mul (by omega) (by omega) (by omega) (by decide)⟩
  have m2 : (y * (2 * t + 7193) + 44017 * t * t + 83641).natAbs < 2 ^ 64 := by
    have e : 44017 * t * t = 44017 * (t * t) := Int.mul_assoc _ _ _
    rw [e]
    generalize y * (2 * t + 7193) = u at yt ⊢
    generalize t * t = w at tt ⊢
    omega
  have p2 : powD (.int (y * (2 * t + 7193) + 44017 * t * t + 83641)) (.int 3) = some (.int ((y * (2 * t + 7193) + 44017 * t * t + 83641) ^ 3)) := pow_k (j := 3) (by decide) m2
  refine ⟨_, _, e_seq (e_set (e_bin (e_lft (e_cons (e_bin (e_bin (e_bin (e_bin (e_lft (e_cons (e_var rfl) e_nil) rfl) e_ret rfl) (e_bin e_ret (e_var rfl) rfl) rfl) e_ret rfl) e_ret (by rw [← hx] at p1; exact p1)) e_nil) rfl) e_ret rfl))
    (e_seq (e_set (e_bin (e_lft (e_cons (e_bin (e_bin (e_bin (e_bin (e_var (d := .int y) (by subst hx hy; rfl)) (e_bin (e_bin e_ret (e_var rfl) rfl) e_ret rfl) (mul_k s1)) (e_bin (e_bin e_ret (e_var rfl) rfl) (e_var rfl) (mul_k2 s2)) rfl) e_ret rfl) e_ret p2) e_nil) rfl) e_ret rfl))
    (e_mret (e_bin (e_lft (e_cons (e_bin (e_var rfl) e_ret rfl) e_nil) rfl) (e_var rfl) (mod_k hm)))), Int.emod_nonneg _ (by omega), Int.emod_lt_of_pos _ hm, rfl⟩
theorem draw_ok (hm : 0 < many) (hm2 : many < 1073741824) (h : PG (n + 1) P) : ∃ v P', runF 6 drawM [.pen, .int many] P = some (.ok (.int v), P') ∧ 0 ≤ v ∧ v < many ∧ PG n P' := by
  by_cases h0 : 0 < P.rest
  · exact ⟨_, _, draw_rest h0 hm hm2, Int.emod_nonneg _ (by omega), Int.emod_lt_of_pos _ hm, h.1, by have := h.2; show P.turn + _ ≤ _; omega⟩
  · have hb : gtD (.int P.rest) (.int 0) = some (.bl false) := gt_asB (decide_eq_false h0)
    have t0 := h.1
    have t1 := h.2
    have hl : (intsD P.cells).length = P.cells.length := by unfold intsD; simp
    -- the cell
    have cell : ∃ c, (mIf (mLft (mBin neD (mPen 0 0) (mLft mNil mkLst)) asB) (mSet 4 (mBin ixD (mPen 0 0) (mBin modD (mLft (mCons (mVar 3) mNil) intD) (mLft (mCons (mPen 0 0) mNil) lenD)))) mNx) (zD (.int P.turn) (.int (83641 * P.turn + 27191)) many { P with turn := P.turn + 1 }) = some (.ok .nx, zD (.int P.turn) (.int c) many { P with turn := P.turn + 1 }) := by
      by_cases hc : P.cells = []
      · refine ⟨83641 * P.turn + 27191, e_iff (e_lft (e_bin (e_pen (d := .lst []) rfl (by show some (D.lst (intsD P.cells)) = _; rw [hc]; rfl)) (e_lft e_nil rfl) ne_nil0) rfl) e_nx⟩
      · have hn : neD (.lst (intsD P.cells)) (.lst []) = some (.bl true) := by
          cases q : P.cells with
          | nil => exact absurd q hc
          | cons x xs => exact ne_nil (ds := intsD xs) (shs_ints (x :: xs))
        have hlen : 0 < ((intsD P.cells).length : Int) := by
          rw [hl]
          have := List.length_pos_iff.mpr hc
          omega
        obtain ⟨c, hat⟩ := intsD_at (ns := P.cells) (i := P.turn % ((intsD P.cells).length : Int)) (Int.emod_nonneg _ (by omega)) (by rw [← hl]; exact Int.emod_lt_of_pos _ hlen)
        refine ⟨c, e_ift (e_lft (e_bin (e_pen rfl rfl) (e_lft e_nil rfl) hn) rfl) (e_set (e_bin (e_pen rfl rfl) (e_bin (e_lft (e_cons (e_var rfl) e_nil) rfl) (e_lft (e_cons (e_pen rfl rfl) e_nil) rfl) (mod_k hlen)) hat))⟩
    obtain ⟨c, hc⟩ := cell
    obtain ⟨v, z1, m1, m2, m3, m4⟩ := draw_mix (c := c) (Q := { P with turn := P.turn + 1 }) hm (show 0 ≤ P.turn + 1 by omega) (show P.turn + 1 ≤ 1048576 by omega) (t := P.turn) t0 (by omega)
    have big : (mAnd (mLft (mBin ltD (mVar 3) (mLft (mCons (mPen 0 0) mNil) lenD)) asB) (mLft (mBin geD (mLft (mCons (mVar 4) mNil) absD) (mBin powD (ret (.int 10)) (ret (.int 18)))) asB)) (zD (.int P.turn) (.int c) many { P with turn := P.turn + 1 }) = some (.ok (decide (P.turn < ((intsD P.cells).length : Int)) && decide ((10 : Int) ^ 18 ≤ (if c < 0 then -c else c))), zD (.int P.turn) (.int c) many { P with turn := P.turn + 1 }) := by
      have q1 : (mLft (mBin ltD (mVar 3) (mLft (mCons (mPen 0 0) mNil) lenD)) asB) (zD (.int P.turn) (.int c) many { P with turn := P.turn + 1 }) = some (.ok (decide (P.turn < ((intsD P.cells).length : Int))), zD (.int P.turn) (.int c) many { P with turn := P.turn + 1 }) := e_lft (e_bin (e_var rfl) (e_lft (e_cons (e_pen rfl rfl) e_nil) rfl) rfl) rfl
      cases hd : decide (P.turn < ((intsD P.cells).length : Int)) with
      | false => rw [hd] at q1; exact e_and_f q1
      | true =>
        rw [hd] at q1
        refine e_and_t q1 ?_
        rw [Bool.true_and]
        exact e_lft (e_bin (e_lft (e_cons (e_var rfl) e_nil) rfl) (e_bin e_ret e_ret (pow_k (i := 10) (j := 18) (by decide) (by decide))) rfl) rfl
    cases hd : (decide (P.turn < ((intsD P.cells).length : Int)) && decide ((10 : Int) ^ 18 ≤ (if c < 0 then -c else c))) with
    | false =>
      rw [hd] at big
      refine ⟨v, _, r_rt (e_seq (e_iff (e_lft (e_bin (e_pen rfl rfl) e_ret hb) rfl) e_nx) (e_seq (e_set (e_pen rfl rfl)) (e_seq (e_penS (e_bin (e_var rfl) e_ret rfl) rfl rfl) (e_seq (e_set (e_bin (e_bin e_ret (e_var rfl) rfl) e_ret rfl)) (e_seq hc (e_seq (e_iff big e_nx) m1)))))), m2, m3, ?_⟩
      rw [m4]
      exact ⟨by show 0 ≤ P.turn + 1; omega, by show P.turn + 1 + _ ≤ _; omega⟩
    | true =>
      rw [hd] at big
      refine ⟨_, _, r_rt (e_seq (e_iff (e_lft (e_bin (e_pen rfl rfl) e_ret hb) rfl) e_nx) (e_seq (e_set (e_pen rfl rfl)) (e_seq (e_penS (e_bin (e_var rfl) e_ret rfl) rfl rfl) (e_seq (e_set (e_bin (e_bin e_ret (e_var rfl) rfl) e_ret rfl)) (e_seq hc (e_seq_rt (e_ift big (e_seq (e_set (e_bin (e_bin e_ret (e_bin (e_lft (e_cons (e_var rfl) e_nil) rfl) (e_bin e_ret e_ret (pow_k (i := 10) (j := 18) (by decide) (by decide))) rfl) rfl) (e_lft (e_cons (e_bin (e_var rfl) e_ret rfl) e_nil) rfl) rfl)) (e_seq (e_penS (e_bin (e_lft (e_cons (e_var rfl) e_nil) rfl) (e_var rfl) (fdiv_k hm hm2)) rfl rfl) (e_mret (e_bin (e_lft (e_cons (e_var rfl) e_nil) rfl) (e_var rfl) (mod_k hm)))))))))))), Int.emod_nonneg _ (by omega), Int.emod_lt_of_pos _ hm, ?_⟩
      exact ⟨by show 0 ≤ P.turn + 1; omega, by show P.turn + 1 + _ ≤ _; omega⟩
/-- _law_pick -/
def pickM (fd : Mf) : M Fl := (mRet (mBin ixD (mVar 1) (mCall fd [] (mCons (mVar 0) (mCons (mLft (mCons (mVar 1) mNil) lenD) mNil)))))
theorem pick_ok {xs : List D} (h0 : 0 < xs.length) (h1 : xs.length < 1073741824) (h : PG (n + 1) P) : ∃ (j : Nat) (d : D) (P' : Pen), runF 2 (pickM (runF 6 drawM)) [.pen, .lst xs] P = some (.ok d, P') ∧ xs[j]? = some d ∧ PG n P' := by
  obtain ⟨v, P', e, v0, v1, g⟩ := draw_ok (many := (xs.length : Nat)) (by omega) (by omega) h
  obtain ⟨d, q1, q2⟩ := atI_int (xs := xs) v0 (by omega)
  exact ⟨v.toNat, d, P', r_rt (e_mret (e_bin (e_var rfl) (e_call (e_cons (e_var rfl) (e_cons (e_lft (e_cons (e_var rfl) e_nil) rfl) e_nil)) e) q1)), q2, g⟩
end
end DL

-- DMat
set_option maxHeartbeats 4000000
/-! DMat: rows of entries, their products by least of greatest, in plain Lean -/
namespace DL
open PySem PySem.Spec PyProof.Rows L2

def mn (l : List Int) : Int := l.min?.getD 0
theorem mn_some {l : List Int} (h : l ≠ []) : l.min? = some (mn l) := by
  cases q : l.min? with
  | none => exact absurd (List.min?_eq_none_iff.mp q) h
  | some a => unfold mn; rw [q]; rfl
theorem mn_mem {l : List Int} (h : l ≠ []) : mn l ∈ l := List.min?_mem (mn_some h)
theorem le_mn {l : List Int} (h : l ≠ []) {x : Int} : x ≤ mn l ↔ ∀ b ∈ l, x ≤ b := List.le_min?_iff (mn_some h)
/-- one column's least of greatest -/
def dot (k : Nat) (f g : Nat → Int) : Int := mn ((List.range k).map fun t => max (f t) (g t))
theorem rng_ne {k : Nat} {f : Nat → Int} (h : 0 < k) : (List.range k).map f ≠ [] := by
  intro q
  have := congrArg List.length q
  simp at this
  omega
theorem le_dot {k : Nat} {f g : Nat → Int} (h : 0 < k) {x : Int} : x ≤ dot k f g ↔ ∀ t, t < k → x ≤ max (f t) (g t) := by
  unfold dot
  rw [le_mn (rng_ne h)]
  constructor
  · intro q t ht
    exact q _ (List.mem_map.mpr ⟨t, List.mem_range.mpr ht, rfl⟩)
  · intro q b hb
    obtain ⟨t, ht, rfl⟩ := List.mem_map.mp hb
    exact q t (List.mem_range.mp ht)
theorem le_max {x a b : Int} : x ≤ max a b ↔ x ≤ a ∨ x ≤ b := by omega
theorem eq_of_le {a b : Int} (h : ∀ x, x ≤ a ↔ x ≤ b) : a = b := by
  have h1 := (h a).mp (Int.le_refl a)
  have h2 := (h b).mpr (Int.le_refl b)
  omega
theorem dot_assoc {k m : Nat} {f : Nat → Int} {g : Nat → Nat → Int} {e : Nat → Int} (hk : 0 < k) (hm : 0 < m) :
    dot m (fun j => dot k f fun t => g t j) e = dot k f fun t => dot m (fun j => g t j) e := by
  refine eq_of_le fun x => ?_
  rw [le_dot hm, le_dot hk]
  constructor
  · intro h t ht
    rw [le_max]
    by_cases hf : x ≤ f t
    · exact .inl hf
    · refine .inr ((le_dot hm).mpr fun j hj => ?_)
      rcases le_max.mp (h j hj) with q | q
      · rw [le_max]
        rcases le_max.mp ((le_dot hk).mp q t ht) with q | q
        · exact absurd q hf
        · exact .inl q
      · exact le_max.mpr (.inr q)
  · intro h j hj
    rw [le_max]
    by_cases he : x ≤ e j
    · exact .inr he
    · refine .inl ((le_dot hk).mpr fun t ht => ?_)
      rcases le_max.mp (h t ht) with q | q
      · exact le_max.mpr (.inl q)
      · rcases le_max.mp ((le_dot hm).mp q j hj) with q | q
        · exact le_max.mpr (.inr q)
        · exact absurd q he
theorem dot_mem {k : Nat} {f g : Nat → Int} (h : 0 < k) {lo hi : Int} (hf : ∀ t, t < k → lo ≤ f t ∧ f t ≤ hi) (hg : ∀ t, t < k → lo ≤ g t ∧ g t ≤ hi) : lo ≤ dot k f g ∧ dot k f g ≤ hi := by
  have := mn_mem (rng_ne (f := fun t => max (f t) (g t)) h)
  obtain ⟨t, ht, e⟩ := List.mem_map.mp this
  have ht := List.mem_range.mp ht
  have a := hf t ht
  have b := hg t ht
  show lo ≤ mn _ ∧ mn _ ≤ hi
  rw [← e]
  show lo ≤ max (f t) (g t) ∧ max (f t) (g t) ≤ hi
  omega
abbrev Rw := List (List Int)
def ent (b : Rw) (t j : Nat) : Int := (b.getD t []).getD j 0
def wid (b : Rw) : Nat := (b.headD []).length
def rmul (b : Rw) (row : List Int) : List Int := (List.range (wid b)).map fun j => dot b.length (fun t => row.getD t 0) fun t => ent b t j
def mm (a b : Rw) : Rw := a.map (rmul b)
/-- n rows, k wide, entries 0 to 3 -/
structure GR (n k : Nat) (a : Rw) : Prop where
  n : a.length = n
  k : ∀ r ∈ a, r.length = k
  e : ∀ r ∈ a, ∀ x ∈ r, 0 ≤ x ∧ x ≤ 3
theorem GR.wid {n k : Nat} {a : Rw} (g : GR n k a) (h : 0 < n) : wid a = k := by
  cases a with
  | nil => have := g.n; simp at this; omega
  | cons r a => exact g.k r List.mem_cons_self
theorem getD_of {l : List Int} {j : Nat} (h : j < l.length) : l.getD j 0 ∈ l := by
  rw [List.getD_eq_getElem?_getD, List.getElem?_eq_getElem h]
  exact List.getElem_mem h
theorem getD_row {a : Rw} {j : Nat} (h : j < a.length) : a.getD j [] ∈ a := by
  rw [List.getD_eq_getElem?_getD, List.getElem?_eq_getElem h]
  exact List.getElem_mem h
theorem rmul_len {b : Rw} {row : List Int} : (rmul b row).length = wid b := by simp [rmul]
theorem rmul_get {b : Rw} {row : List Int} {j : Nat} (h : j < wid b) : (rmul b row).getD j 0 = dot b.length (fun t => row.getD t 0) fun t => ent b t j := by
  unfold rmul
  rw [List.getD_eq_getElem?_getD, List.getElem?_map, List.getElem?_range h]
  rfl
theorem GR.ent {n k : Nat} {b : Rw} (g : GR n k b) {t j : Nat} (ht : t < n) (hj : j < k) : 0 ≤ ent b t j ∧ ent b t j ≤ 3 := by
  have hr : b.getD t [] ∈ b := getD_row (by rw [g.n]; exact ht)
  exact g.e _ hr _ (getD_of (by rw [g.k _ hr]; exact hj))
theorem mm_good {n k m : Nat} {a b : Rw} (ga : GR n k a) (gb : GR k m b) (hk : 0 < k) : GR n m (mm a b) := by
  refine ⟨by simp [mm, ga.n], fun r hr => ?_, fun r hr x hx => ?_⟩
  · obtain ⟨r0, h0, rfl⟩ := List.mem_map.mp hr
    rw [rmul_len, gb.wid hk]
  · obtain ⟨r0, h0, rfl⟩ := List.mem_map.mp hr
    obtain ⟨j, hj, rfl⟩ := List.mem_map.mp hx
    have hj := List.mem_range.mp hj
    rw [gb.wid hk] at hj
    rw [gb.n]
    exact dot_mem hk (fun t ht => ga.e _ h0 _ (getD_of (by rw [ga.k _ h0]; exact ht))) (fun t ht => gb.ent ht hj)
theorem dot_congr {k : Nat} {f f' g g' : Nat → Int} (h : ∀ t, t < k → f t = f' t) (h2 : ∀ t, t < k → g t = g' t) : dot k f g = dot k f' g' := by
  unfold dot
  congr 1
  exact List.map_congr_left fun t ht => by rw [h t (List.mem_range.mp ht), h2 t (List.mem_range.mp ht)]
theorem ent_mm {k m : Nat} {b c : Rw} (gb : GR k m b) {t j : Nat} (ht : t < k) (hj : j < wid c) : ent (mm b c) t j = dot c.length (fun i => ent b t i) fun i => ent c i j := by
  have e : (mm b c).getD t [] = rmul c (b.getD t []) := by
    unfold mm
    rw [List.getD_eq_getElem?_getD, List.getD_eq_getElem?_getD, List.getElem?_map, List.getElem?_eq_getElem (by rw [gb.n]; exact ht)]
    rfl
  show ((mm b c).getD t []).getD j 0 = _
  rw [e, rmul_get hj]
  rfl
theorem mm_assoc {n k m l : Nat} {a b c : Rw} (ga : GR n k a) (gb : GR k m b) (gc : GR m l c) (hk : 0 < k) (hm : 0 < m) : mm (mm a b) c = mm a (mm b c) := by
  have gbc := mm_good gb gc hm
  unfold mm
  rw [List.map_map]
  refine List.map_congr_left fun row hrow => ?_
  show rmul c (rmul b row) = rmul (mm b c) row
  unfold rmul
  rw [gbc.wid hk, gc.wid hm]
  refine List.map_congr_left fun j hj => ?_
  have hj := List.mem_range.mp hj
  rw [gbc.n, gc.n]
  have e1 : dot m (fun t => ((List.range (wid b)).map fun j => dot b.length (fun t => row.getD t 0) fun t => ent b t j).getD t 0) (fun t => ent c t j) = dot m (fun i => dot k (fun t => row.getD t 0) fun t => ent b t i) fun t => ent c t j := by
    refine dot_congr (fun t ht => ?_) fun _ _ => rfl
    have := rmul_get (b := b) (row := row) (j := t) (by rw [gb.wid hk]; exact ht)
    rw [gb.n] at this
    exact this
  have e2 : dot k (fun t => row.getD t 0) (fun t => ent (mm b c) t j) = dot k (fun t => row.getD t 0) fun t => dot m (fun i => ent b t i) fun i => ent c i j := by
    refine dot_congr (fun _ _ => rfl) fun t ht => ?_
    rw [ent_mm gb ht (by rw [gc.wid hm]; exact hj), gc.n]
  rw [e1, e2]
  exact dot_assoc hk hm

/-! ### as data -/
def rT (r : List Int) : D := .tup (intsD r)
def rL (r : List Int) : D := .lst (intsD r)
def tR (a : Rw) : D := .tup (a.map rT)
def lR (a : Rw) : D := .lst (a.map rL)
theorem sh_tR (a : Rw) : Shp 2 (tR a) := sh_tup (shs_all fun d h => by
  obtain ⟨r, _, rfl⟩ := List.mem_map.mp h
  exact sh_tup (shs_ints r))
theorem intsD_len (ns : List Int) : (intsD ns).length = ns.length := by simp [intsD]
theorem ints_of : ∀ ns : List Int, intsOf (intsD ns) = some ns
  | [] => rfl
  | n :: ns => by
    show (intsOf (intsD ns)).map (n :: ·) = _
    rw [ints_of ns]
    rfl
theorem min_k {ns : List Int} (h : ns ≠ []) : minD [.lst (intsD ns)] = some (.int (mn ns)) := by
  show (intsOf (intsD ns)).bind _ = _
  rw [ints_of]
  show ns.min?.map D.int = _
  rw [mn_some h]
  rfl
theorem max_k2 {i j : Int} : maxD [.int i, .int j] = some (.int (max i j)) := by
  show some (D.int (if j > i then j else i)) = _
  congr 2
  omega
theorem max_kt {i j : Int} : maxD [.tup [.int i, .int j]] = some (.int (max i j)) := rfl
theorem bls_true {α : Type} : ∀ ds : List α, blsOf (ds.map fun _ => D.bl true) = some (ds.map fun _ => true)
  | [] => rfl
  | d :: ds => by
    show (blsOf (ds.map fun _ => D.bl true)).map (true :: ·) = _
    rw [bls_true ds]
    rfl
theorem all_true {α : Type} (ds : List α) : allD [.lst (ds.map fun _ => D.bl true)] = some (.bl true) := by
  show (blsOf _).map _ = _
  rw [bls_true]
  simp
theorem rng_kB {n : Nat} (h : n ≤ lim) : -(2 ^ 62) ≤ ((n : Nat) : Int) ∧ ((n : Nat) : Int) < 2 ^ 62 := by
  have hl : lim = 16777216 := rfl
  have h1 : (n : Int) < 16777217 := by omega
  have h0 : (0 : Int) ≤ n := by omega
  generalize (n : Int) = x at h1 h0
  exact ⟨by omega, by omega⟩
theorem rng_k {n : Nat} (h : n ≤ lim) : rng1 [.int (n : Nat)] = some (rngL 0 n) := by
  dsimp only [rng1]
  rw [if_pos (rng_kB h)]
theorem rngL_eq (n : Nat) : rngL 0 (n : Nat) = (List.range n).map fun (k : Nat) => D.int k := by
  unfold rngL
  rw [show ((n : Int) - 0).toNat = n by omega]
  exact List.map_congr_left fun k _ => by rw [Int.zero_add]
theorem rngL_len (n : Nat) : (rngL 0 (n : Nat)).length = n := by rw [rngL_eq]; simp
theorem at_nat {xs : List D} {j : Nat} {d : D} (h : xs[j]? = some d) : atI xs (j : Int) = some d := atI_nat h
theorem at_rows {a : Rw} {j : Nat} (h : j < a.length) : atI (a.map rT) (j : Int) = some (rT (a.getD j [])) := by
  refine atI_nat ?_
  rw [List.getElem?_map, List.getElem?_eq_getElem h, List.getD_eq_getElem?_getD, List.getElem?_eq_getElem h]
  rfl
theorem at_ints {a : List Int} {j : Nat} (h : j < a.length) : atI (intsD a) (j : Int) = some (.int (a.getD j 0)) := by
  refine atI_nat ?_
  unfold intsD
  rw [List.getElem?_map, List.getElem?_eq_getElem h, List.getD_eq_getElem?_getD, List.getElem?_eq_getElem h]
  rfl
theorem A2.ints {Q : Int → Prop} : ∀ {ds ys : List D}, A2 (fun _ y => ∃ e : Int, y = .int e ∧ Q e) ds ys → ∃ ns : List Int, ys = intsD ns ∧ ns.length = ds.length ∧ ∀ e ∈ ns, Q e
  | _, _, .nil => ⟨[], rfl, rfl, fun _ h => by cases h⟩
  | _, _, .cons ⟨e, h, q⟩ t => by
    subst h
    obtain ⟨ns, rfl, l, a⟩ := t.ints
    refine ⟨e :: ns, rfl, by simp [l], fun x hx => ?_⟩
    rcases List.mem_cons.mp hx with rfl | hx
    · exact q
    · exact a x hx
theorem A2.rows {Q : List Int → Prop} : ∀ {ds ys : List D}, A2 (fun _ y => ∃ e : List Int, y = rT e ∧ Q e) ds ys → ∃ ns : Rw, ys = ns.map rT ∧ ns.length = ds.length ∧ ∀ e ∈ ns, Q e
  | _, _, .nil => ⟨[], rfl, rfl, fun _ h => by cases h⟩
  | _, _, .cons ⟨e, h, q⟩ t => by
    subst h
    obtain ⟨ns, rfl, l, a⟩ := t.rows
    refine ⟨e :: ns, rfl, by simp [l], fun x hx => ?_⟩
    rcases List.mem_cons.mp hx with rfl | hx
    · exact q
    · exact a x hx
theorem rowsT_of : ∀ a : Rw, rowsD (a.map rT) = some (a.map intsD)
  | [] => rfl
  | r :: a => by
    show (match rowsD (a.map rT) with
      | some xss => some (intsD r :: xss)
      | none => none) = _
    rw [rowsT_of a]
    rfl
/-- the columns -/
def colI (b : Rw) (j : Nat) : List Int := (List.range b.length).map fun t => ent b t j
theorem map_ix {α β : Type} (l : List α) (f : α → β) (d : α) : l.map f = (List.range l.length).map fun t => f (l.getD t d) := by
  refine List.ext_getElem (by simp) fun i h1 h2 => ?_
  simp at h1
  simp [List.getElem?_eq_getElem h1]
theorem zcol_k {k m : Nat} {b : Rw} (g : GR k m b) (hk : 0 < k) (hm : 0 < m) (hk2 : k ≤ lim) (hm2 : m ≤ lim) : zcolD (tR b) = some (.lst ((List.range m).map fun j => rT (colI b j))) := by
  show (match rowsD (b.map rT) with
    | some (xs :: xss) => if 0 < xs.length ∧ xs.length ≤ lim ∧ (b.map rT).length ≤ lim ∧ (∀ ys ∈ xss, ys.length = xs.length) then some (D.lst (colsD xs.length (xs :: xss))) else none
    | _ => none) = _
  rw [rowsT_of]
  cases b with
  | nil => have := g.n; simp at this; omega
  | cons r b =>
    have hr : r.length = m := g.k r List.mem_cons_self
    have hl : (intsD r).length = m := by rw [intsD_len, hr]
    show (if 0 < (intsD r).length ∧ (intsD r).length ≤ lim ∧ ((r :: b).map rT).length ≤ lim ∧ (∀ ys ∈ b.map intsD, ys.length = (intsD r).length) then some (D.lst (colsD (intsD r).length ((r :: b).map intsD))) else none) = _
    rw [hl, if_pos ⟨hm, hm2, by rw [List.length_map, g.n]; exact hk2, fun ys hy => by
      obtain ⟨q, hq, rfl⟩ := List.mem_map.mp hy
      rw [intsD_len]
      exact g.k q (List.mem_cons_of_mem _ hq)⟩]
    congr 2
    refine List.map_congr_left fun j hj => ?_
    have hj := List.mem_range.mp hj
    show D.tup _ = D.tup _
    congr 1
    rw [List.map_map, map_ix (r :: b) _ []]
    unfold colI intsD
    rw [List.map_map]
    refine List.map_congr_left fun t ht => ?_
    have ht := List.mem_range.mp ht
    have hq := getD_row ht
    have hjl : j < ((r :: b).getD t []).length := by rw [g.k _ hq]; exact hj
    show (intsD ((r :: b).getD t [])).getD j .non = D.int (((r :: b).getD t []).getD j 0)
    generalize ((r :: b).getD t []) = q at hjl
    unfold intsD
    rw [List.getD_eq_getElem?_getD, List.getElem?_map, List.getElem?_eq_getElem hjl, List.getD_eq_getElem?_getD, List.getElem?_eq_getElem hjl]
    rfl
def fmx : D → D
  | .tup [.int x, .int y] => .int (max x y)
  | _ => .non
theorem zip_fmx {r s : List Int} {k : Nat} (hr : r.length = k) (hs : s.length = k) : (zipL (intsD r) (intsD s)).map fmx = intsD ((List.range k).map fun t => max (r.getD t 0) (s.getD t 0)) := by
  subst hr
  unfold zipL intsD
  refine List.ext_getElem (by simp [hs]) fun i h1 h2 => ?_
  simp [hs] at h1 h2
  simp [fmx, List.getElem?_eq_getElem h1, List.getElem?_eq_getElem (show i < s.length by omega)]
theorem zip_mem {r s : List Int} {d : D} (h : d ∈ zipL (intsD r) (intsD s)) : ∃ x y : Int, d = .tup [.int x, .int y] := by
  unfold zipL intsD at h
  rw [List.zipWith_map] at h
  obtain ⟨i, hi, e⟩ := List.mem_iff_getElem.mp h
  rw [List.getElem_zipWith] at e
  exact ⟨_, _, e.symm⟩
theorem colI_len (b : Rw) (j : Nat) : (colI b j).length = b.length := by simp [colI]
theorem colI_get {b : Rw} {j t : Nat} (h : t < b.length) : (colI b j).getD t 0 = ent b t j := by
  unfold colI
  rw [List.getD_eq_getElem?_getD, List.getElem?_map, List.getElem?_range h]
  rfl
theorem r_rtq {N : Nat} {k : M Fl} {ds : List D} {P Q : Pen} {d : D} {z1 : Z} (h : k (z0 N ds P) = some (.ok (.rt d), z1)) (hQ : z1.P = Q) : runF N k ds P = some (.ok d, Q) := by
  rw [r_rt h, hQ]
theorem r_nxq {N : Nat} {k : M Fl} {ds : List D} {P Q : Pen} {z1 : Z} (h : k (z0 N ds P) = some (.ok .nx, z1)) (hQ : z1.P = Q) : runF N k ds P = some (.ok .non, Q) := by
  rw [r_nx h, hQ]
theorem r_erq {N : Nat} {k : M Fl} {ds : List D} {P Q : Pen} {x : XD} {z1 : Z} (h : k (z0 N ds P) = some (.error x, z1)) (hQ : z1.P = Q) : runF N k ds P = some (.error x, Q) := by
  rw [r_er h, hQ]
theorem r_inq {C : Addr} {N : Nat} {k : M Fl} {ds : List D} {P Q : Pen} {ns : List Str} {es : List D} {z1 : Z} (h : k (zI C N ds P) = some (.ok .nx, z1)) (h0 : z1.S[0]? = some (.ow (.obj C ns es))) (hQ : z1.P = Q) : runI C N k ds P = some (.ok (ns, es), Q) := by
  rw [r_in h h0, hQ]
theorem le_k {i j : Int} (h : i ≤ j) : leD (.int i) (.int j) = some (.bl true) := by
  show some (D.bl (decide (i ≤ j))) = _
  rw [decide_eq_true h]
theorem gt_k {i j : Int} (h : j < i) : gtD (.int i) (.int j) = some (.bl true) := gt_asB (decide_eq_true h)
theorem gt_kf {i j : Int} (h : i ≤ j) : gtD (.int i) (.int j) = some (.bl false) := gt_asB (decide_eq_false (by omega))
theorem eq_k {i j : Int} (h : i = j) : eqD (.int i) (.int j) = some (.bl true) := by rw [eqD_int, decide_eq_true h]
theorem eq_kf {i j : Int} (h : i ≠ j) : eqD (.int i) (.int j) = some (.bl false) := by rw [eqD_int, decide_eq_false h]
theorem ne_k {i j : Int} (h : i ≠ j) : neD (.int i) (.int j) = some (.bl true) := by rw [neD_int, decide_eq_false h]; rfl
theorem ne_kf {i j : Int} (h : i = j) : neD (.int i) (.int j) = some (.bl false) := by rw [neD_int, decide_eq_true h]; rfl
section
variable {β : Type} {vs : List Nat} {tg : D → Z → Option Z} {me : M D} {S : List Sl}
theorem go_mapg {P : Pen} {g f : β → D} : ∀ (l : List β) (acc : List D), (∀ x ∈ l, ∃ z2 S', tg (g x) ⟨S, P⟩ = some z2 ∧ me z2 = some (.ok (f x), ⟨S', P⟩) ∧ wipeS S' vs = S) → acc.length + l.length ≤ lim →
    lcGo vs tg mYes me (l.map g) acc ⟨S, P⟩ = some (acc ++ l.map f, ⟨S, P⟩)
  | [], acc, _, _ => by simp [lcGo]
  | d :: ds, acc, h, hl => by
    obtain ⟨z2, S', h1, h2, h3⟩ := h d List.mem_cons_self
    have ih := go_mapg ds (acc ++ [f d]) (fun e he => h e (List.mem_cons_of_mem _ he)) (by simp at hl ⊢; omega)
    have hacc : acc.length < lim := by simp only [List.length_cons] at hl; omega
    rw [List.map_cons]
    unfold lcGo
    rw [h1]
    show (match me z2 with
      | some (.ok y, z3) => if acc.length < lim then lcGo vs tg mYes me (ds.map g) (acc ++ [y]) (wipeZ vs z3) else none
      | _ => none) = _
    rw [h2]
    show (if acc.length < lim then lcGo vs tg mYes me (ds.map g) (acc ++ [f d]) ⟨wipeS S' vs, P⟩ else none) = _
    rw [if_pos hacc, h3, ih]
    simp
theorem e_lc_mg {ms : M (List D)} {z z1 : Z} {S3 : List Sl} {l : List β} {g : β → D} (f : β → D) (h : ms z = some (.ok (l.map g), z1)) (hl : l.length ≤ lim) (hb : ∀ x ∈ l, ∃ z2 S', tg (g x) ⟨wipeS z1.S vs, z1.P⟩ = some z2 ∧ me z2 = some (.ok (f x), ⟨S', z1.P⟩) ∧ wipeS S' vs = wipeS z1.S vs)
    (hS : backS z1.S (wipeS z1.S vs) vs = S3) : mLc vs ms tg mYes me z = some (.ok (.lst (l.map f)), ⟨S3, z1.P⟩) := by
  refine (bnd_eq h).trans ?_
  show (match lcGo vs tg mYes me (l.map g) [] ⟨wipeS z1.S vs, z1.P⟩ with
    | some (acc, z') => some (Except.ok (D.lst acc), (⟨backS z1.S z'.S vs, z'.P⟩ : Z))
    | none => none) = _
  rw [go_mapg l [] hb (by simpa using hl)]
  show some (Except.ok (D.lst ([] ++ l.map f)), (⟨backS z1.S (wipeS z1.S vs) vs, z1.P⟩ : Z)) = _
  rw [hS]
  rfl
end
theorem e_lc_go {vs : List Nat} {tg : D → Z → Option Z} {mt : M Bool} {me : M D} {ms : M (List D)} {z z1 z2 : Z} {ds acc : List D} (h : ms z = some (.ok ds, z1)) (hg : lcGo vs tg mt me ds [] (wipeZ vs z1) = some (acc, z2)) : mLc vs ms tg mt me z = some (.ok (.lst acc), ⟨backS z1.S z2.S vs, z2.P⟩) := by
  refine (bnd_eq h).trans ?_
  show (match lcGo vs tg mt me ds [] (wipeZ vs z1) with
    | some (acc, z') => some (Except.ok (D.lst acc), (⟨backS z1.S z'.S vs, z'.P⟩ : Z))
    | none => none) = _
  rw [hg]
theorem look_of {l : List (Addr × Bool)} {φ : Addr → Option Bool} (h : ∀ p ∈ l, φ p.1 = some p.2) {C : Addr} {b : Bool} (hm : (C, b) ∈ l) : l.lookup C = some b := by
  have hc := h _ hm
  induction l with
  | nil => cases hm
  | cons p l ih =>
    obtain ⟨D, d⟩ := p
    rw [List.lookup_cons]
    by_cases e : C = D
    · subst e
      have h1 := h (C, d) List.mem_cons_self
      have h1 : φ C = some d := h1
      have hc : φ C = some b := hc
      rw [h1] at hc
      cases hc
      simp
    · rw [show (C == D) = false from by simpa using e]
      refine ih (fun p hp => h p (List.mem_cons_of_mem _ hp)) ?_
      rcases List.mem_cons.mp hm with q | q
      · cases q; exact absurd rfl e
      · exact q
theorem dints_map {α : Type} (l : List α) (f : α → Int) : (l.map fun x => D.int (f x)) = intsD (l.map f) := by
  unfold intsD
  rw [List.map_map]
  rfl
theorem zip_k {r s : List Int} {k : Nat} (hr : r.length = k) (hs : s.length = k) : zipND [rT r, rT s] = some ((List.range k).map fun t => .tup [.int (r.getD t 0), .int (s.getD t 0)]) := by
  subst hr
  show (if (intsD r).length = (intsD s).length then some (intsD r, intsD s) else none).map _ = _
  rw [if_pos (by rw [intsD_len, intsD_len, hs])]
  show some (zipL (intsD r) (intsD s)) = _
  congr 1
  unfold zipL intsD
  refine List.ext_getElem (by simp [hs]) fun i h1 h2 => ?_
  simp [hs] at h1 h2
  simp [List.getElem?_eq_getElem h1, List.getElem?_eq_getElem (show i < s.length by omega)]
theorem en_k {r : List Int} : enD [rT r] = some ((List.range r.length).map fun t => .tup [.int (t : Nat), .int (r.getD t 0)]) := by
  show (some (intsD r)).map _ = _
  show some ((List.range (intsD r).length).zipWith (fun (k : Nat) x => D.tup [.int k, x]) (intsD r)) = _
  congr 1
  unfold intsD
  refine List.ext_getElem (by simp) fun i h1 h2 => ?_
  simp at h1 h2
  simp [List.getElem?_eq_getElem h1]
end DL

-- G25a
set_option maxHeartbeats 4000000
namespace K25
open PySem PySem.Spec PyProof.Rows L2 DL

def topS (i : Nat) : Stmt := PySem.Challenge.pw_howfaroff_k25_matrices_and_products.main.body.getD i (.Pass ⟨0, 0, 0, 0⟩)
abbrev s_Matrix_init : Stmt := inClass (topS 24) 0
abbrev N_Matrix_init : List Str := ["self", "before", "behind", "rows", "row"]
theorem sc_Matrix_init : FnScope N_Matrix_init ["self", "before", "behind", "rows"] (defScope s_Matrix_init) := ⟨rfl, rfl, rfl, by decide +kernel, rfl, by decide +kernel, by decide +kernel⟩
abbrev s_Matrix_eq : Stmt := inClass (topS 24) 1
abbrev N_Matrix_eq : List Str := ["self", "other"]
theorem sc_Matrix_eq : FnScope N_Matrix_eq ["self", "other"] (defScope s_Matrix_eq) := ⟨rfl, rfl, rfl, by decide +kernel, rfl, by decide +kernel, by decide +kernel⟩
abbrev s_Matrix_told : Stmt := inClass (topS 24) 2
abbrev N_Matrix_told : List Str := ["self"]
theorem sc_Matrix_told : FnScope N_Matrix_told ["self"] (defScope s_Matrix_told) := ⟨rfl, rfl, rfl, by decide +kernel, rfl, by decide +kernel, by decide +kernel⟩
abbrev s_is_integer : Stmt := topS 1
abbrev N_is_integer : List Str := ["value"]
theorem sc_is_integer : FnScope N_is_integer ["value"] (defScope s_is_integer) := ⟨rfl, rfl, rfl, by decide +kernel, rfl, by decide +kernel, by decide +kernel⟩
abbrev s_is_between : Stmt := topS 2
abbrev N_is_between : List Str := ["value", "least", "most"]
theorem sc_is_between : FnScope N_is_between ["value", "least", "most"] (defScope s_is_between) := ⟨rfl, rfl, rfl, by decide +kernel, rfl, by decide +kernel, by decide +kernel⟩
abbrev s_is_listed : Stmt := topS 3
abbrev N_is_listed : List Str := ["value"]
theorem sc_is_listed : FnScope N_is_listed ["value"] (defScope s_is_listed) := ⟨rfl, rfl, rfl, by decide +kernel, rfl, by decide +kernel, by decide +kernel⟩
abbrev s_are_entries : Stmt := topS 25
abbrev N_are_entries : List Str := ["value", "row", "one"]
theorem sc_are_entries : FnScope N_are_entries ["value"] (defScope s_are_entries) := ⟨rfl, rfl, rfl, by decide +kernel, rfl, by decide +kernel, by decide +kernel⟩
abbrev s_times : Stmt := topS 26
abbrev N_times : List Str := ["one", "other", "columns", "row", "column", "pair"]
theorem sc_times : FnScope N_times ["one", "other"] (defScope s_times) := ⟨rfl, rfl, rfl, by decide +kernel, rfl, by decide +kernel, by decide +kernel⟩
abbrev s_behind_both : Stmt := topS 27
abbrev N_behind_both : List Str := ["one", "other"]
theorem sc_behind_both : FnScope N_behind_both ["one", "other"] (defScope s_behind_both) := ⟨rfl, rfl, rfl, by decide +kernel, rfl, by decide +kernel, by decide +kernel⟩
abbrev s_need_matrix : Stmt := topS 28
abbrev N_need_matrix : List Str := ["value", "part"]
theorem sc_need_matrix : FnScope N_need_matrix ["value", "part"] (defScope s_need_matrix) := ⟨rfl, rfl, rfl, by decide +kernel, rfl, by decide +kernel, by decide +kernel⟩
abbrev s_product : Stmt := topS 29
abbrev N_product : List Str := ["one", "other"]
theorem sc_product : FnScope N_product ["one", "other"] (defScope s_product) := ⟨rfl, rfl, rfl, by decide +kernel, rfl, by decide +kernel, by decide +kernel⟩
abbrev s__law_pen : Stmt := topS 31
abbrev N__law_pen : List Str := ["script", "cell"]
theorem sc__law_pen : FnScope N__law_pen ["script"] (defScope s__law_pen) := ⟨rfl, rfl, rfl, by decide +kernel, rfl, by decide +kernel, by decide +kernel⟩
abbrev s__law_draw : Stmt := topS 32
abbrev N__law_draw : List Str := ["pen", "many", "rest", "turn", "cell", "mixed"]
theorem sc__law_draw : FnScope N__law_draw ["pen", "many"] (defScope s__law_draw) := ⟨rfl, rfl, rfl, by decide +kernel, rfl, by decide +kernel, by decide +kernel⟩
abbrev s__law_pick : Stmt := topS 33
abbrev N__law_pick : List Str := ["pen", "some"]
theorem sc__law_pick : FnScope N__law_pick ["pen", "some"] (defScope s__law_pick) := ⟨rfl, rfl, rfl, by decide +kernel, rfl, by decide +kernel, by decide +kernel⟩
abbrev s__law_ho_heard : Stmt := topS 34
abbrev N__law_ho_heard : List Str := ["ask", "found", "caught", "error", "some", "words", "word", "is_one"]
theorem sc__law_ho_heard : FnScope N__law_ho_heard ["ask"] (defScope s__law_ho_heard) := ⟨rfl, rfl, rfl, by decide +kernel, rfl, by decide +kernel, by decide +kernel⟩
abbrev s__law_b_times : Stmt := topS 35
abbrev N__law_b_times : List Str := ["one", "other", "found", "row", "spot", "at", "entry"]
theorem sc__law_b_times : FnScope N__law_b_times ["one", "other"] (defScope s__law_b_times) := ⟨rfl, rfl, rfl, by decide +kernel, rfl, by decide +kernel, by decide +kernel⟩
abbrev s__law_b_product : Stmt := topS 36
abbrev N__law_b_product : List Str := ["one", "other"]
theorem sc__law_b_product : FnScope N__law_b_product ["one", "other"] (defScope s__law_b_product) := ⟨rfl, rfl, rfl, by decide +kernel, rfl, by decide +kernel, by decide +kernel⟩
abbrev s__law_b_lists : Stmt := topS 37
abbrev N__law_b_lists : List Str := ["value", "one"]
theorem sc__law_b_lists : FnScope N__law_b_lists ["value"] (defScope s__law_b_lists) := ⟨rfl, rfl, rfl, by decide +kernel, rfl, by decide +kernel, by decide +kernel⟩
abbrev s__law_mx : Stmt := topS 38
abbrev N__law_mx : List Str := ["pen", "before", "behind", "many", "wide", "some", "at", "spot"]
theorem sc__law_mx : FnScope N__law_mx ["pen", "before", "behind", "many", "wide"] (defScope s__law_mx) := ⟨rfl, rfl, rfl, by decide +kernel, rfl, by decide +kernel, by decide +kernel⟩
abbrev s_law : Stmt := topS 39
abbrev N_law : List Str := ["script", "pen", "turn", "sizes", "states", "plain", "some", "due", "other", "wrong", "none", "at", "one"]
theorem sc_law : FnScope N_law ["script"] (defScope s_law) := ⟨rfl, rfl, rfl, by decide +kernel, rfl, by decide +kernel, by decide +kernel⟩
abbrev sx_BadValue : Stmt := inClass (topS 6) 0
theorem sc_BadValue : SupScope ["self", "part"] ["self", "part"] (defScope sx_BadValue) := ⟨rfl, rfl, rfl, by decide +kernel, rfl, by decide +kernel, by decide +kernel, by decide +kernel, by decide +kernel, by decide +kernel⟩
abbrev sx_Misfit : Stmt := inClass (topS 17) 0
theorem sc_Misfit : SupScope ["self", "part"] ["self", "part"] (defScope sx_Misfit) := ⟨rfl, rfl, rfl, by decide +kernel, rfl, by decide +kernel, by decide +kernel, by decide +kernel, by decide +kernel, by decide +kernel⟩
abbrev sx_BadNumber : Stmt := inClass (topS 7) 0
theorem sc_BadNumber : SupScope ["self", "part"] ["self", "part"] (defScope sx_BadNumber) := ⟨rfl, rfl, rfl, by decide +kernel, rfl, by decide +kernel, by decide +kernel, by decide +kernel, by decide +kernel, by decide +kernel⟩
/-- where the top's things stand -/
structure Ad where
  c_WebError : Addr
  c_BadValue : Addr
  c_BadNumber : Addr
  c_BadName : Addr
  c_NoName : Addr
  c_BadGrowth : Addr
  c_BadWish : Addr
  c_BadPrices : Addr
  c_BadWorld : Addr
  c_BadPaper : Addr
  c_BadText : Addr
  c_BadLine : Addr
  c_Misfit : Addr
  c_Nothing : Addr
  c_TooMany : Addr
  c_Matrix : Addr
  f_Matrix_init : Addr
  d_Matrix_init : FuncData
  f_Matrix_eq : Addr
  d_Matrix_eq : FuncData
  f_Matrix_told : Addr
  d_Matrix_told : FuncData
  f_is_integer : Addr
  d_is_integer : FuncData
  f_is_between : Addr
  d_is_between : FuncData
  f_is_listed : Addr
  d_is_listed : FuncData
  f_are_entries : Addr
  d_are_entries : FuncData
  f_times : Addr
  d_times : FuncData
  f_behind_both : Addr
  d_behind_both : FuncData
  f_need_matrix : Addr
  d_need_matrix : FuncData
  f_product : Addr
  d_product : FuncData
  f__law_pen : Addr
  d__law_pen : FuncData
  f__law_draw : Addr
  d__law_draw : FuncData
  f__law_pick : Addr
  d__law_pick : FuncData
  f__law_ho_heard : Addr
  d__law_ho_heard : FuncData
  f__law_b_times : Addr
  d__law_b_times : FuncData
  f__law_b_product : Addr
  d__law_b_product : FuncData
  f__law_b_lists : Addr
  d__law_b_lists : FuncData
  f__law_mx : Addr
  d__law_mx : FuncData
  f_law : Addr
  d_law : FuncData
  fx_BadValue : Addr
  dx_BadValue : FuncData
  cd_BadValue : Addr
  cc_BadValue : Addr
  fx_Misfit : Addr
  dx_Misfit : FuncData
  cd_Misfit : Addr
  cc_Misfit : Addr
  fx_BadNumber : Addr
  dx_BadNumber : FuncData
  cd_BadNumber : Addr
  cc_BadNumber : Addr
  t_NONE : Tok
  t_NEVER : Tok
  t_MOST_STATE : Tok
/-! ### tables of isinstance -/
def tt_bool : List (String × Bool) := [("NoneType", false), ("bool", true), ("int", false), ("str", false), ("list", false), ("tuple", false)]
def to_bool (A : Ad) : List (Addr × Bool) := [(A.c_Matrix, false)]
def tt_int : List (String × Bool) := [("NoneType", false), ("bool", true), ("int", true), ("str", false), ("list", false), ("tuple", false)]
def to_int (A : Ad) : List (Addr × Bool) := [(A.c_Matrix, false)]
def tt_list_tuple : List (String × Bool) := [("NoneType", false), ("bool", false), ("int", false), ("str", false), ("list", true), ("tuple", true)]
def to_list_tuple (A : Ad) : List (Addr × Bool) := [(A.c_Matrix, false)]
def tt_Matrix : List (String × Bool) := [("NoneType", false), ("bool", false), ("int", false), ("str", false), ("list", false), ("tuple", false)]
def to_Matrix (A : Ad) : List (Addr × Bool) := [(A.c_Matrix, true)]
def xt_BadGrowth (A : Ad) : List (Addr × Bool) := [(A.c_BadValue, false), (A.c_Misfit, false), (A.c_BadNumber, false)]
def xt_BadLine (A : Ad) : List (Addr × Bool) := [(A.c_BadValue, false), (A.c_Misfit, false), (A.c_BadNumber, false)]
def xt_BadName (A : Ad) : List (Addr × Bool) := [(A.c_BadValue, false), (A.c_Misfit, false), (A.c_BadNumber, false)]
def xt_BadNumber (A : Ad) : List (Addr × Bool) := [(A.c_BadValue, false), (A.c_Misfit, false), (A.c_BadNumber, true)]
def xt_BadPaper (A : Ad) : List (Addr × Bool) := [(A.c_BadValue, false), (A.c_Misfit, false), (A.c_BadNumber, false)]
def xt_BadPrices (A : Ad) : List (Addr × Bool) := [(A.c_BadValue, false), (A.c_Misfit, false), (A.c_BadNumber, false)]
def xt_BadText (A : Ad) : List (Addr × Bool) := [(A.c_BadValue, false), (A.c_Misfit, false), (A.c_BadNumber, false)]
def xt_BadValue (A : Ad) : List (Addr × Bool) := [(A.c_BadValue, true), (A.c_Misfit, false), (A.c_BadNumber, false)]
def xt_BadWish (A : Ad) : List (Addr × Bool) := [(A.c_BadValue, false), (A.c_Misfit, false), (A.c_BadNumber, false)]
def xt_BadWorld (A : Ad) : List (Addr × Bool) := [(A.c_BadValue, false), (A.c_Misfit, false), (A.c_BadNumber, false)]
def xt_Misfit (A : Ad) : List (Addr × Bool) := [(A.c_BadValue, false), (A.c_Misfit, true), (A.c_BadNumber, false)]
def xt_NoName (A : Ad) : List (Addr × Bool) := [(A.c_BadValue, false), (A.c_Misfit, false), (A.c_BadNumber, false)]
def xt_Nothing (A : Ad) : List (Addr × Bool) := [(A.c_BadValue, false), (A.c_Misfit, false), (A.c_BadNumber, false)]
def xt_TooMany (A : Ad) : List (Addr × Bool) := [(A.c_BadValue, false), (A.c_Misfit, false), (A.c_BadNumber, false)]
def fc_before (A : Ad) : List Addr := [A.c_Matrix]
def fc_behind (A : Ad) : List Addr := [A.c_Matrix]
def fc_rows (A : Ad) : List Addr := [A.c_Matrix]
def xc_at (A : Ad) : List Addr := []
def xc_line (A : Ad) : List Addr := []
def xc_most (A : Ad) : List Addr := []
def xc_name (A : Ad) : List Addr := []
def xc_part (A : Ad) : List Addr := [A.c_BadValue, A.c_Misfit, A.c_BadNumber]
def xc_value (A : Ad) : List Addr := []
def xc_what (A : Ad) : List Addr := []
def xc_word (A : Ad) : List Addr := []
def hc (A : Ad) : List Addr := [A.c_BadValue, A.c_Misfit, A.c_BadNumber]
def et_Matrix : List String := ["NoneType", "bool", "int", "str", "list", "tuple"]
def ec_Matrix (A : Ad) : List Addr := [A.c_Matrix]
/-! ### what the written part says -/
structure Tx (P : Program) (K : PySem.W.Frag) (mg : Str → Option Value) (A : Ad) : Prop where
  F_Matrix_init : Fun K "__init__" "Matrix.__init__" s_Matrix_init A.f_Matrix_init A.d_Matrix_init
  b_Matrix_init : Binds K A.d_Matrix_init ["self", "before", "behind", "rows"] []
  F_Matrix_eq : Fun K "__eq__" "Matrix.__eq__" s_Matrix_eq A.f_Matrix_eq A.d_Matrix_eq
  b_Matrix_eq : Binds K A.d_Matrix_eq ["self", "other"] []
  m_Matrix_eq : Meth K A.c_Matrix "__eq__" A.f_Matrix_eq
  F_Matrix_told : Fun K "told" "Matrix.told" s_Matrix_told A.f_Matrix_told A.d_Matrix_told
  b_Matrix_told : Binds K A.d_Matrix_told ["self"] []
  m_Matrix_told : Meth K A.c_Matrix "told" A.f_Matrix_told
  F_is_integer : Fun K "is_integer" "is_integer" s_is_integer A.f_is_integer A.d_is_integer
  b_is_integer : Binds K A.d_is_integer ["value"] []
  g_is_integer : mg "is_integer" = some (.ref A.f_is_integer)
  F_is_between : Fun K "is_between" "is_between" s_is_between A.f_is_between A.d_is_between
  b_is_between : Binds K A.d_is_between ["value", "least", "most"] []
  g_is_between : mg "is_between" = some (.ref A.f_is_between)
  F_is_listed : Fun K "is_listed" "is_listed" s_is_listed A.f_is_listed A.d_is_listed
  b_is_listed : Binds K A.d_is_listed ["value"] []
  g_is_listed : mg "is_listed" = some (.ref A.f_is_listed)
  F_are_entries : Fun K "are_entries" "are_entries" s_are_entries A.f_are_entries A.d_are_entries
  b_are_entries : Binds K A.d_are_entries ["value"] []
  g_are_entries : mg "are_entries" = some (.ref A.f_are_entries)
  F_times : Fun K "times" "times" s_times A.f_times A.d_times
  b_times : Binds K A.d_times ["one", "other"] []
  g_times : mg "times" = some (.ref A.f_times)
  F_behind_both : Fun K "behind_both" "behind_both" s_behind_both A.f_behind_both A.d_behind_both
  b_behind_both : Binds K A.d_behind_both ["one", "other"] []
  g_behind_both : mg "behind_both" = some (.ref A.f_behind_both)
  FD_need_matrix : FunD K "need_matrix" "need_matrix" (defArgs s_need_matrix) (defBody s_need_matrix) (defScope s_need_matrix) [.str "matrix"] [] A.f_need_matrix A.d_need_matrix
  b_need_matrix : Binds K A.d_need_matrix ["value", "part"] []
  g_need_matrix : mg "need_matrix" = some (.ref A.f_need_matrix)
  F_product : Fun K "product" "product" s_product A.f_product A.d_product
  b_product : Binds K A.d_product ["one", "other"] []
  g_product : mg "product" = some (.ref A.f_product)
  F__law_pen : Fun K "_law_pen" "_law_pen" s__law_pen A.f__law_pen A.d__law_pen
  b__law_pen : Binds K A.d__law_pen ["script"] []
  g__law_pen : mg "_law_pen" = some (.ref A.f__law_pen)
  F__law_draw : Fun K "_law_draw" "_law_draw" s__law_draw A.f__law_draw A.d__law_draw
  b__law_draw : Binds K A.d__law_draw ["pen", "many"] []
  g__law_draw : mg "_law_draw" = some (.ref A.f__law_draw)
  F__law_pick : Fun K "_law_pick" "_law_pick" s__law_pick A.f__law_pick A.d__law_pick
  b__law_pick : Binds K A.d__law_pick ["pen", "some"] []
  g__law_pick : mg "_law_pick" = some (.ref A.f__law_pick)
  F__law_ho_heard : Fun K "_law_ho_heard" "_law_ho_heard" s__law_ho_heard A.f__law_ho_heard A.d__law_ho_heard
  b__law_ho_heard : Binds K A.d__law_ho_heard ["ask"] []
  g__law_ho_heard : mg "_law_ho_heard" = some (.ref A.f__law_ho_heard)
  F__law_b_times : Fun K "_law_b_times" "_law_b_times" s__law_b_times A.f__law_b_times A.d__law_b_times
  b__law_b_times : Binds K A.d__law_b_times ["one", "other"] []
  g__law_b_times : mg "_law_b_times" = some (.ref A.f__law_b_times)
  F__law_b_product : Fun K "_law_b_product" "_law_b_product" s__law_b_product A.f__law_b_product A.d__law_b_product
  b__law_b_product : Binds K A.d__law_b_product ["one", "other"] []
  g__law_b_product : mg "_law_b_product" = some (.ref A.f__law_b_product)
  F__law_b_lists : Fun K "_law_b_lists" "_law_b_lists" s__law_b_lists A.f__law_b_lists A.d__law_b_lists
  b__law_b_lists : Binds K A.d__law_b_lists ["value"] []
  g__law_b_lists : mg "_law_b_lists" = some (.ref A.f__law_b_lists)
  F__law_mx : Fun K "_law_mx" "_law_mx" s__law_mx A.f__law_mx A.d__law_mx
  b__law_mx : Binds K A.d__law_mx ["pen", "before", "behind", "many", "wide"] []
  g__law_mx : mg "_law_mx" = some (.ref A.f__law_mx)
  F_law : Fun K "law" "law" s_law A.f_law A.d_law
  b_law : Binds K A.d_law ["script"] []
  g_law : mg "law" = some (.ref A.f_law)
  kb_Matrix_init_210 : KBn K A.d_Matrix_init ["self", "before", "behind", "rows"] 1 ["rows", "behind", "before"] (fun us ws => us ++ pick [2, 1, 0] ws) (fun vs zs => vs ++ pick [2, 1, 0] zs)
  kb_product_10 : KBn K A.d_product ["one", "other"] 0 ["other", "one"] (fun us ws => us ++ pick [1, 0] ws) (fun vs zs => vs ++ pick [1, 0] zs)
  g_Matrix : mg "Matrix" = some (.ref A.c_Matrix)
  cl_Matrix : Cls K A.c_Matrix
  is_Matrix : IsC K A.c_Matrix
  M_Matrix : Mk K A.c_Matrix A.f_Matrix_init
  na_Matrix_before : NoAttr K A.c_Matrix "before"
  na_Matrix_behind : NoAttr K A.c_Matrix "behind"
  na_Matrix_rows : NoAttr K A.c_Matrix "rows"
  q_Matrix : EqC K A.c_Matrix A.f_Matrix_eq
  kc_Matrix_Matrix : PySem.W.kitOne K (.ref A.c_Matrix) (.ref A.c_Matrix) = some true
  kb_Matrix_bool : PySem.W.kitOne K (.ref A.c_Matrix) (.type "bool") = some false
  kb_Matrix_int : PySem.W.kitOne K (.ref A.c_Matrix) (.type "int") = some false
  kb_Matrix_list : PySem.W.kitOne K (.ref A.c_Matrix) (.type "list") = some false
  kb_Matrix_tuple : PySem.W.kitOne K (.ref A.c_Matrix) (.type "tuple") = some false
  nf_Matrix_NoneType : PySem.W.notFirst K A.c_Matrix (.type "NoneType") = true
  nf_Matrix_bool : PySem.W.notFirst K A.c_Matrix (.type "bool") = true
  nf_Matrix_int : PySem.W.notFirst K A.c_Matrix (.type "int") = true
  nf_Matrix_str : PySem.W.notFirst K A.c_Matrix (.type "str") = true
  nf_Matrix_list : PySem.W.notFirst K A.c_Matrix (.type "list") = true
  nf_Matrix_tuple : PySem.W.notFirst K A.c_Matrix (.type "tuple") = true
  nf_Matrix_Matrix : PySem.W.notFirst K A.c_Matrix (.ref A.c_Matrix) = true
  kt_NoneType_Matrix : PySem.W.kitOne K (.type "NoneType") (.ref A.c_Matrix) = some false
  kt_bool_Matrix : PySem.W.kitOne K (.type "bool") (.ref A.c_Matrix) = some false
  kt_int_Matrix : PySem.W.kitOne K (.type "int") (.ref A.c_Matrix) = some false
  kt_str_Matrix : PySem.W.kitOne K (.type "str") (.ref A.c_Matrix) = some false
  kt_list_Matrix : PySem.W.kitOne K (.type "list") (.ref A.c_Matrix) = some false
  kt_tuple_Matrix : PySem.W.kitOne K (.type "tuple") (.ref A.c_Matrix) = some false
  X_BadValue : SupC P K A.c_BadValue A.fx_BadValue A.cd_BadValue A.cc_BadValue
  FX_BadValue : FunS K "__init__" "BadValue.__init__" sx_BadValue A.fx_BadValue A.cd_BadValue A.cc_BadValue A.dx_BadValue
  iC_BadValue : PySem.W.findIn K (.ref A.c_BadValue) "__init__" = some (some (.ref A.fx_BadValue))
  tI_BadValue : PySem.W.typeIn K (.ref A.fx_BadValue) = some (.type "function")
  b_BadValue : Binds K A.dx_BadValue ["self", "part"] []
  g_BadValue : mg "BadValue" = some (.ref A.c_BadValue)
  ix_BadValue : IsX K A.c_BadValue
  xm_BadValue : PySem.W.exmOne K (.ref A.c_BadValue) (.ref A.c_WebError) = some true
  nx_BadValue_part : PySem.W.findIn K (.ref A.c_BadValue) "part" = some none
  kx_BadValue_BadGrowth : PySem.W.kitOne K (.ref A.c_BadValue) (.ref A.c_BadGrowth) = some false
  kx_BadValue_BadLine : PySem.W.kitOne K (.ref A.c_BadValue) (.ref A.c_BadLine) = some false
  kx_BadValue_BadName : PySem.W.kitOne K (.ref A.c_BadValue) (.ref A.c_BadName) = some false
  kx_BadValue_BadNumber : PySem.W.kitOne K (.ref A.c_BadValue) (.ref A.c_BadNumber) = some false
  kx_BadValue_BadPaper : PySem.W.kitOne K (.ref A.c_BadValue) (.ref A.c_BadPaper) = some false
  kx_BadValue_BadPrices : PySem.W.kitOne K (.ref A.c_BadValue) (.ref A.c_BadPrices) = some false
  kx_BadValue_BadText : PySem.W.kitOne K (.ref A.c_BadValue) (.ref A.c_BadText) = some false
  kx_BadValue_BadValue : PySem.W.kitOne K (.ref A.c_BadValue) (.ref A.c_BadValue) = some true
  kx_BadValue_BadWish : PySem.W.kitOne K (.ref A.c_BadValue) (.ref A.c_BadWish) = some false
  kx_BadValue_BadWorld : PySem.W.kitOne K (.ref A.c_BadValue) (.ref A.c_BadWorld) = some false
  kx_BadValue_Misfit : PySem.W.kitOne K (.ref A.c_BadValue) (.ref A.c_Misfit) = some false
  kx_BadValue_NoName : PySem.W.kitOne K (.ref A.c_BadValue) (.ref A.c_NoName) = some false
  kx_BadValue_Nothing : PySem.W.kitOne K (.ref A.c_BadValue) (.ref A.c_Nothing) = some false
  kx_BadValue_TooMany : PySem.W.kitOne K (.ref A.c_BadValue) (.ref A.c_TooMany) = some false
  X_Misfit : SupC P K A.c_Misfit A.fx_Misfit A.cd_Misfit A.cc_Misfit
  FX_Misfit : FunS K "__init__" "Misfit.__init__" sx_Misfit A.fx_Misfit A.cd_Misfit A.cc_Misfit A.dx_Misfit
  iC_Misfit : PySem.W.findIn K (.ref A.c_Misfit) "__init__" = some (some (.ref A.fx_Misfit))
  tI_Misfit : PySem.W.typeIn K (.ref A.fx_Misfit) = some (.type "function")
  b_Misfit : Binds K A.dx_Misfit ["self", "part"] []
  g_Misfit : mg "Misfit" = some (.ref A.c_Misfit)
  ix_Misfit : IsX K A.c_Misfit
  xm_Misfit : PySem.W.exmOne K (.ref A.c_Misfit) (.ref A.c_WebError) = some true
  nx_Misfit_part : PySem.W.findIn K (.ref A.c_Misfit) "part" = some none
  kx_Misfit_BadGrowth : PySem.W.kitOne K (.ref A.c_Misfit) (.ref A.c_BadGrowth) = some false
  kx_Misfit_BadLine : PySem.W.kitOne K (.ref A.c_Misfit) (.ref A.c_BadLine) = some false
  kx_Misfit_BadName : PySem.W.kitOne K (.ref A.c_Misfit) (.ref A.c_BadName) = some false
  kx_Misfit_BadNumber : PySem.W.kitOne K (.ref A.c_Misfit) (.ref A.c_BadNumber) = some false
  kx_Misfit_BadPaper : PySem.W.kitOne K (.ref A.c_Misfit) (.ref A.c_BadPaper) = some false
  kx_Misfit_BadPrices : PySem.W.kitOne K (.ref A.c_Misfit) (.ref A.c_BadPrices) = some false
  kx_Misfit_BadText : PySem.W.kitOne K (.ref A.c_Misfit) (.ref A.c_BadText) = some false
  kx_Misfit_BadValue : PySem.W.kitOne K (.ref A.c_Misfit) (.ref A.c_BadValue) = some false
  kx_Misfit_BadWish : PySem.W.kitOne K (.ref A.c_Misfit) (.ref A.c_BadWish) = some false
  kx_Misfit_BadWorld : PySem.W.kitOne K (.ref A.c_Misfit) (.ref A.c_BadWorld) = some false
  kx_Misfit_Misfit : PySem.W.kitOne K (.ref A.c_Misfit) (.ref A.c_Misfit) = some true
  kx_Misfit_NoName : PySem.W.kitOne K (.ref A.c_Misfit) (.ref A.c_NoName) = some false
  kx_Misfit_Nothing : PySem.W.kitOne K (.ref A.c_Misfit) (.ref A.c_Nothing) = some false
  kx_Misfit_TooMany : PySem.W.kitOne K (.ref A.c_Misfit) (.ref A.c_TooMany) = some false
  X_BadNumber : SupC P K A.c_BadNumber A.fx_BadNumber A.cd_BadNumber A.cc_BadNumber
  FX_BadNumber : FunS K "__init__" "BadNumber.__init__" sx_BadNumber A.fx_BadNumber A.cd_BadNumber A.cc_BadNumber A.dx_BadNumber
  iC_BadNumber : PySem.W.findIn K (.ref A.c_BadNumber) "__init__" = some (some (.ref A.fx_BadNumber))
  tI_BadNumber : PySem.W.typeIn K (.ref A.fx_BadNumber) = some (.type "function")
  b_BadNumber : Binds K A.dx_BadNumber ["self", "part"] []
  g_BadNumber : mg "BadNumber" = some (.ref A.c_BadNumber)
  ix_BadNumber : IsX K A.c_BadNumber
  xm_BadNumber : PySem.W.exmOne K (.ref A.c_BadNumber) (.ref A.c_WebError) = some true
  nx_BadNumber_part : PySem.W.findIn K (.ref A.c_BadNumber) "part" = some none
  kx_BadNumber_BadGrowth : PySem.W.kitOne K (.ref A.c_BadNumber) (.ref A.c_BadGrowth) = some false
  kx_BadNumber_BadLine : PySem.W.kitOne K (.ref A.c_BadNumber) (.ref A.c_BadLine) = some false
  kx_BadNumber_BadName : PySem.W.kitOne K (.ref A.c_BadNumber) (.ref A.c_BadName) = some false
  kx_BadNumber_BadNumber : PySem.W.kitOne K (.ref A.c_BadNumber) (.ref A.c_BadNumber) = some true
  kx_BadNumber_BadPaper : PySem.W.kitOne K (.ref A.c_BadNumber) (.ref A.c_BadPaper) = some false
  kx_BadNumber_BadPrices : PySem.W.kitOne K (.ref A.c_BadNumber) (.ref A.c_BadPrices) = some false
  kx_BadNumber_BadText : PySem.W.kitOne K (.ref A.c_BadNumber) (.ref A.c_BadText) = some false
  kx_BadNumber_BadValue : PySem.W.kitOne K (.ref A.c_BadNumber) (.ref A.c_BadValue) = some false
  kx_BadNumber_BadWish : PySem.W.kitOne K (.ref A.c_BadNumber) (.ref A.c_BadWish) = some false
  kx_BadNumber_BadWorld : PySem.W.kitOne K (.ref A.c_BadNumber) (.ref A.c_BadWorld) = some false
  kx_BadNumber_Misfit : PySem.W.kitOne K (.ref A.c_BadNumber) (.ref A.c_Misfit) = some false
  kx_BadNumber_NoName : PySem.W.kitOne K (.ref A.c_BadNumber) (.ref A.c_NoName) = some false
  kx_BadNumber_Nothing : PySem.W.kitOne K (.ref A.c_BadNumber) (.ref A.c_Nothing) = some false
  kx_BadNumber_TooMany : PySem.W.kitOne K (.ref A.c_BadNumber) (.ref A.c_TooMany) = some false
  g_BadGrowth : mg "BadGrowth" = some (.ref A.c_BadGrowth)
  g_BadLine : mg "BadLine" = some (.ref A.c_BadLine)
  g_BadName : mg "BadName" = some (.ref A.c_BadName)
  g_BadPaper : mg "BadPaper" = some (.ref A.c_BadPaper)
  g_BadPrices : mg "BadPrices" = some (.ref A.c_BadPrices)
  g_BadText : mg "BadText" = some (.ref A.c_BadText)
  g_BadWish : mg "BadWish" = some (.ref A.c_BadWish)
  g_BadWorld : mg "BadWorld" = some (.ref A.c_BadWorld)
  g_NoName : mg "NoName" = some (.ref A.c_NoName)
  g_Nothing : mg "Nothing" = some (.ref A.c_Nothing)
  g_TooMany : mg "TooMany" = some (.ref A.c_TooMany)
  g_WebError : mg "WebError" = some (.ref A.c_WebError)
  k_NONE : mg "NONE" = some (.int 0 A.t_NONE)
  k_NEVER : mg "NEVER" = some (.int 3 A.t_NEVER)
  k_MOST_STATE : mg "MOST_STATE" = some (.int 400 A.t_MOST_STATE)
  z_len : mg "len" = none
  z_abs : mg "abs" = none
  z_max : mg "max" = none
  z_min : mg "min" = none
  z_all : mg "all" = none
  z_any : mg "any" = none
  z_sum : mg "sum" = none
  z_isinstance : mg "isinstance" = none
  z_repr : mg "repr" = none
  z_sorted : mg "sorted" = none
  z_enumerate : mg "enumerate" = none
  z_zip : mg "zip" = none
  z_range : mg "range" = none
  z_int : mg "int" = none
  z_tuple : mg "tuple" = none
  z_list : mg "list" = none
  z_bool : mg "bool" = none
  z_str : mg "str" = none
  z_dict : mg "dict" = none
  z_set : mg "set" = none
  z_super : mg "super" = none
theorem bb_len : bootBuiltins "len" = some (.builtin "len") := by decide +kernel
theorem bb_abs : bootBuiltins "abs" = some (.builtin "abs") := by decide +kernel
theorem bb_max : bootBuiltins "max" = some (.builtin "max") := by decide +kernel
theorem bb_min : bootBuiltins "min" = some (.builtin "min") := by decide +kernel
theorem bb_all : bootBuiltins "all" = some (.builtin "all") := by decide +kernel
theorem bb_any : bootBuiltins "any" = some (.builtin "any") := by decide +kernel
theorem bb_sum : bootBuiltins "sum" = some (.builtin "sum") := by decide +kernel
theorem bb_isinstance : bootBuiltins "isinstance" = some (.builtin "isinstance") := by decide +kernel
theorem bb_repr : bootBuiltins "repr" = some (.builtin "repr") := by decide +kernel
theorem bb_sorted : bootBuiltins "sorted" = some (.builtin "sorted") := by decide +kernel



theorem bb_int : bootBuiltins "int" = some (.type "int") := by decide +kernel
theorem bb_tuple : bootBuiltins "tuple" = some (.type "tuple") := by decide +kernel
theorem bb_list : bootBuiltins "list" = some (.type "list") := by decide +kernel
theorem bb_bool : bootBuiltins "bool" = some (.type "bool") := by decide +kernel
theorem bb_str : bootBuiltins "str" = some (.type "str") := by decide +kernel
theorem bb_dict : bootBuiltins "dict" = some (.type "dict") := by decide +kernel
theorem bb_set : bootBuiltins "set" = some (.type "set") := by decide +kernel
section
variable {P : Program} {w : World} {K : PySem.W.Frag} {mg : Str → Option Value} {base : Heap} {A : Ad} {pn : Option Addr} {TB : List (Addr × Str)}
theorem it_bool (K : PySem.W.Frag) : ∀ p ∈ tt_bool, PySem.W.kitOne K (.type p.1) (.type "bool") = some p.2 := (List.forall_mem_cons.mpr ⟨(kit_ty (by decide +kernel)), (List.forall_mem_cons.mpr ⟨(kit_ty (by decide +kernel)), (List.forall_mem_cons.mpr ⟨(kit_ty (by decide +kernel)), (List.forall_mem_cons.mpr ⟨(kit_ty (by decide +kernel)), (List.forall_mem_cons.mpr ⟨(kit_ty (by decide +kernel)), (List.forall_mem_cons.mpr ⟨(kit_ty (by decide +kernel)), (List.forall_mem_nil _)⟩)⟩)⟩)⟩)⟩)⟩)
theorem io_bool (T : Tx P K mg A) : (∀ p ∈ to_bool A, PySem.W.kitOne K (.ref p.1) (.type "bool") = some p.2) ∧ ∀ p ∈ to_bool A, IsC K p.1 := ⟨(List.forall_mem_cons.mpr ⟨T.kb_Matrix_bool, (List.forall_mem_nil _)⟩), (List.forall_mem_cons.mpr ⟨T.is_Matrix, (List.forall_mem_nil _)⟩)⟩
theorem it_int (K : PySem.W.Frag) : ∀ p ∈ tt_int, PySem.W.kitOne K (.type p.1) (.type "int") = some p.2 := (List.forall_mem_cons.mpr ⟨(kit_ty (by decide +kernel)), (List.forall_mem_cons.mpr ⟨(kit_ty (by decide +kernel)), (List.forall_mem_cons.mpr ⟨(kit_ty (by decide +kernel)), (List.forall_mem_cons.mpr ⟨(kit_ty (by decide +kernel)), (List.forall_mem_cons.mpr ⟨(kit_ty (by decide +kernel)), (List.forall_mem_cons.mpr ⟨(kit_ty (by decide +kernel)), (List.forall_mem_nil _)⟩)⟩)⟩)⟩)⟩)⟩)
theorem io_int (T : Tx P K mg A) : (∀ p ∈ to_int A, PySem.W.kitOne K (.ref p.1) (.type "int") = some p.2) ∧ ∀ p ∈ to_int A, IsC K p.1 := ⟨(List.forall_mem_cons.mpr ⟨T.kb_Matrix_int, (List.forall_mem_nil _)⟩), (List.forall_mem_cons.mpr ⟨T.is_Matrix, (List.forall_mem_nil _)⟩)⟩
theorem it_list_tuple (K : PySem.W.Frag) : ∀ p ∈ tt_list_tuple, PySem.W.kitAny K (.type p.1) [.type "list", .type "tuple"] = some p.2 := (List.forall_mem_cons.mpr ⟨(kitAny_ty (ns := ["list", "tuple"]) (by decide +kernel)), (List.forall_mem_cons.mpr ⟨(kitAny_ty (ns := ["list", "tuple"]) (by decide +kernel)), (List.forall_mem_cons.mpr ⟨(kitAny_ty (ns := ["list", "tuple"]) (by decide +kernel)), (List.forall_mem_cons.mpr ⟨(kitAny_ty (ns := ["list", "tuple"]) (by decide +kernel)), (List.forall_mem_cons.mpr ⟨(kitAny_ty (ns := ["list", "tuple"]) (by decide +kernel)), (List.forall_mem_cons.mpr ⟨(kitAny_ty (ns := ["list", "tuple"]) (by decide +kernel)), (List.forall_mem_nil _)⟩)⟩)⟩)⟩)⟩)⟩)
theorem io_list_tuple (T : Tx P K mg A) : (∀ p ∈ to_list_tuple A, PySem.W.kitAny K (.ref p.1) [.type "list", .type "tuple"] = some p.2) ∧ ∀ p ∈ to_list_tuple A, IsC K p.1 := ⟨(List.forall_mem_cons.mpr ⟨(kitAny_no (List.forall_mem_cons.mpr ⟨T.kb_Matrix_list, (List.forall_mem_cons.mpr ⟨T.kb_Matrix_tuple, (List.forall_mem_nil _)⟩)⟩)), (List.forall_mem_nil _)⟩), (List.forall_mem_cons.mpr ⟨T.is_Matrix, (List.forall_mem_nil _)⟩)⟩
theorem it_Matrix (T : Tx P K mg A) : ∀ p ∈ tt_Matrix, PySem.W.kitOne K (.type p.1) (.ref A.c_Matrix) = some p.2 := (List.forall_mem_cons.mpr ⟨T.kt_NoneType_Matrix, (List.forall_mem_cons.mpr ⟨T.kt_bool_Matrix, (List.forall_mem_cons.mpr ⟨T.kt_int_Matrix, (List.forall_mem_cons.mpr ⟨T.kt_str_Matrix, (List.forall_mem_cons.mpr ⟨T.kt_list_Matrix, (List.forall_mem_cons.mpr ⟨T.kt_tuple_Matrix, (List.forall_mem_nil _)⟩)⟩)⟩)⟩)⟩)⟩)
theorem io_Matrix (T : Tx P K mg A) : (∀ p ∈ to_Matrix A, PySem.W.kitOne K (.ref p.1) (.ref A.c_Matrix) = some p.2) ∧ ∀ p ∈ to_Matrix A, IsC K p.1 := ⟨(List.forall_mem_cons.mpr ⟨T.kc_Matrix_Matrix, (List.forall_mem_nil _)⟩), (List.forall_mem_cons.mpr ⟨T.is_Matrix, (List.forall_mem_nil _)⟩)⟩
theorem ix_BadGrowth (T : Tx P K mg A) : (∀ p ∈ xt_BadGrowth A, PySem.W.kitOne K (.ref p.1) (.ref A.c_BadGrowth) = some p.2) ∧ ∀ p ∈ xt_BadGrowth A, IsX K p.1 := ⟨(List.forall_mem_cons.mpr ⟨T.kx_BadValue_BadGrowth, (List.forall_mem_cons.mpr ⟨T.kx_Misfit_BadGrowth, (List.forall_mem_cons.mpr ⟨T.kx_BadNumber_BadGrowth, (List.forall_mem_nil _)⟩)⟩)⟩), (List.forall_mem_cons.mpr ⟨T.ix_BadValue, (List.forall_mem_cons.mpr ⟨T.ix_Misfit, (List.forall_mem_cons.mpr ⟨T.ix_BadNumber, (List.forall_mem_nil _)⟩)⟩)⟩)⟩
theorem ix_BadLine (T : Tx P K mg A) : (∀ p ∈ xt_BadLine A, PySem.W.kitOne K (.ref p.1) (.ref A.c_BadLine) = some p.2) ∧ ∀ p ∈ xt_BadLine A, IsX K p.1 := ⟨(List.forall_mem_cons.mpr ⟨T.kx_BadValue_BadLine, (List.forall_mem_cons.mpr ⟨T.kx_Misfit_BadLine, (List.forall_mem_cons.mpr ⟨T.kx_BadNumber_BadLine, (List.forall_mem_nil _)⟩)⟩)⟩), (List.forall_mem_cons.mpr ⟨T.ix_BadValue, (List.forall_mem_cons.mpr ⟨T.ix_Misfit, (List.forall_mem_cons.mpr ⟨T.ix_BadNumber, (List.forall_mem_nil _)⟩)⟩)⟩)⟩
theorem ix_BadName (T : Tx P K mg A) : (∀ p ∈ xt_BadName A, PySem.W.kitOne K (.ref p.1) (.ref A.c_BadName) = some p.2) ∧ ∀ p ∈ xt_BadName A, IsX K p.1 := ⟨(List.forall_mem_cons.mpr ⟨T.kx_BadValue_BadName, (List.forall_mem_cons.mpr ⟨T.kx_Misfit_BadName, (List.forall_mem_cons.mpr ⟨T.kx_BadNumber_BadName, (List.forall_mem_nil _)⟩)⟩)⟩), (List.forall_mem_cons.mpr ⟨T.ix_BadValue, (List.forall_mem_cons.mpr ⟨T.ix_Misfit, (List.forall_mem_cons.mpr ⟨T.ix_BadNumber, (List.forall_mem_nil _)⟩)⟩)⟩)⟩
theorem ix_BadNumber (T : Tx P K mg A) : (∀ p ∈ xt_BadNumber A, PySem.W.kitOne K (.ref p.1) (.ref A.c_BadNumber) = some p.2) ∧ ∀ p ∈ xt_BadNumber A, IsX K p.1 := ⟨(List.forall_mem_cons.mpr ⟨T.kx_BadValue_BadNumber, (List.forall_mem_cons.mpr ⟨T.kx_Misfit_BadNumber, (List.forall_mem_cons.mpr ⟨T.kx_BadNumber_BadNumber, (List.forall_mem_nil _)⟩)⟩)⟩), (List.forall_mem_cons.mpr ⟨T.ix_BadValue, (List.forall_mem_cons.mpr ⟨T.ix_Misfit, (List.forall_mem_cons.mpr ⟨T.ix_BadNumber, (List.forall_mem_nil _)⟩)⟩)⟩)⟩
theorem ix_BadPaper (T : Tx P K mg A) : (∀ p ∈ xt_BadPaper A, PySem.W.kitOne K (.ref p.1) (.ref A.c_BadPaper) = some p.2) ∧ ∀ p ∈ xt_BadPaper A, IsX K p.1 := ⟨(List.forall_mem_cons.mpr ⟨T.kx_BadValue_BadPaper, (List.forall_mem_cons.mpr ⟨T.kx_Misfit_BadPaper, (List.forall_mem_cons.mpr ⟨T.kx_BadNumber_BadPaper, (List.forall_mem_nil _)⟩)⟩)⟩), (List.forall_mem_cons.mpr ⟨T.ix_BadValue, (List.forall_mem_cons.mpr ⟨T.ix_Misfit, (List.forall_mem_cons.mpr ⟨T.ix_BadNumber, (List.forall_mem_nil _)⟩)⟩)⟩)⟩
theorem ix_BadPrices (T : Tx P K mg A) : (∀ p ∈ xt_BadPrices A, PySem.W.kitOne K (.ref p.1) (.ref A.c_BadPrices) = some p.2) ∧ ∀ p ∈ xt_BadPrices A, IsX K p.1 := ⟨(List.forall_mem_cons.mpr ⟨T.kx_BadValue_BadPrices, (List.forall_mem_cons.mpr ⟨T.kx_Misfit_BadPrices, (List.forall_mem_cons.mpr ⟨T.kx_BadNumber_BadPrices, (List.forall_mem_nil _)⟩)⟩)⟩), (List.forall_mem_cons.mpr ⟨T.ix_BadValue, (List.forall_mem_cons.mpr ⟨T.ix_Misfit, (List.forall_mem_cons.mpr ⟨T.ix_BadNumber, (List.forall_mem_nil _)⟩)⟩)⟩)⟩
theorem ix_BadText (T : Tx P K mg A) : (∀ p ∈ xt_BadText A, PySem.W.kitOne K (.ref p.1) (.ref A.c_BadText) = some p.2) ∧ ∀ p ∈ xt_BadText A, IsX K p.1 := ⟨(List.forall_mem_cons.mpr ⟨T.kx_BadValue_BadText, (List.forall_mem_cons.mpr ⟨T.kx_Misfit_BadText, (List.forall_mem_cons.mpr ⟨T.kx_BadNumber_BadText, (List.forall_mem_nil _)⟩)⟩)⟩), (List.forall_mem_cons.mpr ⟨T.ix_BadValue, (List.forall_mem_cons.mpr ⟨T.ix_Misfit, (List.forall_mem_cons.mpr ⟨T.ix_BadNumber, (List.forall_mem_nil _)⟩)⟩)⟩)⟩
theorem ix_BadValue (T : Tx P K mg A) : (∀ p ∈ xt_BadValue A, PySem.W.kitOne K (.ref p.1) (.ref A.c_BadValue) = some p.2) ∧ ∀ p ∈ xt_BadValue A, IsX K p.1 := ⟨(List.forall_mem_cons.mpr ⟨T.kx_BadValue_BadValue, (List.forall_mem_cons.mpr ⟨T.kx_Misfit_BadValue, (List.forall_mem_cons.mpr ⟨T.kx_BadNumber_BadValue, (List.forall_mem_nil _)⟩)⟩)⟩), (List.forall_mem_cons.mpr ⟨T.ix_BadValue, (List.forall_mem_cons.mpr ⟨T.ix_Misfit, (List.forall_mem_cons.mpr ⟨T.ix_BadNumber, (List.forall_mem_nil _)⟩)⟩)⟩)⟩
theorem ix_BadWish (T : Tx P K mg A) : (∀ p ∈ xt_BadWish A, PySem.W.kitOne K (.ref p.1) (.ref A.c_BadWish) = some p.2) ∧ ∀ p ∈ xt_BadWish A, IsX K p.1 := ⟨(List.forall_mem_cons.mpr ⟨T.kx_BadValue_BadWish, (List.forall_mem_cons.mpr ⟨T.kx_Misfit_BadWish, (List.forall_mem_cons.mpr ⟨T.kx_BadNumber_BadWish, (List.forall_mem_nil _)⟩)⟩)⟩), (List.forall_mem_cons.mpr ⟨T.ix_BadValue, (List.forall_mem_cons.mpr ⟨T.ix_Misfit, (List.forall_mem_cons.mpr ⟨T.ix_BadNumber, (List.forall_mem_nil _)⟩)⟩)⟩)⟩
theorem ix_BadWorld (T : Tx P K mg A) : (∀ p ∈ xt_BadWorld A, PySem.W.kitOne K (.ref p.1) (.ref A.c_BadWorld) = some p.2) ∧ ∀ p ∈ xt_BadWorld A, IsX K p.1 := ⟨(List.forall_mem_cons.mpr ⟨T.kx_BadValue_BadWorld, (List.forall_mem_cons.mpr ⟨T.kx_Misfit_BadWorld, (List.forall_mem_cons.mpr ⟨T.kx_BadNumber_BadWorld, (List.forall_mem_nil _)⟩)⟩)⟩), (List.forall_mem_cons.mpr ⟨T.ix_BadValue, (List.forall_mem_cons.mpr ⟨T.ix_Misfit, (List.forall_mem_cons.mpr ⟨T.ix_BadNumber, (List.forall_mem_nil _)⟩)⟩)⟩)⟩
theorem ix_Misfit (T : Tx P K mg A) : (∀ p ∈ xt_Misfit A, PySem.W.kitOne K (.ref p.1) (.ref A.c_Misfit) = some p.2) ∧ ∀ p ∈ xt_Misfit A, IsX K p.1 := ⟨(List.forall_mem_cons.mpr ⟨T.kx_BadValue_Misfit, (List.forall_mem_cons.mpr ⟨T.kx_Misfit_Misfit, (List.forall_mem_cons.mpr ⟨T.kx_BadNumber_Misfit, (List.forall_mem_nil _)⟩)⟩)⟩), (List.forall_mem_cons.mpr ⟨T.ix_BadValue, (List.forall_mem_cons.mpr ⟨T.ix_Misfit, (List.forall_mem_cons.mpr ⟨T.ix_BadNumber, (List.forall_mem_nil _)⟩)⟩)⟩)⟩
theorem ix_NoName (T : Tx P K mg A) : (∀ p ∈ xt_NoName A, PySem.W.kitOne K (.ref p.1) (.ref A.c_NoName) = some p.2) ∧ ∀ p ∈ xt_NoName A, IsX K p.1 := ⟨(List.forall_mem_cons.mpr ⟨T.kx_BadValue_NoName, (List.forall_mem_cons.mpr ⟨T.kx_Misfit_NoName, (List.forall_mem_cons.mpr ⟨T.kx_BadNumber_NoName, (List.forall_mem_nil _)⟩)⟩)⟩), (List.forall_mem_cons.mpr ⟨T.ix_BadValue, (List.forall_mem_cons.mpr ⟨T.ix_Misfit, (List.forall_mem_cons.mpr ⟨T.ix_BadNumber, (List.forall_mem_nil _)⟩)⟩)⟩)⟩
theorem ix_Nothing (T : Tx P K mg A) : (∀ p ∈ xt_Nothing A, PySem.W.kitOne K (.ref p.1) (.ref A.c_Nothing) = some p.2) ∧ ∀ p ∈ xt_Nothing A, IsX K p.1 := ⟨(List.forall_mem_cons.mpr ⟨T.kx_BadValue_Nothing, (List.forall_mem_cons.mpr ⟨T.kx_Misfit_Nothing, (List.forall_mem_cons.mpr ⟨T.kx_BadNumber_Nothing, (List.forall_mem_nil _)⟩)⟩)⟩), (List.forall_mem_cons.mpr ⟨T.ix_BadValue, (List.forall_mem_cons.mpr ⟨T.ix_Misfit, (List.forall_mem_cons.mpr ⟨T.ix_BadNumber, (List.forall_mem_nil _)⟩)⟩)⟩)⟩
theorem ix_TooMany (T : Tx P K mg A) : (∀ p ∈ xt_TooMany A, PySem.W.kitOne K (.ref p.1) (.ref A.c_TooMany) = some p.2) ∧ ∀ p ∈ xt_TooMany A, IsX K p.1 := ⟨(List.forall_mem_cons.mpr ⟨T.kx_BadValue_TooMany, (List.forall_mem_cons.mpr ⟨T.kx_Misfit_TooMany, (List.forall_mem_cons.mpr ⟨T.kx_BadNumber_TooMany, (List.forall_mem_nil _)⟩)⟩)⟩), (List.forall_mem_cons.mpr ⟨T.ix_BadValue, (List.forall_mem_cons.mpr ⟨T.ix_Misfit, (List.forall_mem_cons.mpr ⟨T.ix_BadNumber, (List.forall_mem_nil _)⟩)⟩)⟩)⟩
theorem fl_before (T : Tx P K mg A) : ∀ C ∈ fc_before A, Cls K C ∧ NoAttr K C "before" := (List.forall_mem_cons.mpr ⟨⟨T.cl_Matrix, T.na_Matrix_before⟩, (List.forall_mem_nil _)⟩)
theorem fl_behind (T : Tx P K mg A) : ∀ C ∈ fc_behind A, Cls K C ∧ NoAttr K C "behind" := (List.forall_mem_cons.mpr ⟨⟨T.cl_Matrix, T.na_Matrix_behind⟩, (List.forall_mem_nil _)⟩)
theorem fl_rows (T : Tx P K mg A) : ∀ C ∈ fc_rows A, Cls K C ∧ NoAttr K C "rows" := (List.forall_mem_cons.mpr ⟨⟨T.cl_Matrix, T.na_Matrix_rows⟩, (List.forall_mem_nil _)⟩)
theorem xf_at (T : Tx P K mg A) : ∀ C ∈ xc_at A, XfC K C ∧ PySem.W.findIn K (.ref C) "at" = some none := (List.forall_mem_nil _)
theorem xf_line (T : Tx P K mg A) : ∀ C ∈ xc_line A, XfC K C ∧ PySem.W.findIn K (.ref C) "line" = some none := (List.forall_mem_nil _)
theorem xf_most (T : Tx P K mg A) : ∀ C ∈ xc_most A, XfC K C ∧ PySem.W.findIn K (.ref C) "most" = some none := (List.forall_mem_nil _)
theorem xf_name (T : Tx P K mg A) : ∀ C ∈ xc_name A, XfC K C ∧ PySem.W.findIn K (.ref C) "name" = some none := (List.forall_mem_nil _)
theorem xf_part (T : Tx P K mg A) : ∀ C ∈ xc_part A, XfC K C ∧ PySem.W.findIn K (.ref C) "part" = some none := (List.forall_mem_cons.mpr ⟨⟨⟨T.ix_BadValue.hg, T.ix_BadValue.hk, T.ix_BadValue.hs, T.ix_BadValue.hd⟩, T.nx_BadValue_part⟩, (List.forall_mem_cons.mpr ⟨⟨⟨T.ix_Misfit.hg, T.ix_Misfit.hk, T.ix_Misfit.hs, T.ix_Misfit.hd⟩, T.nx_Misfit_part⟩, (List.forall_mem_cons.mpr ⟨⟨⟨T.ix_BadNumber.hg, T.ix_BadNumber.hk, T.ix_BadNumber.hs, T.ix_BadNumber.hd⟩, T.nx_BadNumber_part⟩, (List.forall_mem_nil _)⟩)⟩)⟩)
theorem xf_value (T : Tx P K mg A) : ∀ C ∈ xc_value A, XfC K C ∧ PySem.W.findIn K (.ref C) "value" = some none := (List.forall_mem_nil _)
theorem xf_what (T : Tx P K mg A) : ∀ C ∈ xc_what A, XfC K C ∧ PySem.W.findIn K (.ref C) "what" = some none := (List.forall_mem_nil _)
theorem xf_word (T : Tx P K mg A) : ∀ C ∈ xc_word A, XfC K C ∧ PySem.W.findIn K (.ref C) "word" = some none := (List.forall_mem_nil _)
theorem hCs_ok (T : Tx P K mg A) : ∀ C ∈ hc A, PySem.W.exmOne K (.ref C) (.ref A.c_WebError) = some true := (List.forall_mem_cons.mpr ⟨T.xm_BadValue, (List.forall_mem_cons.mpr ⟨T.xm_Misfit, (List.forall_mem_cons.mpr ⟨T.xm_BadNumber, (List.forall_mem_nil _)⟩)⟩)⟩)
theorem er_Matrix (T : Tx P K mg A) : EqR K A.c_Matrix et_Matrix (ec_Matrix A) := ⟨(List.forall_mem_cons.mpr ⟨T.nf_Matrix_NoneType, (List.forall_mem_cons.mpr ⟨T.nf_Matrix_bool, (List.forall_mem_cons.mpr ⟨T.nf_Matrix_int, (List.forall_mem_cons.mpr ⟨T.nf_Matrix_str, (List.forall_mem_cons.mpr ⟨T.nf_Matrix_list, (List.forall_mem_cons.mpr ⟨T.nf_Matrix_tuple, (List.forall_mem_nil _)⟩)⟩)⟩)⟩)⟩)⟩), (List.forall_mem_cons.mpr ⟨T.nf_Matrix_Matrix, (List.forall_mem_nil _)⟩), (List.forall_mem_cons.mpr ⟨T.is_Matrix, (List.forall_mem_nil _)⟩)⟩
theorem lnK3_210 {xs : List D} (h : xs.length = 3) : xs.length = 3 ∧ (pick [2, 1, 0] xs).length + 1 = 4 := by
  refine ⟨h, ?_⟩
  match xs, h with
  | [_, _, _], _ => rfl
theorem lnF3_210 {xs : List D} (h : xs.length = 3) : xs.length = 3 ∧ (pick [2, 1, 0] xs).length = 3 := ⟨(lnK3_210 h).1, Nat.succ.inj (lnK3_210 h).2⟩
theorem lnK2_10 {xs : List D} (h : xs.length = 2) : xs.length = 2 ∧ (pick [1, 0] xs).length + 1 = 3 := by
  refine ⟨h, ?_⟩
  match xs, h with
  | [_, _], _ => rfl
theorem lnF2_10 {xs : List D} (h : xs.length = 2) : xs.length = 2 ∧ (pick [1, 0] xs).length = 2 := ⟨(lnK2_10 h).1, Nat.succ.inj (lnK2_10 h).2⟩
theorem ok_BadValue (T : Tx P K mg A) : FnOk P w K mg base (L2.CX P w) 1 A.fx_BadValue A.dx_BadValue ["self", "part"] (spX A.c_BadValue 1 (gX1 "part")) := fn_exc1 T.X_BadValue T.FX_BadValue sc_BadValue T.z_super rfl rfl (hno := T.nx_BadValue_part)
theorem ok_Misfit (T : Tx P K mg A) : FnOk P w K mg base (L2.CX P w) 1 A.fx_Misfit A.dx_Misfit ["self", "part"] (spX A.c_Misfit 1 (gX1 "part")) := fn_exc1 T.X_Misfit T.FX_Misfit sc_Misfit T.z_super rfl rfl (hno := T.nx_Misfit_part)
theorem ok_BadNumber (T : Tx P K mg A) : FnOk P w K mg base (L2.CX P w) 1 A.fx_BadNumber A.dx_BadNumber ["self", "part"] (spX A.c_BadNumber 1 (gX1 "part")) := fn_exc1 T.X_BadNumber T.FX_BadNumber sc_BadNumber T.z_super rfl rfl (hno := T.nx_BadNumber_part)
def b_is_integer (A : Ad) : M Fl := (mRet (mAndV (mLft (mVar 0) (isiD tt_int (to_int A))) (mNotV (mLft (mVar 0) (isiD tt_bool (to_bool A))))))
def f_is_integer (A : Ad) : Mf := runF 1 (b_is_integer A)
theorem ok_is_integer (T : Tx P K mg A) : FnOk P w K mg base (L2.CX P w) 1 A.f_is_integer A.d_is_integer ["value"] (spD ⟨K, pn, TB⟩ 1 (f_is_integer A)) :=
  fn_D T.F_is_integer sc_is_integer rfl fun cdv A0 outer s H E bd =>
    (dss_one (ds_ret (de_and bd.c (de_isi bd.c (by rfl) T.z_isinstance bb_isinstance (de_var (pv 0)) (pe_bltn (v := .ty "int") (by rfl) T.z_int bb_int rfl) (.ty _) (it_int K) (io_int T).1 (io_int T).2) (de_one (de_not bd.c (de_isi bd.c (by rfl) T.z_isinstance bb_isinstance (de_var (pv 0)) (pe_bltn (v := .ty "bool") (by rfl) T.z_bool bb_bool rfl) (.ty _) (it_bool K) (io_bool T).1 (io_bool T).2))))))
def b_is_between (A : Ad) : M Fl := (mRet (mAndV (mCall (f_is_integer A) [] (mCons (mVar 0) mNil)) (mChain leD leD (mVar 1) (mVar 0) (mVar 2))))
def f_is_between (A : Ad) : Mf := runF 3 (b_is_between A)
theorem ok_is_between (T : Tx P K mg A) : FnOk P w K mg base (L2.CX P w) 2 A.f_is_between A.d_is_between ["value", "least", "most"] (spD ⟨K, pn, TB⟩ 3 (f_is_between A)) :=
  fn_D T.F_is_between sc_is_between rfl fun cdv A0 outer s H E bd =>
    (dss_one (ds_ret (de_and bd.c (de_call bd.c (ok_is_integer T) (bd.room.mono (by decide)) (by rfl) T.g_is_integer T.F_is_integer.kp T.b_is_integer .nil (fun _ => .nil) (Ln.cons Ln.nil) (da_cons (de_var (pv 0)) da_nil)) (de_one (de_chain (op_leD) (op_leD) (de_var (pv 1)) (de_var (pv 0)) (de_var (pv 2)))))))
def b_is_listed (A : Ad) : M Fl := (mRet (mLft (mVar 0) (isiD tt_list_tuple (to_list_tuple A))))
def f_is_listed (A : Ad) : Mf := runF 1 (b_is_listed A)
theorem ok_is_listed (T : Tx P K mg A) : FnOk P w K mg base (L2.CX P w) 1 A.f_is_listed A.d_is_listed ["value"] (spD ⟨K, pn, TB⟩ 1 (f_is_listed A)) :=
  fn_D T.F_is_listed sc_is_listed rfl fun cdv A0 outer s H E bd =>
    (dss_one (ds_ret (de_isiT bd.c (by rfl) T.z_isinstance bb_isinstance (de_var (pv 0)) (pa_cons (pe_bltn (v := .ty "list") (by rfl) T.z_list bb_list rfl) (pa_cons (pe_bltn (v := .ty "tuple") (by rfl) T.z_tuple bb_tuple rfl) pa_nil)) (.cons (.ty _) (.cons (.ty _) .nil)) (it_list_tuple K) (io_list_tuple T).1 (io_list_tuple T).2 (by decide))))
def b_are_entries (A : Ad) : M Fl := (mSeq (mIf (mOr (mNot (mLft (mCall (f_is_listed A) [] (mCons (mVar 0) mNil)) truD)) (mOr (mLft (mBin eqD (mLft (mCons (mVar 0) mNil) lenD) (ret (.int 0))) asB) (mNot (mLft (mLft (mCons (mLc [1] (mLft (mVar 0) seqD) (setV 1) mYes (mAndV (mCall (f_is_listed A) [] (mCons (mVar 1) mNil)) (mBin gtD (mLft (mCons (mVar 1) mNil) lenD) (ret (.int 0))))) mNil) allD) truD)))) (mRet (ret (.bl false))) mNx)
    (mSeq (mIf (mOr (mLft (mBin gtD (mLft (mCons (mVar 0) mNil) lenD) (ret (.int 400))) asB) (mLft (mBin gtD (mLft (mCons (mBin ixD (mVar 0) (ret (.int 0))) mNil) lenD) (ret (.int 400))) asB)) (mRet (ret (.bl false))) mNx)
    (mRet (mLft (mCons (mLc [1] (mLft (mVar 0) seqD) (setV 1) mYes (mAndV (mBin eqD (mLft (mCons (mVar 1) mNil) lenD) (mLft (mCons (mBin ixD (mVar 0) (ret (.int 0))) mNil) lenD)) (mLft (mCons (mLc [2] (mLft (mVar 1) seqD) (setV 2) mYes (mCall (f_is_between A) [] (mCons (mVar 2) (mCons (ret (.int 0)) (mCons (ret (.int 3)) mNil))))) mNil) allD))) mNil) allD))))
def f_are_entries (A : Ad) : Mf := runF 3 (b_are_entries A)
theorem ok_are_entries (T : Tx P K mg A) : FnOk P w K mg base (L2.CX P w) 3 A.f_are_entries A.d_are_entries ["value"] (spD ⟨K, pn, TB⟩ 1 (f_are_entries A)) :=
  fn_D T.F_are_entries sc_are_entries rfl fun cdv A0 outer s H E bd =>
    (dss_cons (ds_if (dt_w (dw_or (dt_not (dt_truth bd.c (de_call bd.c (ok_is_listed T) (bd.room.mono (by decide)) (by rfl) T.g_is_listed T.F_is_listed.kp T.b_is_listed .nil (fun _ => .nil) (Ln.cons Ln.nil) (da_cons (de_var (pv 0)) da_nil)))) (dw_or (dt_cmp (op_eqDD bd.room.units bd.c.hK) (de_len bd.c (by rfl) T.z_len (da_cons (de_var (pv 0)) da_nil)) de_int) (dw_or1 (dt_not (dt_truth bd.c (de_all bd.c (by rfl) T.z_all bb_all (da_cons (do_e (do_lc (own := [("row", 1)]) bd.c (di_seq bd.c (de_var (pv 0))) (blkOk_by (by first | decide +kernel | rfl)) (fun _ _ _ _ _ c1 => (dg_name c1 (i := 1) rfl (by first | exact .inl rfl | exact .inr rfl))) (fun _ _ _ _ _ c1 => (de_and c1 (de_call c1 (ok_is_listed T) (bd.room.mono (by decide)) (by rfl) T.g_is_listed T.F_is_listed.kp T.b_is_listed .nil (fun _ => .nil) (Ln.cons Ln.nil) (da_cons (de_var (pv 1)) da_nil)) (de_one (de_cmp (op_gtD) (de_len c1 (by rfl) T.z_len (da_cons (de_var (pv 1)) da_nil)) de_int)))))) da_nil)))))))) (dss_one (ds_ret de_bl)) dss_nil)
    (dss_cons (ds_if (dt_w (dw_or (dt_cmp (op_gtD) (de_len bd.c (by rfl) T.z_len (da_cons (de_var (pv 0)) da_nil)) (de_ret (v := .int 400) (pe_glob (by rfl) T.k_MOST_STATE ⟨_, rfl⟩) fun _ => rfl)) (dw_or1 (dt_cmp (op_gtD) (de_len bd.c (by rfl) T.z_len (da_cons (de_ix (de_var (pv 0)) de_int (hK := bd.c.hK)) da_nil)) (de_ret (v := .int 400) (pe_glob (by rfl) T.k_MOST_STATE ⟨_, rfl⟩) fun _ => rfl))))) (dss_one (ds_ret de_bl)) dss_nil)
    (dss_one (ds_ret (de_all bd.c (by rfl) T.z_all bb_all (da_cons (do_e (do_lc (own := [("row", 1)]) bd.c (di_seq bd.c (de_var (pv 0))) (blkOk_by (by first | decide +kernel | rfl)) (fun _ _ _ _ _ c2 => (dg_name c2 (i := 1) rfl (by first | exact .inl rfl | exact .inr rfl))) (fun _ _ _ _ _ c2 => (de_and c2 (de_cmp (op_eqDD bd.room.units c2.hK) (de_len c2 (by rfl) T.z_len (da_cons (de_var (pv 1)) da_nil)) (de_len c2 (by rfl) T.z_len (da_cons (de_ix (de_var (pv 0)) de_int (hK := c2.hK)) da_nil))) (de_one (de_all c2 (by rfl) T.z_all bb_all (da_cons (do_e (do_lc (own := [("one", 2)]) c2 (di_seq c2 (de_var (pv 1))) (blkOk_by (by first | decide +kernel | rfl)) (fun _ _ _ _ _ c3 => (dg_name c3 (i := 2) rfl (by first | exact .inl rfl | exact .inr rfl))) (fun _ _ _ _ _ c3 => (de_call c3 (ok_is_between T) (bd.room.mono (by decide)) (by rfl) T.g_is_between T.F_is_between.kp T.b_is_between .nil (fun _ => .nil) (Ln.cons (Ln.cons (Ln.cons Ln.nil))) (da_cons (de_var (pv 2)) (da_cons (de_ret (v := .int 0) (pe_glob (by rfl) T.k_NONE ⟨_, rfl⟩) fun _ => rfl) (da_cons (de_ret (v := .int 3) (pe_glob (by rfl) T.k_NEVER ⟨_, rfl⟩) fun _ => rfl) da_nil))))))) da_nil))))))) da_nil))))))
def b_Matrix_init (A : Ad) : M Fl := (mSeq (mIf (mNot (mLft (mCall (f_is_between A) [] (mCons (mVar 1) (mCons (ret (.int 0)) (mCons (mBin subD (ret (.int 400)) (ret (.int 1))) mNil)))) truD)) (mRaise A.c_BadNumber ["part"] (mCons (ret (.str "before")) mNil)) mNx)
    (mSeq (mIf (mNot (mLft (mCall (f_is_between A) [] (mCons (mVar 2) (mCons (ret (.int 0)) (mCons (mBin subD (ret (.int 400)) (ret (.int 1))) mNil)))) truD)) (mRaise A.c_BadNumber ["part"] (mCons (ret (.str "behind")) mNil)) mNx)
    (mSeq (mIf (mNot (mLft (mCall (f_are_entries A) [] (mCons (mVar 3) mNil)) truD)) (mRaise A.c_BadValue ["part"] (mCons (ret (.str "rows")) mNil)) mNx)
    (mSeq (mFldS A.c_Matrix 0 "before" (mVar 1))
    (mSeq (mFldS A.c_Matrix 0 "behind" (mVar 2))
    (mFldS A.c_Matrix 0 "rows" (mLft (mCons (mLc [4] (mLft (mVar 3) seqD) (setV 4) mYes (mLft (mCons (mVar 4) mNil) tupD)) mNil) tupD)))))))
def f_Matrix_init (A : Ad) : Mi := runI A.c_Matrix 5 (b_Matrix_init A)
theorem ok_Matrix_init (T : Tx P K mg A) : FnOk P w K mg base (L2.CX P w) 4 A.f_Matrix_init A.d_Matrix_init ["self", "before", "behind", "rows"] (spI ⟨K, pn, TB⟩ A.c_Matrix 4 (f_Matrix_init A)) :=
  fn_I T.F_Matrix_init sc_Matrix_init rfl rfl fun cdv A0 outer s H E bd =>
    (dss_cons (ds_if (dt_not (dt_truth bd.c (de_call bd.c (ok_is_between T) (bd.room.mono (by decide)) (by rfl) T.g_is_between T.F_is_between.kp T.b_is_between .nil (fun _ => .nil) (Ln.cons (Ln.cons (Ln.cons Ln.nil))) (da_cons (de_var (pv 1)) (da_cons de_int (da_cons (de_op (op_subD) (de_ret (v := .int 400) (pe_glob (by rfl) T.k_MOST_STATE ⟨_, rfl⟩) fun _ => rfl) de_int) da_nil)))))) (dss_one (ds_raise bd.c bd.tk T.X_BadNumber.x T.iC_BadNumber T.tI_BadNumber (ok_BadNumber T) (bd.room.mono (by decide)) T.b_BadNumber (by rfl) T.g_BadNumber (by decide) gn1 (da_cons de_str da_nil))) dss_nil)
    (dss_cons (ds_if (dt_not (dt_truth bd.c (de_call bd.c (ok_is_between T) (bd.room.mono (by decide)) (by rfl) T.g_is_between T.F_is_between.kp T.b_is_between .nil (fun _ => .nil) (Ln.cons (Ln.cons (Ln.cons Ln.nil))) (da_cons (de_var (pv 2)) (da_cons de_int (da_cons (de_op (op_subD) (de_ret (v := .int 400) (pe_glob (by rfl) T.k_MOST_STATE ⟨_, rfl⟩) fun _ => rfl) de_int) da_nil)))))) (dss_one (ds_raise bd.c bd.tk T.X_BadNumber.x T.iC_BadNumber T.tI_BadNumber (ok_BadNumber T) (bd.room.mono (by decide)) T.b_BadNumber (by rfl) T.g_BadNumber (by decide) gn1 (da_cons de_str da_nil))) dss_nil)
    (dss_cons (ds_if (dt_not (dt_truth bd.c (de_call bd.c (ok_are_entries T) (bd.room.mono (by decide)) (by rfl) T.g_are_entries T.F_are_entries.kp T.b_are_entries .nil (fun _ => .nil) (Ln.cons Ln.nil) (da_cons (de_var (pv 3)) da_nil)))) (dss_one (ds_raise bd.c bd.tk T.X_BadValue.x T.iC_BadValue T.tI_BadValue (ok_BadValue T) (bd.room.mono (by decide)) T.b_BadValue (by rfl) T.g_BadValue (by decide) gn1 (da_cons de_str da_nil))) dss_nil)
    (dss_cons (ds_fld bd.c T.cl_Matrix T.na_Matrix_before (pv 0) (de_var (pv 1)))
    (dss_cons (ds_fld bd.c T.cl_Matrix T.na_Matrix_behind (pv 0) (de_var (pv 2)))
    (dss_one (ds_fld bd.c T.cl_Matrix T.na_Matrix_rows (pv 0) (de_tuple bd.c (by rfl) T.z_tuple bb_tuple (da_cons (do_e (do_lc (own := [("row", 4)]) bd.c (di_seq bd.c (de_var (pv 3))) (blkOk_by (by first | decide +kernel | rfl)) (fun _ _ _ _ _ c1 => (dg_name c1 (i := 4) rfl (by first | exact .inl rfl | exact .inr rfl))) (fun _ _ _ _ _ c1 => (de_tuple c1 (by rfl) T.z_tuple bb_tuple (da_cons (de_var (pv 4)) da_nil))))) da_nil)))))))))
def b_Matrix_eq (A : Ad) : M Fl := (mSeq (mIf (mNot (mLft (mLft (mVar 1) (isiD tt_Matrix (to_Matrix A))) truD)) (mRet (ret (.bl false))) mNx)
    (mRet (mBin eqD (mLft (mCons (mLft (mVar 0) (fldD (fc_before A) "before")) (mCons (mLft (mVar 0) (fldD (fc_behind A) "behind")) (mCons (mLft (mVar 0) (fldD (fc_rows A) "rows")) mNil))) mkTup) (mLft (mCons (mLft (mVar 1) (fldD (fc_before A) "before")) (mCons (mLft (mVar 1) (fldD (fc_behind A) "behind")) (mCons (mLft (mVar 1) (fldD (fc_rows A) "rows")) mNil))) mkTup))))
def f_Matrix_eq (A : Ad) : Mf := runF 2 (b_Matrix_eq A)
theorem ok_Matrix_eq (T : Tx P K mg A) : FnOk P w K mg base (L2.CX P w) 1 A.f_Matrix_eq A.d_Matrix_eq ["self", "other"] (spD ⟨K, pn, TB⟩ 2 (f_Matrix_eq A)) :=
  fn_D T.F_Matrix_eq sc_Matrix_eq rfl fun cdv A0 outer s H E bd =>
    (dss_cons (ds_if (dt_not (dt_truth bd.c (de_isi bd.c (by rfl) T.z_isinstance bb_isinstance (de_var (pv 1)) (pe_glob (v := .ref A.c_Matrix) (by rfl) T.g_Matrix rfl) (.own _) (it_Matrix T) (io_Matrix T).1 (io_Matrix T).2))) (dss_one (ds_ret de_bl)) dss_nil)
    (dss_one (ds_ret (de_cmp (op_eqDD bd.room.units bd.c.hK) (de_tup (da_cons (de_fld bd.c (fl_before T) (de_var (pv 0))) (da_cons (de_fld bd.c (fl_behind T) (de_var (pv 0))) (da_cons (de_fld bd.c (fl_rows T) (de_var (pv 0))) da_nil)))) (de_tup (da_cons (de_fld bd.c (fl_before T) (de_var (pv 1))) (da_cons (de_fld bd.c (fl_behind T) (de_var (pv 1))) (da_cons (de_fld bd.c (fl_rows T) (de_var (pv 1))) da_nil))))))))
def b_Matrix_told (A : Ad) : M Fl := (mRet (mLft (mCons (mLft (mVar 0) (fldD (fc_before A) "before")) (mCons (mLft (mVar 0) (fldD (fc_behind A) "behind")) (mCons (mLft (mVar 0) (fldD (fc_rows A) "rows")) mNil))) mkTup))
def f_Matrix_told (A : Ad) : Mf := runF 1 (b_Matrix_told A)
theorem ok_Matrix_told (T : Tx P K mg A) : FnOk P w K mg base (L2.CX P w) 1 A.f_Matrix_told A.d_Matrix_told ["self"] (spD ⟨K, pn, TB⟩ 1 (f_Matrix_told A)) :=
  fn_D T.F_Matrix_told sc_Matrix_told rfl fun cdv A0 outer s H E bd =>
    (dss_one (ds_ret (de_tup (da_cons (de_fld bd.c (fl_before T) (de_var (pv 0))) (da_cons (de_fld bd.c (fl_behind T) (de_var (pv 0))) (da_cons (de_fld bd.c (fl_rows T) (de_var (pv 0))) da_nil))))))
def b_times (A : Ad) : M Fl := (mSeq (mSet 2 (mLft (mVar 1) zcolD))
    (mRet (mLft (mCons (mLc [3] (mLft (mVar 0) seqD) (setV 3) mYes (mLft (mCons (mLc [4] (mLft (mVar 2) seqD) (setV 4) mYes (mLft (mCons (mLc [5] (mLft (mCons (mVar 3) (mCons (mVar 4) mNil)) zipND) (setV 5) mYes (mLft (mCons (mVar 5) mNil) maxD)) mNil) minD)) mNil) tupD)) mNil) tupD)))
def f_times (A : Ad) : Mf := runF 6 (b_times A)
theorem ok_times (T : Tx P K mg A) : FnOk P w K mg base (L2.CX P w) 1 A.f_times A.d_times ["one", "other"] (spD ⟨K, pn, TB⟩ 2 (f_times A)) :=
  fn_D T.F_times sc_times rfl fun cdv A0 outer s H E bd =>
    (dss_cons (ds_set bd.c (i := 2) rfl (by first | exact .inl rfl | exact .inr rfl) (do_e (do_listZip bd.c (by rfl) T.z_list bb_list (by rfl) T.z_zip (de_var (pv 1)))))
    (dss_one (ds_ret (de_tuple bd.c (by rfl) T.z_tuple bb_tuple (da_cons (do_e (do_lc (own := [("row", 3)]) bd.c (di_seq bd.c (de_var (pv 0))) (blkOk_by (by first | decide +kernel | rfl)) (fun _ _ _ _ _ c1 => (dg_name c1 (i := 3) rfl (by first | exact .inl rfl | exact .inr rfl))) (fun _ _ _ _ _ c1 => (de_tuple c1 (by rfl) T.z_tuple bb_tuple (da_cons (do_e (do_lc (own := [("column", 4)]) c1 (di_seq c1 (de_var (pv 2))) (blkOk_by (by first | decide +kernel | rfl)) (fun _ _ _ _ _ c2 => (dg_name c2 (i := 4) rfl (by first | exact .inl rfl | exact .inr rfl))) (fun _ _ _ _ _ c2 => (de_min c2 (by rfl) T.z_min bb_min (da_cons (do_e (do_lc (own := [("pair", 5)]) c2 (di_zipN c2 (by rfl) T.z_zip (da_cons (de_var (pv 3)) (da_cons (de_var (pv 4)) da_nil))) (blkOk_by (by first | decide +kernel | rfl)) (fun _ _ _ _ _ c3 => (dg_name c3 (i := 5) rfl (by first | exact .inl rfl | exact .inr rfl))) (fun _ _ _ _ _ c3 => (de_max c3 (by rfl) T.z_max bb_max (da_cons (de_var (pv 5)) da_nil))))) da_nil))))) da_nil))))) da_nil)))))
def b_behind_both (A : Ad) : M Fl := (mRet (mMake A.c_Matrix (f_Matrix_init A) [] (mCons (mLft (mVar 0) (fldD (fc_before A) "before")) (mCons (mLft (mVar 1) (fldD (fc_behind A) "behind")) (mCons (mCall (f_times A) [] (mCons (mLft (mVar 0) (fldD (fc_rows A) "rows")) (mCons (mLft (mVar 1) (fldD (fc_rows A) "rows")) mNil))) mNil)))))
def f_behind_both (A : Ad) : Mf := runF 2 (b_behind_both A)
theorem ok_behind_both (T : Tx P K mg A) : FnOk P w K mg base (L2.CX P w) 6 A.f_behind_both A.d_behind_both ["one", "other"] (spD ⟨K, pn, TB⟩ 2 (f_behind_both A)) :=
  fn_D T.F_behind_both sc_behind_both rfl fun cdv A0 outer s H E bd =>
    (dss_one (ds_ret (de_make bd.c T.M_Matrix (ok_Matrix_init T) (bd.room.mono (by decide)) (by rfl) T.g_Matrix T.b_Matrix_init .nil (fun _ => .nil) (fun _ _ _ h => congrArg (· + 1) ((Ln.cons (Ln.cons (Ln.cons Ln.nil))) _ _ _ h)) (da_cons (de_fld bd.c (fl_before T) (de_var (pv 0))) (da_cons (de_fld bd.c (fl_behind T) (de_var (pv 1))) (da_cons (de_call bd.c (ok_times T) (bd.room.mono (by decide)) (by rfl) T.g_times T.F_times.kp T.b_times .nil (fun _ => .nil) (Ln.cons (Ln.cons Ln.nil)) (da_cons (de_fld bd.c (fl_rows T) (de_var (pv 0))) (da_cons (de_fld bd.c (fl_rows T) (de_var (pv 1))) da_nil))) da_nil))))))
def b_need_matrix (A : Ad) : M Fl := (mIf (mNot (mLft (mLft (mVar 0) (isiD tt_Matrix (to_Matrix A))) truD)) (mRaise A.c_BadValue ["part"] (mCons (mVar 1) mNil)) mNx)
def f_need_matrix (A : Ad) : Mf := runF 2 (b_need_matrix A)
theorem ok_need_matrix (T : Tx P K mg A) : FnOk P w K mg base (L2.CX P w) 3 A.f_need_matrix A.d_need_matrix ["value", "part"] (spD ⟨K, pn, TB⟩ 2 (f_need_matrix A)) :=
  fn_DD T.FD_need_matrix sc_need_matrix rfl fun cdv A0 outer s H E bd =>
    (dss_one (ds_if (dt_not (dt_truth bd.c (de_isi bd.c (by rfl) T.z_isinstance bb_isinstance (de_var (pv 0)) (pe_glob (v := .ref A.c_Matrix) (by rfl) T.g_Matrix rfl) (.own _) (it_Matrix T) (io_Matrix T).1 (io_Matrix T).2))) (dss_one (ds_raise bd.c bd.tk T.X_BadValue.x T.iC_BadValue T.tI_BadValue (ok_BadValue T) (bd.room.mono (by decide)) T.b_BadValue (by rfl) T.g_BadValue (by decide) gn1 (da_cons (de_var (pv 1)) da_nil))) dss_nil))
def b_product (A : Ad) : M Fl := (mSeq (mDrop (mCall (f_need_matrix A) [] (mCons (mVar 0) (mCons (ret (.str "one")) mNil))))
    (mSeq (mDrop (mCall (f_need_matrix A) [] (mCons (mVar 1) (mCons (ret (.str "other")) mNil))))
    (mSeq (mIf (mOr (mLft (mBin neD (mLft (mVar 0) (fldD (fc_behind A) "behind")) (mLft (mVar 1) (fldD (fc_before A) "before"))) asB) (mLft (mBin neD (mLft (mCons (mBin ixD (mLft (mVar 0) (fldD (fc_rows A) "rows")) (ret (.int 0))) mNil) lenD) (mLft (mCons (mLft (mVar 1) (fldD (fc_rows A) "rows")) mNil) lenD)) asB)) (mRaise A.c_Misfit ["part"] (mCons (ret (.str "other")) mNil)) mNx)
    (mRet (mCall (f_behind_both A) [] (mCons (mVar 0) (mCons (mVar 1) mNil)))))))
def f_product (A : Ad) : Mf := runF 2 (b_product A)
theorem ok_product (T : Tx P K mg A) : FnOk P w K mg base (L2.CX P w) 7 A.f_product A.d_product ["one", "other"] (spD ⟨K, pn, TB⟩ 2 (f_product A)) :=
  fn_D T.F_product sc_product rfl fun cdv A0 outer s H E bd =>
    (dss_cons (ds_expr (de_call bd.c (ok_need_matrix T) (bd.room.mono (by decide)) (by rfl) T.g_need_matrix T.FD_need_matrix.kp T.b_need_matrix .nil (fun _ => .nil) (Ln.cons (Ln.cons Ln.nil)) (da_cons (de_var (pv 0)) (da_cons de_str da_nil))))
    (dss_cons (ds_expr (de_call bd.c (ok_need_matrix T) (bd.room.mono (by decide)) (by rfl) T.g_need_matrix T.FD_need_matrix.kp T.b_need_matrix .nil (fun _ => .nil) (Ln.cons (Ln.cons Ln.nil)) (da_cons (de_var (pv 1)) (da_cons de_str da_nil))))
    (dss_cons (ds_if (dt_w (dw_or (dt_cmp (op_neDD bd.room.units bd.c.hK) (de_fld bd.c (fl_behind T) (de_var (pv 0))) (de_fld bd.c (fl_before T) (de_var (pv 1)))) (dw_or1 (dt_cmp (op_neDD bd.room.units bd.c.hK) (de_len bd.c (by rfl) T.z_len (da_cons (de_ix (de_fld bd.c (fl_rows T) (de_var (pv 0))) de_int (hK := bd.c.hK)) da_nil)) (de_len bd.c (by rfl) T.z_len (da_cons (de_fld bd.c (fl_rows T) (de_var (pv 1))) da_nil)))))) (dss_one (ds_raise bd.c bd.tk T.X_Misfit.x T.iC_Misfit T.tI_Misfit (ok_Misfit T) (bd.room.mono (by decide)) T.b_Misfit (by rfl) T.g_Misfit (by decide) gn1 (da_cons de_str da_nil))) dss_nil)
    (dss_one (ds_ret (de_call bd.c (ok_behind_both T) (bd.room.mono (by decide)) (by rfl) T.g_behind_both T.F_behind_both.kp T.b_behind_both .nil (fun _ => .nil) (Ln.cons (Ln.cons Ln.nil)) (da_cons (de_var (pv 0)) (da_cons (de_var (pv 1)) da_nil))))))))
def e__law_pen (A : Ad) : M D := (mLft (mCons (mLc [1] (mLft (mSl (mVar 0) (ret none) (mLft (ret (.int 63)) intO)) seqD) (setV 1) mYes (mLft (mCons (mVar 1) mNil) intD)) (mCons (ret (.int 0)) (mCons (ret (.int 0)) mNil))) mkLst)
theorem ok__law_pen (T : Tx P K mg A) : FnOk P w K mg base (L2.CX P w) 1 A.f__law_pen A.d__law_pen ["script"] (spO ⟨K, pn, TB⟩ 1 fun ds P => (e__law_pen A (z0 2 ds P)).map fun p => (p.1, p.2.P)) :=
  fn_O T.F__law_pen sc__law_pen rfl rfl fun cdv A0 outer s H E bd => (do_lst (da_cons (do_e (do_lc (own := [("cell", 1)]) bd.c (di_seq bd.c (de_slice bd.c (de_var (pv 0)) dpo_none (dpo_some de_int))) (blkOk_by (by first | decide +kernel | rfl)) (fun _ _ _ _ _ c1 => (dg_name c1 (i := 1) rfl (by first | exact .inl rfl | exact .inr rfl))) (fun _ _ _ _ _ c1 => (de_int1 (by rfl) T.z_int bb_int (da_cons (de_var (pv 1)) da_nil))))) (da_cons de_int (da_cons de_int da_nil))))
def b__law_draw (A : Ad) : M Fl := (mSeq (mIf (mLft (mBin gtD (mPen 0 2) (ret (.int 0))) asB) (mSeq (mSet 2 (mLft (mCons (mPen 0 2) mNil) intD))
    (mSeq (mPenS 0 2 (mBin fdivD (mVar 2) (mVar 1)))
    (mRet (mBin modD (mLft (mCons (mVar 2) mNil) intD) (mVar 1))))) mNx)
    (mSeq (mSet 3 (mPen 0 1))
    (mSeq (mPenS 0 1 (mBin addD (mVar 3) (ret (.int 1))))
    (mSeq (mSet 4 (mBin addD (mBin mulD (ret (.int 83641)) (mVar 3)) (ret (.int 27191))))
    (mSeq (mIf (mLft (mBin neD (mPen 0 0) (mLft mNil mkLst)) asB) (mSet 4 (mBin ixD (mPen 0 0) (mBin modD (mLft (mCons (mVar 3) mNil) intD) (mLft (mCons (mPen 0 0) mNil) lenD)))) mNx)
    (mSeq (mIf (mAnd (mLft (mBin ltD (mVar 3) (mLft (mCons (mPen 0 0) mNil) lenD)) asB) (mLft (mBin geD (mLft (mCons (mVar 4) mNil) absD) (mBin powD (ret (.int 10)) (ret (.int 18)))) asB)) (mSeq (mSet 2 (mBin addD (mBin mulD (ret (.int 2)) (mBin subD (mLft (mCons (mVar 4) mNil) absD) (mBin powD (ret (.int 10)) (ret (.int 18))))) (mLft (mCons (mBin ltD (mVar 4) (ret (.int 0))) mNil) intD)))
    (mSeq (mPenS 0 2 (mBin fdivD (mLft (mCons (mVar 2) mNil) intD) (mVar 1)))
    (mRet (mBin modD (mLft (mCons (mVar 2) mNil) intD) (mVar 1))))) mNx)
    (mSeq (mSet 5 (mBin modD (mLft (mCons (mBin powD (mBin addD (mBin addD (mBin modD (mLft (mCons (mVar 4) mNil) intD) (ret (.int 2147483549))) (mBin mulD (ret (.int 83641)) (mVar 3))) (ret (.int 27191))) (ret (.int 5))) mNil) intD) (ret (.int 2147483629))))
    (mSeq (mSet 5 (mBin modD (mLft (mCons (mBin powD (mBin addD (mBin addD (mBin mulD (mVar 5) (mBin addD (mBin mulD (ret (.int 2)) (mVar 3)) (ret (.int 7193)))) (mBin mulD (mBin mulD (ret (.int 44017)) (mVar 3)) (mVar 3))) (ret (.int 83641))) (ret (.int 3))) mNil) intD) (ret (.int 2147483587))))
    (mRet (mBin modD (mLft (mCons (mBin fdivD (mVar 5) (ret (.int 64))) mNil) intD) (mVar 1)))))))))))
def f__law_draw (A : Ad) : Mf := runF 6 (b__law_draw A)
theorem ok__law_draw (T : Tx P K mg A) : FnOk P w K mg base (L2.CX P w) 1 A.f__law_draw A.d__law_draw ["pen", "many"] (spD ⟨K, pn, TB⟩ 2 (f__law_draw A)) :=
  fn_D T.F__law_draw sc__law_draw rfl fun cdv A0 outer s H E bd =>
    (dss_cons (ds_if (dt_cmp (op_gtD) (de_pen (i := 2) (pv 0)) de_int) (dss_cons (ds_set bd.c (i := 2) rfl (by first | exact .inl rfl | exact .inr rfl) (de_int1 (by rfl) T.z_int bb_int (da_cons (de_pen (i := 2) (pv 0)) da_nil)))
    (dss_cons (ds_penS (i := 2) (pv 0) (de_op (op_fdivD) (de_var (pv 2)) (de_var (pv 1))))
    (dss_one (ds_ret (de_op (op_modD) (de_int1 (by rfl) T.z_int bb_int (da_cons (de_var (pv 2)) da_nil)) (de_var (pv 1))))))) dss_nil)
    (dss_cons (ds_set bd.c (i := 3) rfl (by first | exact .inl rfl | exact .inr rfl) (de_pen (i := 1) (pv 0)))
    (dss_cons (ds_penS (i := 1) (pv 0) (de_op (op_addD bd.c.hK) (de_var (pv 3)) de_int))
    (dss_cons (ds_set bd.c (i := 4) rfl (by first | exact .inl rfl | exact .inr rfl) (de_op (op_addD bd.c.hK) (de_op (op_mulD) de_int (de_var (pv 3))) de_int))
    (dss_cons (ds_if (dt_cmp (op_neDD bd.room.units bd.c.hK) (de_pen (i := 0) (pv 0)) (do_e (do_lst da_nil))) (dss_one (ds_set bd.c (i := 4) rfl (by first | exact .inl rfl | exact .inr rfl) (de_ix (de_pen (i := 0) (pv 0)) (de_op (op_modD) (de_int1 (by rfl) T.z_int bb_int (da_cons (de_var (pv 3)) da_nil)) (de_len bd.c (by rfl) T.z_len (da_cons (de_pen (i := 0) (pv 0)) da_nil))) (hK := bd.c.hK)))) dss_nil)
    (dss_cons (ds_if (dt_w (dw_and (dt_cmp (op_ltD) (de_var (pv 3)) (de_len bd.c (by rfl) T.z_len (da_cons (de_pen (i := 0) (pv 0)) da_nil))) (dw_and1 (dt_cmp (op_geD) (de_abs (by rfl) T.z_abs bb_abs (da_cons (de_var (pv 4)) da_nil)) (de_op (op_powD) de_int de_int))))) (dss_cons (ds_set bd.c (i := 2) rfl (by first | exact .inl rfl | exact .inr rfl) (de_op (op_addD bd.c.hK) (de_op (op_mulD) de_int (de_op (op_subD) (de_abs (by rfl) T.z_abs bb_abs (da_cons (de_var (pv 4)) da_nil)) (de_op (op_powD) de_int de_int))) (de_int1 (by rfl) T.z_int bb_int (da_cons (de_cmp (op_ltD) (de_var (pv 4)) de_int) da_nil))))
    (dss_cons (ds_penS (i := 2) (pv 0) (de_op (op_fdivD) (de_int1 (by rfl) T.z_int bb_int (da_cons (de_var (pv 2)) da_nil)) (de_var (pv 1))))
    (dss_one (ds_ret (de_op (op_modD) (de_int1 (by rfl) T.z_int bb_int (da_cons (de_var (pv 2)) da_nil)) (de_var (pv 1))))))) dss_nil)
    (dss_cons (ds_set bd.c (i := 5) rfl (by first | exact .inl rfl | exact .inr rfl) (de_op (op_modD) (de_int1 (by rfl) T.z_int bb_int (da_cons (de_op (op_powD) (de_op (op_addD bd.c.hK) (de_op (op_addD bd.c.hK) (de_op (op_modD) (de_int1 (by rfl) T.z_int bb_int (da_cons (de_var (pv 4)) da_nil)) de_int) (de_op (op_mulD) de_int (de_var (pv 3)))) de_int) de_int) da_nil)) de_int))
    (dss_cons (ds_set bd.c (i := 5) rfl (by first | exact .inl rfl | exact .inr rfl) (de_op (op_modD) (de_int1 (by rfl) T.z_int bb_int (da_cons (de_op (op_powD) (de_op (op_addD bd.c.hK) (de_op (op_addD bd.c.hK) (de_op (op_mulD) (de_var (pv 5)) (de_op (op_addD bd.c.hK) (de_op (op_mulD) de_int (de_var (pv 3))) de_int)) (de_op (op_mulD) (de_op (op_mulD) de_int (de_var (pv 3))) (de_var (pv 3)))) de_int) de_int) da_nil)) de_int))
    (dss_one (ds_ret (de_op (op_modD) (de_int1 (by rfl) T.z_int bb_int (da_cons (de_op (op_fdivD) (de_var (pv 5)) de_int) da_nil)) (de_var (pv 1)))))))))))))
def b__law_pick (A : Ad) : M Fl := (mRet (mBin ixD (mVar 1) (mCall (f__law_draw A) [] (mCons (mVar 0) (mCons (mLft (mCons (mVar 1) mNil) lenD) mNil)))))
def f__law_pick (A : Ad) : Mf := runF 2 (b__law_pick A)
theorem ok__law_pick (T : Tx P K mg A) : FnOk P w K mg base (L2.CX P w) 2 A.f__law_pick A.d__law_pick ["pen", "some"] (spD ⟨K, pn, TB⟩ 2 (f__law_pick A)) :=
  fn_D T.F__law_pick sc__law_pick rfl fun cdv A0 outer s H E bd =>
    (dss_one (ds_ret (de_ix (de_var (pv 1)) (de_call bd.c (ok__law_draw T) (bd.room.mono (by decide)) (by rfl) T.g__law_draw T.F__law_draw.kp T.b__law_draw .nil (fun _ => .nil) (Ln.cons (Ln.cons Ln.nil)) (da_cons (de_var (pv 0)) (da_cons (de_len bd.c (by rfl) T.z_len (da_cons (de_var (pv 1)) da_nil)) da_nil))) (hK := bd.c.hK))))
def h_rest (A : Ad) : M Fl := (mSeq (mIf (mLft (mBin isD (mVar 2) (ret .non)) asB) (mRet (mLft (mCons (mVar 1) mNil) mkLst)) mNx)
    (mSeq (mIf (mLft (mLft (mVar 2) (isiX (xt_TooMany A))) truD) (mRet (mLft (mCons (ret (.str "many")) (mCons (mLft (mVar 2) (fldX (xc_what A) "what")) (mCons (mLft (mVar 2) (fldX (xc_most A) "most")) mNil))) mkTup)) mNx)
    (mSeq (mIf (mLft (mLft (mVar 2) (isiX (xt_BadText A))) truD) (mRet (mLft (mCons (ret (.str "text")) (mCons (mLft (mVar 2) (fldX (xc_line A) "line")) (mCons (mLft (mVar 2) (fldX (xc_word A) "word")) mNil))) mkTup)) mNx)
    (mSeq (mIf (mLft (mLft (mVar 2) (isiX (xt_BadName A))) truD) mNone mNx)
    (mSeq (mIf (mLft (mLft (mVar 2) (isiX (xt_NoName A))) truD) mNone mNx)
    (mSeq (mIf (mLft (mLft (mVar 2) (isiX (xt_Nothing A))) truD) (mRet (mLft (mCons (ret (.str "nothing")) (mCons (mLft (mVar 2) (fldX (xc_what A) "what")) mNil)) mkTup)) mNx)
    (mSeq (mIf (mLft (mLft (mVar 2) (isiX (xt_BadLine A))) truD) (mRet (mLft (mCons (ret (.str "line")) (mCons (mLft (mVar 2) (fldX (xc_word A) "word")) mNil)) mkTup)) mNx)
    (mSeq (mIf (mLft (mLft (mVar 2) (isiX (xt_BadGrowth A))) truD) (mRet (mLft (mCons (ret (.str "growth")) (mCons (mLft (mVar 2) (fldX (xc_at A) "at")) mNil)) mkTup)) mNx)
    (mSeq (mSet 4 (mLft (mCons (mLft (mCons (ret (.str "value")) (mCons (mLft (mVar 2) (isiX (xt_BadValue A))) mNil)) mkTup) (mCons (mLft (mCons (ret (.str "number")) (mCons (mLft (mVar 2) (isiX (xt_BadNumber A))) mNil)) mkTup) (mCons (mLft (mCons (ret (.str "wish")) (mCons (mLft (mVar 2) (isiX (xt_BadWish A))) mNil)) mkTup) (mCons (mLft (mCons (ret (.str "prices")) (mCons (mLft (mVar 2) (isiX (xt_BadPrices A))) mNil)) mkTup) mNil)))) mkLst))
    (mSeq (mSet 4 (mBin addD (mVar 4) (mLft (mCons (mLft (mCons (ret (.str "world")) (mCons (mLft (mVar 2) (isiX (xt_BadWorld A))) mNil)) mkTup) (mCons (mLft (mCons (ret (.str "paper")) (mCons (mLft (mVar 2) (isiX (xt_BadPaper A))) mNil)) mkTup) (mCons (mLft (mCons (ret (.str "misfit")) (mCons (mLft (mVar 2) (isiX (xt_Misfit A))) mNil)) mkTup) mNil))) mkLst)))
    (mSeq (mSet 5 (mLc [6, 7] (mLft (mVar 4) seqD) (setTup 2 (setCons (setV 6) (setCons (setV 7) setNil))) (mLft (mVar 7) truD) (mVar 6)))
    (mRet (mIf (mLft (mBin eqD (mLft (mCons (mVar 5) mNil) lenD) (ret (.int 1))) asB) (mLft (mCons (mBin ixD (mVar 5) (ret (.int 0))) (mCons (mLft (mVar 2) (fldX (xc_part A) "part")) mNil)) mkTup) (mLft (mCons (ret (.str "other")) mNil) mkTup))))))))))))))
theorem ok_h_rest (T : Tx P K mg A) {cdv : Value} {A0 : Around} {outer : List Env} {s : Shared} {H : Hp} {k : Nat} (hk : 1 ≤ k) (bd : Bd (cxOf (L2.CX P w) P w K mg base N__law_ho_heard "_law_ho_heard" (defScope s__law_ho_heard) A.f__law_ho_heard cdv A0 outer s H XF) ⟨K, pn, TB⟩ XF k) :
    DSs (cxOf (L2.CX P w) P w K mg base N__law_ho_heard "_law_ho_heard" (defScope s__law_ho_heard) A.f__law_ho_heard cdv A0 outer s H XF) ⟨K, pn, TB⟩ XF ((defBody s__law_ho_heard).drop 2) (h_rest A) :=
  (dss_cons (ds_if (dt_cmp (op_isD) (de_var (pv 2)) de_non) (dss_one (ds_ret (do_e (do_lst (da_cons (de_var (pv 1)) da_nil))))) dss_nil)
    (dss_cons (ds_if (dt_truth bd.c (de_isiX bd.c (by rfl) T.z_isinstance bb_isinstance (de_var (pv 2)) (pe_glob (v := .ref A.c_TooMany) (by rfl) T.g_TooMany rfl) (.own _) (ix_TooMany T).1 (ix_TooMany T).2)) (dss_one (ds_ret (de_tup (da_cons de_str (da_cons (de_fldX bd.c (xf_what T) (de_var (pv 2))) (da_cons (de_fldX bd.c (xf_most T) (de_var (pv 2))) da_nil)))))) dss_nil)
    (dss_cons (ds_if (dt_truth bd.c (de_isiX bd.c (by rfl) T.z_isinstance bb_isinstance (de_var (pv 2)) (pe_glob (v := .ref A.c_BadText) (by rfl) T.g_BadText rfl) (.own _) (ix_BadText T).1 (ix_BadText T).2)) (dss_one (ds_ret (de_tup (da_cons de_str (da_cons (de_fldX bd.c (xf_line T) (de_var (pv 2))) (da_cons (de_fldX bd.c (xf_word T) (de_var (pv 2))) da_nil)))))) dss_nil)
    (dss_cons (ds_if (dt_truth bd.c (de_isiX bd.c (by rfl) T.z_isinstance bb_isinstance (de_var (pv 2)) (pe_glob (v := .ref A.c_BadName) (by rfl) T.g_BadName rfl) (.own _) (ix_BadName T).1 (ix_BadName T).2)) dss_none dss_nil)
    (dss_cons (ds_if (dt_truth bd.c (de_isiX bd.c (by rfl) T.z_isinstance bb_isinstance (de_var (pv 2)) (pe_glob (v := .ref A.c_NoName) (by rfl) T.g_NoName rfl) (.own _) (ix_NoName T).1 (ix_NoName T).2)) dss_none dss_nil)
    (dss_cons (ds_if (dt_truth bd.c (de_isiX bd.c (by rfl) T.z_isinstance bb_isinstance (de_var (pv 2)) (pe_glob (v := .ref A.c_Nothing) (by rfl) T.g_Nothing rfl) (.own _) (ix_Nothing T).1 (ix_Nothing T).2)) (dss_one (ds_ret (de_tup (da_cons de_str (da_cons (de_fldX bd.c (xf_what T) (de_var (pv 2))) da_nil))))) dss_nil)
    (dss_cons (ds_if (dt_truth bd.c (de_isiX bd.c (by rfl) T.z_isinstance bb_isinstance (de_var (pv 2)) (pe_glob (v := .ref A.c_BadLine) (by rfl) T.g_BadLine rfl) (.own _) (ix_BadLine T).1 (ix_BadLine T).2)) (dss_one (ds_ret (de_tup (da_cons de_str (da_cons (de_fldX bd.c (xf_word T) (de_var (pv 2))) da_nil))))) dss_nil)
    (dss_cons (ds_if (dt_truth bd.c (de_isiX bd.c (by rfl) T.z_isinstance bb_isinstance (de_var (pv 2)) (pe_glob (v := .ref A.c_BadGrowth) (by rfl) T.g_BadGrowth rfl) (.own _) (ix_BadGrowth T).1 (ix_BadGrowth T).2)) (dss_one (ds_ret (de_tup (da_cons de_str (da_cons (de_fldX bd.c (xf_at T) (de_var (pv 2))) da_nil))))) dss_nil)
    (dss_cons (ds_set bd.c (i := 4) rfl (by first | exact .inl rfl | exact .inr rfl) (do_e (do_lst (da_cons (de_tup (da_cons de_str (da_cons (de_isiX bd.c (by rfl) T.z_isinstance bb_isinstance (de_var (pv 2)) (pe_glob (v := .ref A.c_BadValue) (by rfl) T.g_BadValue rfl) (.own _) (ix_BadValue T).1 (ix_BadValue T).2) da_nil))) (da_cons (de_tup (da_cons de_str (da_cons (de_isiX bd.c (by rfl) T.z_isinstance bb_isinstance (de_var (pv 2)) (pe_glob (v := .ref A.c_BadNumber) (by rfl) T.g_BadNumber rfl) (.own _) (ix_BadNumber T).1 (ix_BadNumber T).2) da_nil))) (da_cons (de_tup (da_cons de_str (da_cons (de_isiX bd.c (by rfl) T.z_isinstance bb_isinstance (de_var (pv 2)) (pe_glob (v := .ref A.c_BadWish) (by rfl) T.g_BadWish rfl) (.own _) (ix_BadWish T).1 (ix_BadWish T).2) da_nil))) (da_cons (de_tup (da_cons de_str (da_cons (de_isiX bd.c (by rfl) T.z_isinstance bb_isinstance (de_var (pv 2)) (pe_glob (v := .ref A.c_BadPrices) (by rfl) T.g_BadPrices rfl) (.own _) (ix_BadPrices T).1 (ix_BadPrices T).2) da_nil))) da_nil)))))))
    (dss_cons (ds_set bd.c (i := 4) rfl (by first | exact .inl rfl | exact .inr rfl) (de_op (op_addD bd.c.hK) (de_var (pv 4)) (do_e (do_lst (da_cons (de_tup (da_cons de_str (da_cons (de_isiX bd.c (by rfl) T.z_isinstance bb_isinstance (de_var (pv 2)) (pe_glob (v := .ref A.c_BadWorld) (by rfl) T.g_BadWorld rfl) (.own _) (ix_BadWorld T).1 (ix_BadWorld T).2) da_nil))) (da_cons (de_tup (da_cons de_str (da_cons (de_isiX bd.c (by rfl) T.z_isinstance bb_isinstance (de_var (pv 2)) (pe_glob (v := .ref A.c_BadPaper) (by rfl) T.g_BadPaper rfl) (.own _) (ix_BadPaper T).1 (ix_BadPaper T).2) da_nil))) (da_cons (de_tup (da_cons de_str (da_cons (de_isiX bd.c (by rfl) T.z_isinstance bb_isinstance (de_var (pv 2)) (pe_glob (v := .ref A.c_Misfit) (by rfl) T.g_Misfit rfl) (.own _) (ix_Misfit T).1 (ix_Misfit T).2) da_nil))) da_nil)))))))
    (dss_cons (ds_setLcIf (own := [("word", 6), ("is_one", 7)]) bd.c (i := 5) rfl rfl (sw_true rfl rfl rfl (by decide +kernel)) (di_seq bd.c (de_var (pv 4))) (blkOk_by (by first | decide +kernel | rfl)) (fun _ _ _ _ _ c3 => (dg_tup c3 (dgs_cons (dg_name c3 (i := 6) rfl (by first | exact .inl rfl | exact .inr rfl)) (dgs_cons (dg_name c3 (i := 7) rfl (by first | exact .inl rfl | exact .inr rfl)) (dgs_nil (vs := [])))))) (fun _ _ _ _ _ c3 => (dt_truth c3 (de_var (pv 7)))) (fun _ _ _ _ _ c3 => (de_var (pv 6))))
    (dss_one (ds_ret (de_if (dt_cmp (op_eqDD bd.room.units bd.c.hK) (de_len bd.c (by rfl) T.z_len (da_cons (de_var (pv 5)) da_nil)) de_int) (de_tup (da_cons (de_ix (de_var (pv 5)) de_int (hK := bd.c.hK)) (da_cons (de_fldX bd.c (xf_part T) (de_var (pv 2))) da_nil))) (de_tup (da_cons de_str da_nil))))))))))))))))
def b__law_b_times (A : Ad) : M Fl := (mSeq (mOwn 2 (mLft mNil mkLst))
    (mSeq (mFor (mLft (mVar 0) seqD) (setV 3) (mApp 2 (mLft (mCons (mLc [4] (mLft (mCons (mLft (mCons (mBin ixD (mVar 1) (ret (.int 0))) mNil) lenD) mNil) rng1) (setV 4) mYes (mLft (mCons (mLc [5, 6] (mLft (mCons (mVar 3) mNil) enD) (setTup 2 (setCons (setV 5) (setCons (setV 6) setNil))) mYes (mLft (mCons (mVar 6) (mCons (mBin ixD (mBin ixD (mVar 1) (mVar 5)) (mVar 4)) mNil)) maxD)) mNil) minD)) mNil) tupD)))
    (mRet (mLft (mCons (mVar 2) mNil) tupD))))
def f__law_b_times (A : Ad) : Mf := runF 7 (b__law_b_times A)
theorem ok__law_b_times (T : Tx P K mg A) : FnOk P w K mg base (L2.CX P w) 1 A.f__law_b_times A.d__law_b_times ["one", "other"] (spD ⟨K, pn, TB⟩ 2 (f__law_b_times A)) :=
  fn_D T.F__law_b_times sc__law_b_times rfl fun cdv A0 outer s H E bd =>
    (dss_cons (ds_own bd.c (i := 2) rfl (by first | exact .inl rfl | exact .inr rfl) (do_lst da_nil))
    (dss_cons (ds_for bd.own bd.c (di_seq bd.c (de_var (pv 0))) (dg_name bd.c (i := 3) rfl (by first | exact .inl rfl | exact .inr rfl)) (dss_one (ds_app (pv 2) (da_cons (de_tuple bd.c (by rfl) T.z_tuple bb_tuple (da_cons (do_e (do_lc (own := [("spot", 4)]) bd.c (di_rng1 (by rfl) T.z_range (da_cons (de_len bd.c (by rfl) T.z_len (da_cons (de_ix (de_var (pv 1)) de_int (hK := bd.c.hK)) da_nil)) da_nil)) (blkOk_by (by first | decide +kernel | rfl)) (fun _ _ _ _ _ c1 => (dg_name c1 (i := 4) rfl (by first | exact .inl rfl | exact .inr rfl))) (fun _ _ _ _ _ c1 => (de_min c1 (by rfl) T.z_min bb_min (da_cons (do_e (do_lc (own := [("at", 5), ("entry", 6)]) c1 (di_enum c1 (by rfl) T.z_enumerate (da_cons (de_var (pv 3)) da_nil)) (blkOk_by (by first | decide +kernel | rfl)) (fun _ _ _ _ _ c2 => (dg_tup c2 (dgs_cons (dg_name c2 (i := 5) rfl (by first | exact .inl rfl | exact .inr rfl)) (dgs_cons (dg_name c2 (i := 6) rfl (by first | exact .inl rfl | exact .inr rfl)) (dgs_nil (vs := [])))))) (fun _ _ _ _ _ c2 => (de_max c2 (by rfl) T.z_max bb_max (da_cons (de_var (pv 6)) (da_cons (de_ix (de_ix (de_var (pv 1)) (de_var (pv 5)) (hK := c2.hK)) (de_var (pv 4)) (hK := c2.hK)) da_nil)))))) da_nil))))) da_nil)) da_nil))))
    (dss_one (ds_ret (de_tuple bd.c (by rfl) T.z_tuple bb_tuple (da_cons (de_var (pv 2)) da_nil))))))
def b__law_b_product (A : Ad) : M Fl := (mRet (mLft (mCons (mBin ixD (mVar 0) (ret (.int 0))) (mCons (mBin ixD (mVar 1) (ret (.int 1))) (mCons (mCall (f__law_b_times A) [] (mCons (mBin ixD (mVar 0) (ret (.int 2))) (mCons (mBin ixD (mVar 1) (ret (.int 2))) mNil))) mNil))) mkTup))
def f__law_b_product (A : Ad) : Mf := runF 2 (b__law_b_product A)
theorem ok__law_b_product (T : Tx P K mg A) : FnOk P w K mg base (L2.CX P w) 2 A.f__law_b_product A.d__law_b_product ["one", "other"] (spD ⟨K, pn, TB⟩ 2 (f__law_b_product A)) :=
  fn_D T.F__law_b_product sc__law_b_product rfl fun cdv A0 outer s H E bd =>
    (dss_one (ds_ret (de_tup (da_cons (de_ix (de_var (pv 0)) de_int (hK := bd.c.hK)) (da_cons (de_ix (de_var (pv 1)) de_int (hK := bd.c.hK)) (da_cons (de_call bd.c (ok__law_b_times T) (bd.room.mono (by decide)) (by rfl) T.g__law_b_times T.F__law_b_times.kp T.b__law_b_times .nil (fun _ => .nil) (Ln.cons (Ln.cons Ln.nil)) (da_cons (de_ix (de_var (pv 0)) de_int (hK := bd.c.hK)) (da_cons (de_ix (de_var (pv 1)) de_int (hK := bd.c.hK)) da_nil))) da_nil))))))
def f__law_b_lists (A : Ad) : Nat → Mf
  | 0 => fun _ _ => none
  | fu + 1 => runF 2 (mRet (mIf (mLft (mLft (mVar 0) (isiD tt_list_tuple (to_list_tuple A))) truD) (mLc [1] (mLft (mVar 0) seqD) (setV 1) mYes (mCall (f__law_b_lists A fu) [] (mCons (mVar 1) mNil))) (mVar 0)))
theorem ok__law_b_lists (T : Tx P K mg A) : ∀ fu : Nat, FnOk P w K mg base (L2.CX P w) (fu + 1) A.f__law_b_lists A.d__law_b_lists ["value"] (spD ⟨K, pn, TB⟩ 1 (f__law_b_lists A fu))
  | 0 => ⟨fun vs H Q E h => h.1, fun A0 outer s H args us vs Q E hr e0 hb r h => by obtain ⟨_, _, _, _, _, _, _, _, _, hm, _⟩ := h; cases hm⟩
  | fu + 1 => fn_D (k := fu + 1) T.F__law_b_lists sc__law_b_lists rfl fun cdv A0 outer s H E bd => by
    have ih := ok__law_b_lists T fu
    exact (dss_one (ds_ret (de_if (dt_truth bd.c (de_isiT bd.c (by rfl) T.z_isinstance bb_isinstance (de_var (pv 0)) (pa_cons (pe_bltn (v := .ty "list") (by rfl) T.z_list bb_list rfl) (pa_cons (pe_bltn (v := .ty "tuple") (by rfl) T.z_tuple bb_tuple rfl) pa_nil)) (.cons (.ty _) (.cons (.ty _) .nil)) (it_list_tuple K) (io_list_tuple T).1 (io_list_tuple T).2 (by decide))) (do_e (do_lc (own := [("one", 1)]) bd.c (di_seq bd.c (de_var (pv 0))) (blkOk_by (by first | decide +kernel | rfl)) (fun _ _ _ _ _ c1 => (dg_name c1 (i := 1) rfl (by first | exact .inl rfl | exact .inr rfl))) (fun _ _ _ _ _ c1 => (de_call c1 ih (bd.room.mono (by omega)) (by rfl) T.g__law_b_lists T.F__law_b_lists.kp T.b__law_b_lists .nil (fun _ => .nil) (Ln.cons Ln.nil) (da_cons (de_var (pv 1)) da_nil))))) (de_var (pv 0)))))
def b__law_mx (A : Ad) : M Fl := (mSeq (mSet 5 (mCall (f__law_pick A) [] (mCons (mVar 0) (mCons (mLft (mCons (mLft (mCons (ret (.int 0)) (mCons (ret (.int 1)) (mCons (ret (.int 2)) (mCons (ret (.int 3)) mNil)))) mkLst) (mCons (mLft (mCons (ret (.int 0)) (mCons (ret (.int 1)) (mCons (ret (.int 3)) mNil))) mkLst) (mCons (mLft (mCons (ret (.int 1)) (mCons (ret (.int 3)) (mCons (ret (.int 3)) mNil))) mkLst) (mCons (mLft (mCons (ret (.int 0)) (mCons (ret (.int 3)) mNil)) mkLst) (mCons (mLft (mCons (ret (.int 1)) (mCons (ret (.int 2)) (mCons (ret (.int 3)) mNil))) mkLst) mNil))))) mkLst) mNil))))
    (mRet (mLft (mCons (mVar 1) (mCons (mVar 2) (mCons (mLft (mCons (mLc [6] (mLft (mCons (mVar 3) mNil) rng1) (setV 6) mYes (mLft (mCons (mLc [7] (mLft (mCons (mVar 4) mNil) rng1) (setV 7) mYes (mCall (f__law_pick A) [] (mCons (mVar 0) (mCons (mVar 5) mNil)))) mNil) tupD)) mNil) tupD) mNil))) mkTup)))
def f__law_mx (A : Ad) : Mf := runF 8 (b__law_mx A)
theorem ok__law_mx (T : Tx P K mg A) : FnOk P w K mg base (L2.CX P w) 3 A.f__law_mx A.d__law_mx ["pen", "before", "behind", "many", "wide"] (spD ⟨K, pn, TB⟩ 5 (f__law_mx A)) :=
  fn_D T.F__law_mx sc__law_mx rfl fun cdv A0 outer s H E bd =>
    (dss_cons (ds_set bd.c (i := 5) rfl (by first | exact .inl rfl | exact .inr rfl) (de_call bd.c (ok__law_pick T) (bd.room.mono (by decide)) (by rfl) T.g__law_pick T.F__law_pick.kp T.b__law_pick .nil (fun _ => .nil) (Ln.cons (Ln.cons Ln.nil)) (da_cons (de_var (pv 0)) (da_cons (do_e (do_lst (da_cons (do_e (do_lst (da_cons de_int (da_cons de_int (da_cons de_int (da_cons de_int da_nil)))))) (da_cons (do_e (do_lst (da_cons de_int (da_cons de_int (da_cons de_int da_nil))))) (da_cons (do_e (do_lst (da_cons de_int (da_cons de_int (da_cons de_int da_nil))))) (da_cons (do_e (do_lst (da_cons de_int (da_cons de_int da_nil)))) (da_cons (do_e (do_lst (da_cons de_int (da_cons de_int (da_cons de_int da_nil))))) da_nil))))))) da_nil))))
    (dss_one (ds_ret (de_tup (da_cons (de_var (pv 1)) (da_cons (de_var (pv 2)) (da_cons (de_tuple bd.c (by rfl) T.z_tuple bb_tuple (da_cons (do_e (do_lc (own := [("at", 6)]) bd.c (di_rng1 (by rfl) T.z_range (da_cons (de_var (pv 3)) da_nil)) (blkOk_by (by first | decide +kernel | rfl)) (fun _ _ _ _ _ c1 => (dg_name c1 (i := 6) rfl (by first | exact .inl rfl | exact .inr rfl))) (fun _ _ _ _ _ c1 => (de_tuple c1 (by rfl) T.z_tuple bb_tuple (da_cons (do_e (do_lc (own := [("spot", 7)]) c1 (di_rng1 (by rfl) T.z_range (da_cons (de_var (pv 4)) da_nil)) (blkOk_by (by first | decide +kernel | rfl)) (fun _ _ _ _ _ c2 => (dg_name c2 (i := 7) rfl (by first | exact .inl rfl | exact .inr rfl))) (fun _ _ _ _ _ c2 => (de_call c2 (ok__law_pick T) (bd.room.mono (by decide)) (by rfl) T.g__law_pick T.F__law_pick.kp T.b__law_pick .nil (fun _ => .nil) (Ln.cons (Ln.cons Ln.nil)) (da_cons (de_var (pv 0)) (da_cons (de_var (pv 5)) da_nil)))))) da_nil))))) da_nil)) da_nil)))))))
end
end K25

-- G25h
set_option maxHeartbeats 4000000
namespace K25
open PySem PySem.Spec PyProof.Rows L2 DL

section
variable {P : Program} {w : World} {K : PySem.W.Frag} {mg : Str → Option Value} {base : Heap} {A : Ad} {pn : Option Addr} {TB : List (Addr × Str)}
theorem heard_at {X : Cx} {W : XK} {m : M D} {bd : Bool} {params : Arguments} {body : Expr} {scope : Scope} {p lpos pos : Pos} {c Pt : Addr} {k : Nat} (T : Tx X.prog X.K X.mg A) (hC : Ctx X ⟨X.K, pn, TB⟩ W) (hg : Gl X "_law_ho_heard") (hTB : LamX.TabB X.base X.mg c Pt) (hcode : X.env.code = .ref c)
    (hmT : (Pt, X.env.qual ++ "<lambda>") ∈ TB) (hu : ∀ p ∈ TB, p.1 = Pt → p.2 = X.env.qual ++ "<lambda>") (hr : Room (k + 2) X.A) (L : LamT X.N X.env.scope scope) (hdef : DfT bd params X.env) (hbind : DlBind bd (X.env.qual ++ "<lambda>") params body scope)
    (hbody : ∀ (A : Around) (outer : List Env) (s : Shared) (H : Hp) (E : XK) (f c' : Addr), Room k (A.deeper (LamX.lamEnv X scope s.heap.objs.size f c')) → Ctx (LamX.lamCx X A outer s H E scope f c') ⟨X.K, pn, TB⟩ E → DE (LamX.lamCx X A outer s H E scope f c') ⟨X.K, pn, TB⟩ E body m) :
    DE X ⟨X.K, pn, TB⟩ W (.Call (.Name "_law_ho_heard" p) [.Lambda params body scope lpos] [] pos) (mHeard (hc A) N__law_ho_heard.length (h_rest A) m) := by
  obtain ⟨oc, od, kV, doc, pm, an, cdv, ct, osl, e, lk, hcd⟩ := T.F__law_ho_heard.ex
  have hb := T.b__law_ho_heard
  rw [e] at hb lk
  refine de_heard (x := "_law_ho_heard") (a := "ask") (fdn := "found") (cgn := "caught") (en := "error") (x0 := "WebError") (rest := (defBody s__law_ho_heard).drop 2) hC hg T.g__law_ho_heard T.F__law_ho_heard.kp lk hcd hb sc__law_ho_heard rfl rfl rfl rfl rfl (.inl rfl) rfl rfl rfl rfl T.g_WebError (by decide) (by decide) (by decide) (by decide) (by decide)
    (fun env h => ?s1) (fun env h => ?s2) (fun env h => ?s3) (fun env h => ?s4) (hCs_ok T) (fun cdv A0 outer s H bd => ok_h_rest T (Nat.succ_le_succ (Nat.zero_le _)) bd) hTB hcode hmT hu hr L hdef hbind hbody
  case s1 => cases env; cases h; rfl
  case s2 => cases env; cases h; rfl
  case s3 => cases env; cases h; rfl
  case s4 => cases env; cases h; rfl
end
end K25

-- G25b
set_option maxHeartbeats 4000000
namespace K25
open PySem PySem.Spec PyProof.Rows L2 DL

section
variable {P : Program} {w : World} {K : PySem.W.Frag} {mg : Str → Option Value} {base : Heap} {A : Ad} {pn : Option Addr} {TB : List (Addr × Str)}
def forBody : Stmt → List Stmt
  | .For _ _ b _ _ => b
  | _ => []
def m_law_1_0 (A : Ad) : M Fl := (mAsg (setTup 2 (setCons (setV 3) (setCons (setV 4) setNil))) (mLft (mCons (mLc [11] (mLft (mCons (ret (.int 4)) mNil) rng1) (setV 11) mYes (mBin addD (ret (.int 1)) (mCall (f__law_draw A) [] (mCons (mVar 1) (mCons (ret (.int 5)) mNil))))) (mCons (mLc [11] (mLft (mCons (ret (.int 4)) mNil) rng1) (setV 11) mYes (mCall (f__law_pick A) [] (mCons (mVar 1) (mCons (mLft (mCons (ret (.int 0)) (mCons (ret (.int 1)) (mCons (ret (.int 7)) (mCons (ret (.int 399)) mNil)))) mkLst) mNil)))) mNil)) mkTup))
theorem ds_law_1_0 (T : Tx P K mg A) {a cl Pt : Addr} {A0 : Around} {outer : List Env} {s : Shared} {H : Hp} {E : XK} (hTB : LamX.TabB base mg cl Pt) (hmT : (Pt, (cxOf (L2.CX P w) P w K mg base N_law "law" (defScope s_law) A.f_law (.ref cl) A0 outer s H E).env.qual ++ ("<lambda>" : Str)) ∈ TB) (huT : ∀ p ∈ TB, p.1 = Pt → p.2 = (cxOf (L2.CX P w) P w K mg base N_law "law" (defScope s_law) A.f_law (.ref cl) A0 outer s H E).env.qual ++ ("<lambda>" : Str))
    (bd : Bd (cxOf (L2.CX P w) P w K mg base N_law "law" (defScope s_law) A.f_law (.ref cl) A0 outer s H E) ⟨K, some a, TB⟩ E 20) : DS (cxOf (L2.CX P w) P w K mg base N_law "law" (defScope s_law) A.f_law (.ref cl) A0 outer s H E) ⟨K, some a, TB⟩ E ((forBody ((defBody s_law).getD 1 (.Pass ⟨0, 0, 0, 0⟩))).getD 0 (.Pass ⟨0, 0, 0, 0⟩)) (m_law_1_0 A) :=
  (ds_asg (de_tup (da_cons (do_e (do_lc (own := [("at", 11)]) bd.c (di_rng1 (by rfl) T.z_range (da_cons de_int da_nil)) (blkOk_by (by first | decide +kernel | rfl)) (fun _ _ _ _ _ c2 => (dg_name c2 (i := 11) rfl (by first | exact .inl rfl | exact .inr rfl))) (fun _ _ _ _ _ c2 => (de_op (op_addD c2.hK) de_int (de_call c2 (ok__law_draw T) (bd.room.mono (by decide)) (by rfl) T.g__law_draw T.F__law_draw.kp T.b__law_draw .nil (fun _ => .nil) (Ln.cons (Ln.cons Ln.nil)) (da_cons (de_var (pv 1)) (da_cons de_int da_nil))))))) (da_cons (do_e (do_lc (own := [("at", 11)]) bd.c (di_rng1 (by rfl) T.z_range (da_cons de_int da_nil)) (blkOk_by (by first | decide +kernel | rfl)) (fun _ _ _ _ _ c1 => (dg_name c1 (i := 11) rfl (by first | exact .inl rfl | exact .inr rfl))) (fun _ _ _ _ _ c1 => (de_call c1 (ok__law_pick T) (bd.room.mono (by decide)) (by rfl) T.g__law_pick T.F__law_pick.kp T.b__law_pick .nil (fun _ => .nil) (Ln.cons (Ln.cons Ln.nil)) (da_cons (de_var (pv 1)) (da_cons (do_e (do_lst (da_cons de_int (da_cons de_int (da_cons de_int (da_cons de_int da_nil)))))) da_nil)))))) da_nil))) (dg_tup bd.c (dgs_cons (dg_name bd.c (i := 3) rfl (by first | exact .inl rfl | exact .inr rfl)) (dgs_cons (dg_name bd.c (i := 4) rfl (by first | exact .inl rfl | exact .inr rfl)) (dgs_nil (vs := []))))))
def m_law_1_1 (A : Ad) : M Fl := (mSet 5 (mLc [11] (mLft (mCons (ret (.int 3)) mNil) rng1) (setV 11) mYes (mCall (f__law_mx A) [] (mCons (mVar 1) (mCons (mBin ixD (mVar 4) (mVar 11)) (mCons (mBin ixD (mVar 4) (mBin addD (mVar 11) (ret (.int 1)))) (mCons (mBin ixD (mVar 3) (mVar 11)) (mCons (mBin ixD (mVar 3) (mBin addD (mVar 11) (ret (.int 1)))) mNil))))))))
theorem ds_law_1_1 (T : Tx P K mg A) {a cl Pt : Addr} {A0 : Around} {outer : List Env} {s : Shared} {H : Hp} {E : XK} (hTB : LamX.TabB base mg cl Pt) (hmT : (Pt, (cxOf (L2.CX P w) P w K mg base N_law "law" (defScope s_law) A.f_law (.ref cl) A0 outer s H E).env.qual ++ ("<lambda>" : Str)) ∈ TB) (huT : ∀ p ∈ TB, p.1 = Pt → p.2 = (cxOf (L2.CX P w) P w K mg base N_law "law" (defScope s_law) A.f_law (.ref cl) A0 outer s H E).env.qual ++ ("<lambda>" : Str))
    (bd : Bd (cxOf (L2.CX P w) P w K mg base N_law "law" (defScope s_law) A.f_law (.ref cl) A0 outer s H E) ⟨K, some a, TB⟩ E 20) : DS (cxOf (L2.CX P w) P w K mg base N_law "law" (defScope s_law) A.f_law (.ref cl) A0 outer s H E) ⟨K, some a, TB⟩ E ((forBody ((defBody s_law).getD 1 (.Pass ⟨0, 0, 0, 0⟩))).getD 1 (.Pass ⟨0, 0, 0, 0⟩)) (m_law_1_1 A) :=
  (ds_setLc (own := [("at", 11)]) bd.c (i := 5) rfl rfl (sw_true rfl rfl rfl (by decide +kernel)) (di_rng1 (by rfl) T.z_range (da_cons de_int da_nil)) (blkOk_by (by first | decide +kernel | rfl)) (fun _ _ _ _ _ c5 => (dg_name c5 (i := 11) rfl (by first | exact .inl rfl | exact .inr rfl))) (fun _ _ _ _ _ c5 => (de_call c5 (ok__law_mx T) (bd.room.mono (by decide)) (by rfl) T.g__law_mx T.F__law_mx.kp T.b__law_mx .nil (fun _ => .nil) (Ln.cons (Ln.cons (Ln.cons (Ln.cons (Ln.cons Ln.nil))))) (da_cons (de_var (pv 1)) (da_cons (de_ix (de_var (pv 4)) (de_var (pv 11)) (hK := c5.hK)) (da_cons (de_ix (de_var (pv 4)) (de_op (op_addD c5.hK) (de_var (pv 11)) de_int) (hK := c5.hK)) (da_cons (de_ix (de_var (pv 3)) (de_var (pv 11)) (hK := c5.hK)) (da_cons (de_ix (de_var (pv 3)) (de_op (op_addD c5.hK) (de_var (pv 11)) de_int) (hK := c5.hK)) da_nil))))))))
def m_law_1_2 (A : Ad) : M Fl := (mSet 6 (mLc [12] (mLft (mVar 5) seqD) (setV 12) mYes (mMake A.c_Matrix (f_Matrix_init A) [] (mCons (mBin ixD (mVar 12) (ret (.int 0))) (mCons (mBin ixD (mVar 12) (ret (.int 1))) (mCons (mCall (f__law_pick A) [] (mCons (mVar 1) (mCons (mLft (mCons (mBin ixD (mVar 12) (ret (.int 2))) (mCons (mCall (f__law_b_lists A 4) [] (mCons (mBin ixD (mVar 12) (ret (.int 2))) mNil)) mNil)) mkLst) mNil))) mNil))))))
theorem ds_law_1_2 (T : Tx P K mg A) {a cl Pt : Addr} {A0 : Around} {outer : List Env} {s : Shared} {H : Hp} {E : XK} (hTB : LamX.TabB base mg cl Pt) (hmT : (Pt, (cxOf (L2.CX P w) P w K mg base N_law "law" (defScope s_law) A.f_law (.ref cl) A0 outer s H E).env.qual ++ ("<lambda>" : Str)) ∈ TB) (huT : ∀ p ∈ TB, p.1 = Pt → p.2 = (cxOf (L2.CX P w) P w K mg base N_law "law" (defScope s_law) A.f_law (.ref cl) A0 outer s H E).env.qual ++ ("<lambda>" : Str))
    (bd : Bd (cxOf (L2.CX P w) P w K mg base N_law "law" (defScope s_law) A.f_law (.ref cl) A0 outer s H E) ⟨K, some a, TB⟩ E 20) : DS (cxOf (L2.CX P w) P w K mg base N_law "law" (defScope s_law) A.f_law (.ref cl) A0 outer s H E) ⟨K, some a, TB⟩ E ((forBody ((defBody s_law).getD 1 (.Pass ⟨0, 0, 0, 0⟩))).getD 2 (.Pass ⟨0, 0, 0, 0⟩)) (m_law_1_2 A) :=
  (ds_set bd.c (i := 6) rfl (by first | exact .inl rfl | exact .inr rfl) (do_e (do_lc (own := [("one", 12)]) bd.c (di_seq bd.c (de_var (pv 5))) (blkOk_by (by first | decide +kernel | rfl)) (fun _ _ _ _ _ c7 => (dg_name c7 (i := 12) rfl (by first | exact .inl rfl | exact .inr rfl))) (fun _ _ _ _ _ c7 => (de_make c7 T.M_Matrix (ok_Matrix_init T) (bd.room.mono (by decide)) (by rfl) T.g_Matrix T.b_Matrix_init .nil (fun _ => .nil) (fun _ _ _ h => congrArg (· + 1) ((Ln.cons (Ln.cons (Ln.cons Ln.nil))) _ _ _ h)) (da_cons (de_ix (de_var (pv 12)) de_int (hK := c7.hK)) (da_cons (de_ix (de_var (pv 12)) de_int (hK := c7.hK)) (da_cons (de_call c7 (ok__law_pick T) (bd.room.mono (by decide)) (by rfl) T.g__law_pick T.F__law_pick.kp T.b__law_pick .nil (fun _ => .nil) (Ln.cons (Ln.cons Ln.nil)) (da_cons (de_var (pv 1)) (da_cons (do_e (do_lst (da_cons (de_ix (de_var (pv 12)) de_int (hK := c7.hK)) (da_cons (de_call c7 (ok__law_b_lists T 4) (bd.room.mono (by decide)) (by rfl) T.g__law_b_lists T.F__law_b_lists.kp T.b__law_b_lists .nil (fun _ => .nil) (Ln.cons Ln.nil) (da_cons (de_ix (de_var (pv 12)) de_int (hK := c7.hK)) da_nil)) da_nil)))) da_nil))) da_nil))))))))
def m_law_1_3 (A : Ad) : M Fl := (mIf (mOr (mLft (mBin neD (mLc [12] (mLft (mVar 6) seqD) (setV 12) mYes (mMeth A.c_Matrix "told" (f_Matrix_told A) [] (mVar 12) mNil)) (mVar 5)) asB) (mOr (mLft (mBin neD (mLc [12] (mLft (mVar 6) seqD) (setV 12) mYes (mLft (mCons (mLft (mVar 12) (fldD (fc_before A) "before")) (mCons (mLft (mVar 12) (fldD (fc_behind A) "behind")) (mCons (mLft (mVar 12) (fldD (fc_rows A) "rows")) mNil))) mkTup)) (mVar 5)) asB) (mLft (mEqO A.c_Matrix et_Matrix (ec_Matrix A) (f_Matrix_eq A) true (mMakeK [2, 1, 0] A.c_Matrix (f_Matrix_init A) (mCons (mBin ixD (mBin ixD (mVar 5) (ret (.int 0))) (ret (.int 2))) (mCons (mBin ixD (mBin ixD (mVar 5) (ret (.int 0))) (ret (.int 1))) (mCons (mBin ixD (mBin ixD (mVar 5) (ret (.int 0))) (ret (.int 0))) mNil)))) (mBin ixD (mVar 6) (ret (.int 0)))) asB))) (mRet (ret (.bl false))) mNx)
theorem ds_law_1_3 (T : Tx P K mg A) {a cl Pt : Addr} {A0 : Around} {outer : List Env} {s : Shared} {H : Hp} {E : XK} (hTB : LamX.TabB base mg cl Pt) (hmT : (Pt, (cxOf (L2.CX P w) P w K mg base N_law "law" (defScope s_law) A.f_law (.ref cl) A0 outer s H E).env.qual ++ ("<lambda>" : Str)) ∈ TB) (huT : ∀ p ∈ TB, p.1 = Pt → p.2 = (cxOf (L2.CX P w) P w K mg base N_law "law" (defScope s_law) A.f_law (.ref cl) A0 outer s H E).env.qual ++ ("<lambda>" : Str))
    (bd : Bd (cxOf (L2.CX P w) P w K mg base N_law "law" (defScope s_law) A.f_law (.ref cl) A0 outer s H E) ⟨K, some a, TB⟩ E 20) : DS (cxOf (L2.CX P w) P w K mg base N_law "law" (defScope s_law) A.f_law (.ref cl) A0 outer s H E) ⟨K, some a, TB⟩ E ((forBody ((defBody s_law).getD 1 (.Pass ⟨0, 0, 0, 0⟩))).getD 3 (.Pass ⟨0, 0, 0, 0⟩)) (m_law_1_3 A) :=
  (ds_if (dt_w (dw_or (dt_cmp (op_neDD bd.room.units bd.c.hK) (do_e (do_lc (own := [("one", 12)]) bd.c (di_seq bd.c (de_var (pv 6))) (blkOk_by (by first | decide +kernel | rfl)) (fun _ _ _ _ _ c8 => (dg_name c8 (i := 12) rfl (by first | exact .inl rfl | exact .inr rfl))) (fun _ _ _ _ _ c8 => (de_meth0 c8 (de_var (pv 12)) T.cl_Matrix T.m_Matrix_told (ok_Matrix_told T) (bd.room.mono (by decide)) T.b_Matrix_told .nil (fun _ => .nil) rfl)))) (de_var (pv 5))) (dw_or (dt_cmp (op_neDD bd.room.units bd.c.hK) (do_e (do_lc (own := [("one", 12)]) bd.c (di_seq bd.c (de_var (pv 6))) (blkOk_by (by first | decide +kernel | rfl)) (fun _ _ _ _ _ c9 => (dg_name c9 (i := 12) rfl (by first | exact .inl rfl | exact .inr rfl))) (fun _ _ _ _ _ c9 => (de_tup (da_cons (de_fld c9 (fl_before T) (de_var (pv 12))) (da_cons (de_fld c9 (fl_behind T) (de_var (pv 12))) (da_cons (de_fld c9 (fl_rows T) (de_var (pv 12))) da_nil))))))) (de_var (pv 5))) (dw_or1 (dt_neO bd.c T.q_Matrix (er_Matrix T) (ok_Matrix_eq T) (bd.room.mono (by decide)) T.b_Matrix_eq (de_makeK bd.c T.M_Matrix (ok_Matrix_init T) (bd.room.mono (by decide)) (by rfl) T.g_Matrix T.kb_Matrix_init_210 (fun _ _ _ h => lnK3_210 ((Ln.cons (Ln.cons (Ln.cons Ln.nil))) _ _ _ h)) (dk_cons (de_ix (de_ix (de_var (pv 5)) de_int (hK := bd.c.hK)) de_int (hK := bd.c.hK)) (dk_cons (de_ix (de_ix (de_var (pv 5)) de_int (hK := bd.c.hK)) de_int (hK := bd.c.hK)) (dk_cons (de_ix (de_ix (de_var (pv 5)) de_int (hK := bd.c.hK)) de_int (hK := bd.c.hK)) dk_nil)))) (de_ix (de_var (pv 6)) de_int (hK := bd.c.hK))))))) (dss_one (ds_ret de_bl)) dss_nil)
def m_law_1_4 (A : Ad) : M Fl := (mSet 7 (mCall (f__law_b_product A) [] (mCons (mBin ixD (mVar 5) (ret (.int 0))) (mCons (mBin ixD (mVar 5) (ret (.int 1))) mNil))))
theorem ds_law_1_4 (T : Tx P K mg A) {a cl Pt : Addr} {A0 : Around} {outer : List Env} {s : Shared} {H : Hp} {E : XK} (hTB : LamX.TabB base mg cl Pt) (hmT : (Pt, (cxOf (L2.CX P w) P w K mg base N_law "law" (defScope s_law) A.f_law (.ref cl) A0 outer s H E).env.qual ++ ("<lambda>" : Str)) ∈ TB) (huT : ∀ p ∈ TB, p.1 = Pt → p.2 = (cxOf (L2.CX P w) P w K mg base N_law "law" (defScope s_law) A.f_law (.ref cl) A0 outer s H E).env.qual ++ ("<lambda>" : Str))
    (bd : Bd (cxOf (L2.CX P w) P w K mg base N_law "law" (defScope s_law) A.f_law (.ref cl) A0 outer s H E) ⟨K, some a, TB⟩ E 20) : DS (cxOf (L2.CX P w) P w K mg base N_law "law" (defScope s_law) A.f_law (.ref cl) A0 outer s H E) ⟨K, some a, TB⟩ E ((forBody ((defBody s_law).getD 1 (.Pass ⟨0, 0, 0, 0⟩))).getD 4 (.Pass ⟨0, 0, 0, 0⟩)) (m_law_1_4 A) :=
  (ds_set bd.c (i := 7) rfl (by first | exact .inl rfl | exact .inr rfl) (de_call bd.c (ok__law_b_product T) (bd.room.mono (by decide)) (by rfl) T.g__law_b_product T.F__law_b_product.kp T.b__law_b_product .nil (fun _ => .nil) (Ln.cons (Ln.cons Ln.nil)) (da_cons (de_ix (de_var (pv 5)) de_int (hK := bd.c.hK)) (da_cons (de_ix (de_var (pv 5)) de_int (hK := bd.c.hK)) da_nil))))
def m_law_1_5 (A : Ad) : M Fl := (mIf (mOr (mLft (mBin neD (mMeth A.c_Matrix "told" (f_Matrix_told A) [] (mCall (f_product A) [] (mCons (mBin ixD (mVar 6) (ret (.int 0))) (mCons (mBin ixD (mVar 6) (ret (.int 1))) mNil))) mNil) (mVar 7)) asB) (mLft (mEqO A.c_Matrix et_Matrix (ec_Matrix A) (f_Matrix_eq A) true (mCallK [1, 0] (f_product A) (mCons (mBin ixD (mVar 6) (ret (.int 1))) (mCons (mBin ixD (mVar 6) (ret (.int 0))) mNil))) (mMake A.c_Matrix (f_Matrix_init A) [] (mCons (mBin ixD (mVar 7) (ret (.int 0))) (mCons (mBin ixD (mVar 7) (ret (.int 1))) (mCons (mBin ixD (mVar 7) (ret (.int 2))) mNil))))) asB)) (mRet (ret (.bl false))) mNx)
theorem ds_law_1_5 (T : Tx P K mg A) {a cl Pt : Addr} {A0 : Around} {outer : List Env} {s : Shared} {H : Hp} {E : XK} (hTB : LamX.TabB base mg cl Pt) (hmT : (Pt, (cxOf (L2.CX P w) P w K mg base N_law "law" (defScope s_law) A.f_law (.ref cl) A0 outer s H E).env.qual ++ ("<lambda>" : Str)) ∈ TB) (huT : ∀ p ∈ TB, p.1 = Pt → p.2 = (cxOf (L2.CX P w) P w K mg base N_law "law" (defScope s_law) A.f_law (.ref cl) A0 outer s H E).env.qual ++ ("<lambda>" : Str))
    (bd : Bd (cxOf (L2.CX P w) P w K mg base N_law "law" (defScope s_law) A.f_law (.ref cl) A0 outer s H E) ⟨K, some a, TB⟩ E 20) : DS (cxOf (L2.CX P w) P w K mg base N_law "law" (defScope s_law) A.f_law (.ref cl) A0 outer s H E) ⟨K, some a, TB⟩ E ((forBody ((defBody s_law).getD 1 (.Pass ⟨0, 0, 0, 0⟩))).getD 5 (.Pass ⟨0, 0, 0, 0⟩)) (m_law_1_5 A) :=
  (ds_if (dt_w (dw_or (dt_cmp (op_neDD bd.room.units bd.c.hK) (de_meth0 bd.c (de_call bd.c (ok_product T) (bd.room.mono (by decide)) (by rfl) T.g_product T.F_product.kp T.b_product .nil (fun _ => .nil) (Ln.cons (Ln.cons Ln.nil)) (da_cons (de_ix (de_var (pv 6)) de_int (hK := bd.c.hK)) (da_cons (de_ix (de_var (pv 6)) de_int (hK := bd.c.hK)) da_nil))) T.cl_Matrix T.m_Matrix_told (ok_Matrix_told T) (bd.room.mono (by decide)) T.b_Matrix_told .nil (fun _ => .nil) rfl) (de_var (pv 7))) (dw_or1 (dt_neO bd.c T.q_Matrix (er_Matrix T) (ok_Matrix_eq T) (bd.room.mono (by decide)) T.b_Matrix_eq (de_callK bd.c (ok_product T) (bd.room.mono (by decide)) (by rfl) T.g_product T.F_product.kp T.kb_product_10 (fun _ _ _ h => lnF2_10 ((Ln.cons (Ln.cons Ln.nil)) _ _ _ h)) (dk_cons (de_ix (de_var (pv 6)) de_int (hK := bd.c.hK)) (dk_cons (de_ix (de_var (pv 6)) de_int (hK := bd.c.hK)) dk_nil))) (de_make bd.c T.M_Matrix (ok_Matrix_init T) (bd.room.mono (by decide)) (by rfl) T.g_Matrix T.b_Matrix_init .nil (fun _ => .nil) (fun _ _ _ h => congrArg (· + 1) ((Ln.cons (Ln.cons (Ln.cons Ln.nil))) _ _ _ h)) (da_cons (de_ix (de_var (pv 7)) de_int (hK := bd.c.hK)) (da_cons (de_ix (de_var (pv 7)) de_int (hK := bd.c.hK)) (da_cons (de_ix (de_var (pv 7)) de_int (hK := bd.c.hK)) da_nil)))))))) (dss_one (ds_ret de_bl)) dss_nil)
def m_law_1_6 (A : Ad) : M Fl := (mIf (mLft (mEqO A.c_Matrix et_Matrix (ec_Matrix A) (f_Matrix_eq A) true (mCall (f_product A) [] (mCons (mCall (f_product A) [] (mCons (mBin ixD (mVar 6) (ret (.int 0))) (mCons (mBin ixD (mVar 6) (ret (.int 1))) mNil))) (mCons (mBin ixD (mVar 6) (ret (.int 2))) mNil))) (mCall (f_product A) [] (mCons (mBin ixD (mVar 6) (ret (.int 0))) (mCons (mCall (f_product A) [] (mCons (mBin ixD (mVar 6) (ret (.int 1))) (mCons (mBin ixD (mVar 6) (ret (.int 2))) mNil))) mNil)))) asB) (mRet (ret (.bl false))) mNx)
theorem ds_law_1_6 (T : Tx P K mg A) {a cl Pt : Addr} {A0 : Around} {outer : List Env} {s : Shared} {H : Hp} {E : XK} (hTB : LamX.TabB base mg cl Pt) (hmT : (Pt, (cxOf (L2.CX P w) P w K mg base N_law "law" (defScope s_law) A.f_law (.ref cl) A0 outer s H E).env.qual ++ ("<lambda>" : Str)) ∈ TB) (huT : ∀ p ∈ TB, p.1 = Pt → p.2 = (cxOf (L2.CX P w) P w K mg base N_law "law" (defScope s_law) A.f_law (.ref cl) A0 outer s H E).env.qual ++ ("<lambda>" : Str))
    (bd : Bd (cxOf (L2.CX P w) P w K mg base N_law "law" (defScope s_law) A.f_law (.ref cl) A0 outer s H E) ⟨K, some a, TB⟩ E 20) : DS (cxOf (L2.CX P w) P w K mg base N_law "law" (defScope s_law) A.f_law (.ref cl) A0 outer s H E) ⟨K, some a, TB⟩ E ((forBody ((defBody s_law).getD 1 (.Pass ⟨0, 0, 0, 0⟩))).getD 6 (.Pass ⟨0, 0, 0, 0⟩)) (m_law_1_6 A) :=
  (ds_if (dt_neO bd.c T.q_Matrix (er_Matrix T) (ok_Matrix_eq T) (bd.room.mono (by decide)) T.b_Matrix_eq (de_call bd.c (ok_product T) (bd.room.mono (by decide)) (by rfl) T.g_product T.F_product.kp T.b_product .nil (fun _ => .nil) (Ln.cons (Ln.cons Ln.nil)) (da_cons (de_call bd.c (ok_product T) (bd.room.mono (by decide)) (by rfl) T.g_product T.F_product.kp T.b_product .nil (fun _ => .nil) (Ln.cons (Ln.cons Ln.nil)) (da_cons (de_ix (de_var (pv 6)) de_int (hK := bd.c.hK)) (da_cons (de_ix (de_var (pv 6)) de_int (hK := bd.c.hK)) da_nil))) (da_cons (de_ix (de_var (pv 6)) de_int (hK := bd.c.hK)) da_nil))) (de_call bd.c (ok_product T) (bd.room.mono (by decide)) (by rfl) T.g_product T.F_product.kp T.b_product .nil (fun _ => .nil) (Ln.cons (Ln.cons Ln.nil)) (da_cons (de_ix (de_var (pv 6)) de_int (hK := bd.c.hK)) (da_cons (de_call bd.c (ok_product T) (bd.room.mono (by decide)) (by rfl) T.g_product T.F_product.kp T.b_product .nil (fun _ => .nil) (Ln.cons (Ln.cons Ln.nil)) (da_cons (de_ix (de_var (pv 6)) de_int (hK := bd.c.hK)) (da_cons (de_ix (de_var (pv 6)) de_int (hK := bd.c.hK)) da_nil))) da_nil)))) (dss_one (ds_ret de_bl)) dss_nil)
def m_law_1_7 (A : Ad) : M Fl := (mSet 8 (mCall (f__law_mx A) [] (mCons (mVar 1) (mCons (mBin ixD (mVar 4) (ret (.int 0))) (mCons (mBin ixD (mVar 4) (ret (.int 1))) (mCons (mBin ixD (mVar 3) (ret (.int 0))) (mCons (mBin ixD (mVar 3) (ret (.int 1))) mNil)))))))
theorem ds_law_1_7 (T : Tx P K mg A) {a cl Pt : Addr} {A0 : Around} {outer : List Env} {s : Shared} {H : Hp} {E : XK} (hTB : LamX.TabB base mg cl Pt) (hmT : (Pt, (cxOf (L2.CX P w) P w K mg base N_law "law" (defScope s_law) A.f_law (.ref cl) A0 outer s H E).env.qual ++ ("<lambda>" : Str)) ∈ TB) (huT : ∀ p ∈ TB, p.1 = Pt → p.2 = (cxOf (L2.CX P w) P w K mg base N_law "law" (defScope s_law) A.f_law (.ref cl) A0 outer s H E).env.qual ++ ("<lambda>" : Str))
    (bd : Bd (cxOf (L2.CX P w) P w K mg base N_law "law" (defScope s_law) A.f_law (.ref cl) A0 outer s H E) ⟨K, some a, TB⟩ E 20) : DS (cxOf (L2.CX P w) P w K mg base N_law "law" (defScope s_law) A.f_law (.ref cl) A0 outer s H E) ⟨K, some a, TB⟩ E ((forBody ((defBody s_law).getD 1 (.Pass ⟨0, 0, 0, 0⟩))).getD 7 (.Pass ⟨0, 0, 0, 0⟩)) (m_law_1_7 A) :=
  (ds_set bd.c (i := 8) rfl (by first | exact .inl rfl | exact .inr rfl) (de_call bd.c (ok__law_mx T) (bd.room.mono (by decide)) (by rfl) T.g__law_mx T.F__law_mx.kp T.b__law_mx .nil (fun _ => .nil) (Ln.cons (Ln.cons (Ln.cons (Ln.cons (Ln.cons Ln.nil))))) (da_cons (de_var (pv 1)) (da_cons (de_ix (de_var (pv 4)) de_int (hK := bd.c.hK)) (da_cons (de_ix (de_var (pv 4)) de_int (hK := bd.c.hK)) (da_cons (de_ix (de_var (pv 3)) de_int (hK := bd.c.hK)) (da_cons (de_ix (de_var (pv 3)) de_int (hK := bd.c.hK)) da_nil)))))))
def m_law_1_8 (A : Ad) : M Fl := (mIf (mOr (mLft (mBin neD (mEqO A.c_Matrix et_Matrix (ec_Matrix A) (f_Matrix_eq A) false (mBin ixD (mVar 6) (ret (.int 0))) (mMake A.c_Matrix (f_Matrix_init A) [] (mCons (mBin ixD (mVar 8) (ret (.int 0))) (mCons (mBin ixD (mVar 8) (ret (.int 1))) (mCons (mBin ixD (mVar 8) (ret (.int 2))) mNil))))) (mBin eqD (mBin ixD (mVar 5) (ret (.int 0))) (mVar 8))) asB) (mOr (mLft (mEqO A.c_Matrix et_Matrix (ec_Matrix A) (f_Matrix_eq A) false (mBin ixD (mVar 6) (ret (.int 0))) (mBin ixD (mVar 5) (ret (.int 0)))) asB) (mLft (mBin neD (mEqO A.c_Matrix et_Matrix (ec_Matrix A) (f_Matrix_eq A) true (mBin ixD (mVar 6) (ret (.int 0))) (mMake A.c_Matrix (f_Matrix_init A) [] (mCons (mBin ixD (mVar 4) (ret (.int 0))) (mCons (mBin ixD (mVar 4) (ret (.int 1))) (mCons (mBin ixD (mVar 8) (ret (.int 2))) mNil))))) (mBin neD (mBin ixD (mVar 5) (ret (.int 0))) (mVar 8))) asB))) (mRet (ret (.bl false))) mNx)
theorem ds_law_1_8 (T : Tx P K mg A) {a cl Pt : Addr} {A0 : Around} {outer : List Env} {s : Shared} {H : Hp} {E : XK} (hTB : LamX.TabB base mg cl Pt) (hmT : (Pt, (cxOf (L2.CX P w) P w K mg base N_law "law" (defScope s_law) A.f_law (.ref cl) A0 outer s H E).env.qual ++ ("<lambda>" : Str)) ∈ TB) (huT : ∀ p ∈ TB, p.1 = Pt → p.2 = (cxOf (L2.CX P w) P w K mg base N_law "law" (defScope s_law) A.f_law (.ref cl) A0 outer s H E).env.qual ++ ("<lambda>" : Str))
    (bd : Bd (cxOf (L2.CX P w) P w K mg base N_law "law" (defScope s_law) A.f_law (.ref cl) A0 outer s H E) ⟨K, some a, TB⟩ E 20) : DS (cxOf (L2.CX P w) P w K mg base N_law "law" (defScope s_law) A.f_law (.ref cl) A0 outer s H E) ⟨K, some a, TB⟩ E ((forBody ((defBody s_law).getD 1 (.Pass ⟨0, 0, 0, 0⟩))).getD 8 (.Pass ⟨0, 0, 0, 0⟩)) (m_law_1_8 A) :=
  (ds_if (dt_w (dw_or (dt_cmp (op_neDD bd.room.units bd.c.hK) (de_eqO bd.c T.q_Matrix (er_Matrix T) (ok_Matrix_eq T) (bd.room.mono (by decide)) T.b_Matrix_eq (de_ix (de_var (pv 6)) de_int (hK := bd.c.hK)) (de_make bd.c T.M_Matrix (ok_Matrix_init T) (bd.room.mono (by decide)) (by rfl) T.g_Matrix T.b_Matrix_init .nil (fun _ => .nil) (fun _ _ _ h => congrArg (· + 1) ((Ln.cons (Ln.cons (Ln.cons Ln.nil))) _ _ _ h)) (da_cons (de_ix (de_var (pv 8)) de_int (hK := bd.c.hK)) (da_cons (de_ix (de_var (pv 8)) de_int (hK := bd.c.hK)) (da_cons (de_ix (de_var (pv 8)) de_int (hK := bd.c.hK)) da_nil))))) (de_cmp (op_eqDD bd.room.units bd.c.hK) (de_ix (de_var (pv 5)) de_int (hK := bd.c.hK)) (de_var (pv 8)))) (dw_or (dt_eqO bd.c T.q_Matrix (er_Matrix T) (ok_Matrix_eq T) (bd.room.mono (by decide)) T.b_Matrix_eq (de_ix (de_var (pv 6)) de_int (hK := bd.c.hK)) (de_ix (de_var (pv 5)) de_int (hK := bd.c.hK))) (dw_or1 (dt_cmp (op_neDD bd.room.units bd.c.hK) (de_neO bd.c T.q_Matrix (er_Matrix T) (ok_Matrix_eq T) (bd.room.mono (by decide)) T.b_Matrix_eq (de_ix (de_var (pv 6)) de_int (hK := bd.c.hK)) (de_make bd.c T.M_Matrix (ok_Matrix_init T) (bd.room.mono (by decide)) (by rfl) T.g_Matrix T.b_Matrix_init .nil (fun _ => .nil) (fun _ _ _ h => congrArg (· + 1) ((Ln.cons (Ln.cons (Ln.cons Ln.nil))) _ _ _ h)) (da_cons (de_ix (de_var (pv 4)) de_int (hK := bd.c.hK)) (da_cons (de_ix (de_var (pv 4)) de_int (hK := bd.c.hK)) (da_cons (de_ix (de_var (pv 8)) de_int (hK := bd.c.hK)) da_nil))))) (de_cmp (op_neDD bd.room.units bd.c.hK) (de_ix (de_var (pv 5)) de_int (hK := bd.c.hK)) (de_var (pv 8)))))))) (dss_one (ds_ret de_bl)) dss_nil)
def m_law_1_9 (A : Ad) : M Fl := (mSet 9 (mLft (mCons (mMake A.c_Matrix (f_Matrix_init A) [] (mCons (mIf (mLft (mBin ltD (mBin ixD (mVar 4) (ret (.int 1))) (ret (.int 399))) asB) (mBin addD (mBin ixD (mVar 4) (ret (.int 1))) (ret (.int 1))) (ret (.int 0))) (mCons (ret (.int 2)) (mCons (mBin ixD (mBin ixD (mVar 5) (ret (.int 1))) (ret (.int 2))) mNil)))) (mCons (mMake A.c_Matrix (f_Matrix_init A) [] (mCons (mBin ixD (mVar 4) (ret (.int 1))) (mCons (ret (.int 2)) (mCons (mBin addD (mBin ixD (mBin ixD (mVar 5) (ret (.int 1))) (ret (.int 2))) (mLft (mCons (mBin ixD (mBin ixD (mBin ixD (mVar 5) (ret (.int 1))) (ret (.int 2))) (ret (.int 0))) mNil) mkTup)) mNil)))) mNil)) mkLst))
theorem ds_law_1_9 (T : Tx P K mg A) {a cl Pt : Addr} {A0 : Around} {outer : List Env} {s : Shared} {H : Hp} {E : XK} (hTB : LamX.TabB base mg cl Pt) (hmT : (Pt, (cxOf (L2.CX P w) P w K mg base N_law "law" (defScope s_law) A.f_law (.ref cl) A0 outer s H E).env.qual ++ ("<lambda>" : Str)) ∈ TB) (huT : ∀ p ∈ TB, p.1 = Pt → p.2 = (cxOf (L2.CX P w) P w K mg base N_law "law" (defScope s_law) A.f_law (.ref cl) A0 outer s H E).env.qual ++ ("<lambda>" : Str))
    (bd : Bd (cxOf (L2.CX P w) P w K mg base N_law "law" (defScope s_law) A.f_law (.ref cl) A0 outer s H E) ⟨K, some a, TB⟩ E 20) : DS (cxOf (L2.CX P w) P w K mg base N_law "law" (defScope s_law) A.f_law (.ref cl) A0 outer s H E) ⟨K, some a, TB⟩ E ((forBody ((defBody s_law).getD 1 (.Pass ⟨0, 0, 0, 0⟩))).getD 9 (.Pass ⟨0, 0, 0, 0⟩)) (m_law_1_9 A) :=
  (ds_set bd.c (i := 9) rfl (by first | exact .inl rfl | exact .inr rfl) (do_e (do_lst (da_cons (de_make bd.c T.M_Matrix (ok_Matrix_init T) (bd.room.mono (by decide)) (by rfl) T.g_Matrix T.b_Matrix_init .nil (fun _ => .nil) (fun _ _ _ h => congrArg (· + 1) ((Ln.cons (Ln.cons (Ln.cons Ln.nil))) _ _ _ h)) (da_cons (de_if (dt_cmp (op_ltD) (de_ix (de_var (pv 4)) de_int (hK := bd.c.hK)) de_int) (de_op (op_addD bd.c.hK) (de_ix (de_var (pv 4)) de_int (hK := bd.c.hK)) de_int) de_int) (da_cons de_int (da_cons (de_ix (de_ix (de_var (pv 5)) de_int (hK := bd.c.hK)) de_int (hK := bd.c.hK)) da_nil)))) (da_cons (de_make bd.c T.M_Matrix (ok_Matrix_init T) (bd.room.mono (by decide)) (by rfl) T.g_Matrix T.b_Matrix_init .nil (fun _ => .nil) (fun _ _ _ h => congrArg (· + 1) ((Ln.cons (Ln.cons (Ln.cons Ln.nil))) _ _ _ h)) (da_cons (de_ix (de_var (pv 4)) de_int (hK := bd.c.hK)) (da_cons de_int (da_cons (de_op (op_addD bd.c.hK) (de_ix (de_ix (de_var (pv 5)) de_int (hK := bd.c.hK)) de_int (hK := bd.c.hK)) (de_tup (da_cons (de_ix (de_ix (de_ix (de_var (pv 5)) de_int (hK := bd.c.hK)) de_int (hK := bd.c.hK)) de_int (hK := bd.c.hK)) da_nil))) da_nil)))) da_nil)))))
def m_law_1_10 (A : Ad) : M Fl := (mIf (mLft (mBin neD (mLft (mCons (mHeard (hc A) N__law_ho_heard.length (h_rest A) (mCall (f_product A) [] (mCons (mBin ixD (mVar 6) (ret (.int 0))) (mCons (mBin ixD (mVar 9) (ret (.int 0))) mNil)))) (mCons (mHeard (hc A) N__law_ho_heard.length (h_rest A) (mCall (f_product A) [] (mCons (mBin ixD (mVar 6) (ret (.int 0))) (mCons (mBin ixD (mVar 9) (ret (.int 1))) mNil)))) mNil)) mkLst) (mBin mulD (mLft (mCons (mLft (mCons (ret (.str "misfit")) (mCons (ret (.str "other")) mNil)) mkTup) mNil) mkLst) (ret (.int 2)))) asB) (mRet (ret (.bl false))) mNx)
theorem ds_law_1_10 (T : Tx P K mg A) {a cl Pt : Addr} {A0 : Around} {outer : List Env} {s : Shared} {H : Hp} {E : XK} (hTB : LamX.TabB base mg cl Pt) (hmT : (Pt, (cxOf (L2.CX P w) P w K mg base N_law "law" (defScope s_law) A.f_law (.ref cl) A0 outer s H E).env.qual ++ ("<lambda>" : Str)) ∈ TB) (huT : ∀ p ∈ TB, p.1 = Pt → p.2 = (cxOf (L2.CX P w) P w K mg base N_law "law" (defScope s_law) A.f_law (.ref cl) A0 outer s H E).env.qual ++ ("<lambda>" : Str))
    (bd : Bd (cxOf (L2.CX P w) P w K mg base N_law "law" (defScope s_law) A.f_law (.ref cl) A0 outer s H E) ⟨K, some a, TB⟩ E 20) : DS (cxOf (L2.CX P w) P w K mg base N_law "law" (defScope s_law) A.f_law (.ref cl) A0 outer s H E) ⟨K, some a, TB⟩ E ((forBody ((defBody s_law).getD 1 (.Pass ⟨0, 0, 0, 0⟩))).getD 10 (.Pass ⟨0, 0, 0, 0⟩)) (m_law_1_10 A) :=
  (ds_if (dt_cmp (op_neDD bd.room.units bd.c.hK) (do_e (do_lst (da_cons (heard_at (k := 12) T bd.c (by rfl) (bd := false) hTB rfl hmT huT (bd.room.mono (by decide)) (lamT_by (N := N_law) (sc := defScope s_law) (by decide +kernel)) (by first | rfl | exact ⟨_, _, rfl⟩) (by first | exact fun _ _ _ _ => rfl | exact fun _ _ _ _ => ⟨_, rfl, fun _ => ⟨_, rfl, fun _ => rfl⟩⟩) (fun _ _ _ _ _ _ _ r11 c11 => (de_call c11 (ok_product T) (r11.mono (by decide)) (by rfl) T.g_product T.F_product.kp T.b_product .nil (fun _ => .nil) (Ln.cons (Ln.cons Ln.nil)) (da_cons (de_ix (de_var (pv 6)) de_int (hK := c11.hK)) (da_cons (de_ix (de_var (pv 9)) de_int (hK := c11.hK)) da_nil))))) (da_cons (heard_at (k := 12) T bd.c (by rfl) (bd := true) hTB rfl hmT huT (bd.room.mono (by decide)) (lamT_by (N := N_law) (sc := defScope s_law) (by decide +kernel)) (by first | rfl | exact ⟨_, _, rfl⟩) (by first | exact fun _ _ _ _ => rfl | exact fun _ _ _ _ => ⟨_, rfl, fun _ => ⟨_, rfl, fun _ => rfl⟩⟩) (fun _ _ _ _ _ _ _ r10 c10 => (de_call c10 (ok_product T) (r10.mono (by decide)) (by rfl) T.g_product T.F_product.kp T.b_product .nil (fun _ => .nil) (Ln.cons (Ln.cons Ln.nil)) (da_cons (de_ix (de_var (pv 6)) de_int (hK := c10.hK)) (da_cons (de_ix (de_var (pv 9)) de_int (hK := c10.hK)) da_nil))))) da_nil)))) (de_op (op_mulD) (do_e (do_lst (da_cons (de_tup (da_cons de_str (da_cons de_str da_nil))) da_nil))) de_int)) (dss_one (ds_ret de_bl)) dss_nil)
def m_law_1_11 (A : Ad) : M Fl := (mSet 10 (mCall (f__law_pick A) [] (mCons (mVar 1) (mCons (mLft (mCons (ret .non) (mCons (ret (.int 5)) (mCons (mBin ixD (mVar 5) (ret (.int 0))) (mCons (mBin ixD (mBin ixD (mVar 5) (ret (.int 0))) (ret (.int 2))) (mCons (ret (.str "matrix")) mNil))))) mkLst) mNil))))
theorem ds_law_1_11 (T : Tx P K mg A) {a cl Pt : Addr} {A0 : Around} {outer : List Env} {s : Shared} {H : Hp} {E : XK} (hTB : LamX.TabB base mg cl Pt) (hmT : (Pt, (cxOf (L2.CX P w) P w K mg base N_law "law" (defScope s_law) A.f_law (.ref cl) A0 outer s H E).env.qual ++ ("<lambda>" : Str)) ∈ TB) (huT : ∀ p ∈ TB, p.1 = Pt → p.2 = (cxOf (L2.CX P w) P w K mg base N_law "law" (defScope s_law) A.f_law (.ref cl) A0 outer s H E).env.qual ++ ("<lambda>" : Str))
    (bd : Bd (cxOf (L2.CX P w) P w K mg base N_law "law" (defScope s_law) A.f_law (.ref cl) A0 outer s H E) ⟨K, some a, TB⟩ E 20) : DS (cxOf (L2.CX P w) P w K mg base N_law "law" (defScope s_law) A.f_law (.ref cl) A0 outer s H E) ⟨K, some a, TB⟩ E ((forBody ((defBody s_law).getD 1 (.Pass ⟨0, 0, 0, 0⟩))).getD 11 (.Pass ⟨0, 0, 0, 0⟩)) (m_law_1_11 A) :=
  (ds_set bd.c (i := 10) rfl (by first | exact .inl rfl | exact .inr rfl) (de_call bd.c (ok__law_pick T) (bd.room.mono (by decide)) (by rfl) T.g__law_pick T.F__law_pick.kp T.b__law_pick .nil (fun _ => .nil) (Ln.cons (Ln.cons Ln.nil)) (da_cons (de_var (pv 1)) (da_cons (do_e (do_lst (da_cons de_non (da_cons de_int (da_cons (de_ix (de_var (pv 5)) de_int (hK := bd.c.hK)) (da_cons (de_ix (de_ix (de_var (pv 5)) de_int (hK := bd.c.hK)) de_int (hK := bd.c.hK)) (da_cons de_str da_nil))))))) da_nil))))
def m_law_1_12 (A : Ad) : M Fl := (mIf (mLft (mBin neD (mLft (mCons (mHeard (hc A) N__law_ho_heard.length (h_rest A) (mCall (f_product A) [] (mCons (mVar 10) (mCons (mVar 10) mNil)))) (mCons (mHeard (hc A) N__law_ho_heard.length (h_rest A) (mCall (f_product A) [] (mCons (mBin ixD (mVar 6) (ret (.int 0))) (mCons (mVar 10) mNil)))) mNil)) mkLst) (mLft (mCons (mLft (mCons (ret (.str "value")) (mCons (ret (.str "one")) mNil)) mkTup) (mCons (mLft (mCons (ret (.str "value")) (mCons (ret (.str "other")) mNil)) mkTup) mNil)) mkLst)) asB) (mRet (ret (.bl false))) mNx)
theorem ds_law_1_12 (T : Tx P K mg A) {a cl Pt : Addr} {A0 : Around} {outer : List Env} {s : Shared} {H : Hp} {E : XK} (hTB : LamX.TabB base mg cl Pt) (hmT : (Pt, (cxOf (L2.CX P w) P w K mg base N_law "law" (defScope s_law) A.f_law (.ref cl) A0 outer s H E).env.qual ++ ("<lambda>" : Str)) ∈ TB) (huT : ∀ p ∈ TB, p.1 = Pt → p.2 = (cxOf (L2.CX P w) P w K mg base N_law "law" (defScope s_law) A.f_law (.ref cl) A0 outer s H E).env.qual ++ ("<lambda>" : Str))
    (bd : Bd (cxOf (L2.CX P w) P w K mg base N_law "law" (defScope s_law) A.f_law (.ref cl) A0 outer s H E) ⟨K, some a, TB⟩ E 20) : DS (cxOf (L2.CX P w) P w K mg base N_law "law" (defScope s_law) A.f_law (.ref cl) A0 outer s H E) ⟨K, some a, TB⟩ E ((forBody ((defBody s_law).getD 1 (.Pass ⟨0, 0, 0, 0⟩))).getD 12 (.Pass ⟨0, 0, 0, 0⟩)) (m_law_1_12 A) :=
  (ds_if (dt_cmp (op_neDD bd.room.units bd.c.hK) (do_e (do_lst (da_cons (heard_at (k := 12) T bd.c (by rfl) (bd := false) hTB rfl hmT huT (bd.room.mono (by decide)) (lamT_by (N := N_law) (sc := defScope s_law) (by decide +kernel)) (by first | rfl | exact ⟨_, _, rfl⟩) (by first | exact fun _ _ _ _ => rfl | exact fun _ _ _ _ => ⟨_, rfl, fun _ => ⟨_, rfl, fun _ => rfl⟩⟩) (fun _ _ _ _ _ _ _ r13 c13 => (de_call c13 (ok_product T) (r13.mono (by decide)) (by rfl) T.g_product T.F_product.kp T.b_product .nil (fun _ => .nil) (Ln.cons (Ln.cons Ln.nil)) (da_cons (de_var (pv 10)) (da_cons (de_var (pv 10)) da_nil))))) (da_cons (heard_at (k := 12) T bd.c (by rfl) (bd := true) hTB rfl hmT huT (bd.room.mono (by decide)) (lamT_by (N := N_law) (sc := defScope s_law) (by decide +kernel)) (by first | rfl | exact ⟨_, _, rfl⟩) (by first | exact fun _ _ _ _ => rfl | exact fun _ _ _ _ => ⟨_, rfl, fun _ => ⟨_, rfl, fun _ => rfl⟩⟩) (fun _ _ _ _ _ _ _ r12 c12 => (de_call c12 (ok_product T) (r12.mono (by decide)) (by rfl) T.g_product T.F_product.kp T.b_product .nil (fun _ => .nil) (Ln.cons (Ln.cons Ln.nil)) (da_cons (de_ix (de_var (pv 6)) de_int (hK := c12.hK)) (da_cons (de_var (pv 10)) da_nil))))) da_nil)))) (do_e (do_lst (da_cons (de_tup (da_cons de_str (da_cons de_str da_nil))) (da_cons (de_tup (da_cons de_str (da_cons de_str da_nil))) da_nil))))) (dss_one (ds_ret de_bl)) dss_nil)
def b_law (A : Ad) : M Fl := (mSeq (mFor (mLft (mCons (ret (.int 8)) mNil) rng1) (setV 2) (mSeq (m_law_1_0 A)
    (mSeq (m_law_1_1 A)
    (mSeq (m_law_1_2 A)
    (mSeq (m_law_1_3 A)
    (mSeq (m_law_1_4 A)
    (mSeq (m_law_1_5 A)
    (mSeq (m_law_1_6 A)
    (mSeq (m_law_1_7 A)
    (mSeq (m_law_1_8 A)
    (mSeq (m_law_1_9 A)
    (mSeq (m_law_1_10 A)
    (mSeq (m_law_1_11 A)
    (m_law_1_12 A))))))))))))))
    (mRet (ret (.bl true))))
theorem ds_law (T : Tx P K mg A) {a cl Pt : Addr} {A0 : Around} {outer : List Env} {s : Shared} {H : Hp} {E : XK} (hTB : LamX.TabB base mg cl Pt) (hmT : (Pt, (cxOf (L2.CX P w) P w K mg base N_law "law" (defScope s_law) A.f_law (.ref cl) A0 outer s H E).env.qual ++ ("<lambda>" : Str)) ∈ TB) (huT : ∀ p ∈ TB, p.1 = Pt → p.2 = (cxOf (L2.CX P w) P w K mg base N_law "law" (defScope s_law) A.f_law (.ref cl) A0 outer s H E).env.qual ++ ("<lambda>" : Str))
    (bd : Bd (cxOf (L2.CX P w) P w K mg base N_law "law" (defScope s_law) A.f_law (.ref cl) A0 outer s H E) ⟨K, some a, TB⟩ E 20) : DSs (cxOf (L2.CX P w) P w K mg base N_law "law" (defScope s_law) A.f_law (.ref cl) A0 outer s H E) ⟨K, some a, TB⟩ E ((defBody s_law).drop 1) (b_law A) :=
  (dss_cons (ds_for bd.own bd.c (di_rng1 (by rfl) T.z_range (da_cons de_int da_nil)) (dg_name bd.c (i := 2) rfl (by first | exact .inl rfl | exact .inr rfl)) (dss_cons (ds_law_1_0 T hTB hmT huT bd)
    (dss_cons (ds_law_1_1 T hTB hmT huT bd)
    (dss_cons (ds_law_1_2 T hTB hmT huT bd)
    (dss_cons (ds_law_1_3 T hTB hmT huT bd)
    (dss_cons (ds_law_1_4 T hTB hmT huT bd)
    (dss_cons (ds_law_1_5 T hTB hmT huT bd)
    (dss_cons (ds_law_1_6 T hTB hmT huT bd)
    (dss_cons (ds_law_1_7 T hTB hmT huT bd)
    (dss_cons (ds_law_1_8 T hTB hmT huT bd)
    (dss_cons (ds_law_1_9 T hTB hmT huT bd)
    (dss_cons (ds_law_1_10 T hTB hmT huT bd)
    (dss_cons (ds_law_1_11 T hTB hmT huT bd)
    (dss_one (ds_law_1_12 T hTB hmT huT bd)))))))))))))))
    (dss_one (ds_ret de_bl)))
def qLam : Str := ("law.<locals>." : Str) ++ ("<lambda>" : Str)
theorem ok_law (T : Tx P K mg A) {cl Pt : Addr} {oc kV doc pm ct : Value} {od an : Option Addr} {osl : Array (Option Value)}
    (lk : K.lookup A.f_law = some ⟨oc, od, .func (PySem.W.fnOf "law" "law" (defArgs s_law) (defBody s_law) (defScope s_law) .none kV doc pm an (.ref cl) ct), osl⟩) (hcd : PySem.W.codeIn K (.ref cl) "law" = true) (hTB : LamX.TabB base mg cl Pt)
    (hm : ∀ ns : List Int, ns.length ≤ 63 → (∀ z ∈ ns, Builtin.Int.intBits z ≤ 1048576) → ∃ z', b_law A (zLaw N_law.length ns) = some (.ok (.rt (.bl true)), z')) :
    FnOk P w K mg base (L2.CX P w) 21 A.f_law (PySem.W.fnOf "law" "law" (defArgs s_law) (defBody s_law) (defScope s_law) .none kV doc pm an (.ref cl) ct) ["script"] (spLaw K [(Pt, qLam)]) :=
  fn_law (k := 20) (k1 := 1) (T := [(Pt, qLam)]) lk hcd sc_law rfl rfl rfl (by decide) (ok__law_pen T (pn := none)) (by decide) T.g__law_pen T.F__law_pen.kp T.b__law_pen (by first | exact .inl rfl | exact .inr rfl) (by first | exact .inl rfl | exact .inr rfl) (fun _ _ _ _ _ => by rfl)
    (fun a A0 outer s H E bd => ds_law T hTB (List.mem_singleton.mpr rfl) (fun p hp _ => by rw [List.mem_singleton.mp hp]; rfl) bd) (fun ns P h => pen_mirror ns P h) hm
end
end K25

-- G25t
set_option maxHeartbeats 4000000
namespace K25
open PySem PySem.Spec PyProof.Rows L2 DL

theorem tx_mk {P : Program} {K : PySem.W.Frag} {h : Heap} {mg : Str → Option Value} (KX : K.In h) (G : h.Ns mainGlobals mg)
    {c_WebError : Addr}
    {c_BadValue : Addr}
    {c_BadNumber : Addr}
    {c_BadName : Addr}
    {c_NoName : Addr}
    {c_BadGrowth : Addr}
    {c_BadWish : Addr}
    {c_BadPrices : Addr}
    {c_BadWorld : Addr}
    {c_BadPaper : Addr}
    {c_BadText : Addr}
    {c_BadLine : Addr}
    {c_Misfit : Addr}
    {c_Nothing : Addr}
    {c_TooMany : Addr}
    {c_Matrix : Addr}
    {f_Matrix_init : Addr}
    {f_Matrix_eq : Addr}
    {f_Matrix_told : Addr}
    {f_is_integer : Addr}
    {f_is_between : Addr}
    {f_is_listed : Addr}
    {f_are_entries : Addr}
    {f_times : Addr}
    {f_behind_both : Addr}
    {f_need_matrix : Addr}
    {f_product : Addr}
    {f__law_pen : Addr}
    {f__law_draw : Addr}
    {f__law_pick : Addr}
    {f__law_ho_heard : Addr}
    {f__law_b_times : Addr}
    {f__law_b_product : Addr}
    {f__law_b_lists : Addr}
    {f__law_mx : Addr}
    {f_law : Addr}
    {fx_BadValue : Addr}
    {cd_BadValue : Addr}
    {cc_BadValue : Addr}
    {fx_Misfit : Addr}
    {cd_Misfit : Addr}
    {cc_Misfit : Addr}
    {fx_BadNumber : Addr}
    {cd_BadNumber : Addr}
    {cc_BadNumber : Addr}
    {t_NONE : Tok}
    {t_NEVER : Tok}
    {t_MOST_STATE : Tok}
    {oc_Matrix_init kV_Matrix_init dc_Matrix_init pm_Matrix_init cv_Matrix_init ct_Matrix_init : Value} {od_Matrix_init an_Matrix_init : Option Addr} {sl_Matrix_init : Array (Option Value)}
    {oc_Matrix_eq kV_Matrix_eq dc_Matrix_eq pm_Matrix_eq cv_Matrix_eq ct_Matrix_eq : Value} {od_Matrix_eq an_Matrix_eq : Option Addr} {sl_Matrix_eq : Array (Option Value)}
    {oc_Matrix_told kV_Matrix_told dc_Matrix_told pm_Matrix_told cv_Matrix_told ct_Matrix_told : Value} {od_Matrix_told an_Matrix_told : Option Addr} {sl_Matrix_told : Array (Option Value)}
    {oc_is_integer kV_is_integer dc_is_integer pm_is_integer cv_is_integer ct_is_integer : Value} {od_is_integer an_is_integer : Option Addr} {sl_is_integer : Array (Option Value)}
    {oc_is_between kV_is_between dc_is_between pm_is_between cv_is_between ct_is_between : Value} {od_is_between an_is_between : Option Addr} {sl_is_between : Array (Option Value)}
    {oc_is_listed kV_is_listed dc_is_listed pm_is_listed cv_is_listed ct_is_listed : Value} {od_is_listed an_is_listed : Option Addr} {sl_is_listed : Array (Option Value)}
    {oc_are_entries kV_are_entries dc_are_entries pm_are_entries cv_are_entries ct_are_entries : Value} {od_are_entries an_are_entries : Option Addr} {sl_are_entries : Array (Option Value)}
    {oc_times kV_times dc_times pm_times cv_times ct_times : Value} {od_times an_times : Option Addr} {sl_times : Array (Option Value)}
    {oc_behind_both kV_behind_both dc_behind_both pm_behind_both cv_behind_both ct_behind_both : Value} {od_behind_both an_behind_both : Option Addr} {sl_behind_both : Array (Option Value)}
    {dT_need_matrix : Addr} {o2_need_matrix : Value} {p2_need_matrix : Option Addr} {tk_need_matrix : Tok} {n2_need_matrix : Nat} {s2_need_matrix : Array (Option Value)}
    {oc_need_matrix kV_need_matrix dc_need_matrix pm_need_matrix cv_need_matrix ct_need_matrix : Value} {od_need_matrix an_need_matrix : Option Addr} {sl_need_matrix : Array (Option Value)}
    {oc_product kV_product dc_product pm_product cv_product ct_product : Value} {od_product an_product : Option Addr} {sl_product : Array (Option Value)}
    {oc__law_pen kV__law_pen dc__law_pen pm__law_pen cv__law_pen ct__law_pen : Value} {od__law_pen an__law_pen : Option Addr} {sl__law_pen : Array (Option Value)}
    {oc__law_draw kV__law_draw dc__law_draw pm__law_draw cv__law_draw ct__law_draw : Value} {od__law_draw an__law_draw : Option Addr} {sl__law_draw : Array (Option Value)}
    {oc__law_pick kV__law_pick dc__law_pick pm__law_pick cv__law_pick ct__law_pick : Value} {od__law_pick an__law_pick : Option Addr} {sl__law_pick : Array (Option Value)}
    {oc__law_ho_heard kV__law_ho_heard dc__law_ho_heard pm__law_ho_heard cv__law_ho_heard ct__law_ho_heard : Value} {od__law_ho_heard an__law_ho_heard : Option Addr} {sl__law_ho_heard : Array (Option Value)}
    {oc__law_b_times kV__law_b_times dc__law_b_times pm__law_b_times cv__law_b_times ct__law_b_times : Value} {od__law_b_times an__law_b_times : Option Addr} {sl__law_b_times : Array (Option Value)}
    {oc__law_b_product kV__law_b_product dc__law_b_product pm__law_b_product cv__law_b_product ct__law_b_product : Value} {od__law_b_product an__law_b_product : Option Addr} {sl__law_b_product : Array (Option Value)}
    {oc__law_b_lists kV__law_b_lists dc__law_b_lists pm__law_b_lists cv__law_b_lists ct__law_b_lists : Value} {od__law_b_lists an__law_b_lists : Option Addr} {sl__law_b_lists : Array (Option Value)}
    {oc__law_mx kV__law_mx dc__law_mx pm__law_mx cv__law_mx ct__law_mx : Value} {od__law_mx an__law_mx : Option Addr} {sl__law_mx : Array (Option Value)}
    {oc_law kV_law dc_law pm_law cv_law ct_law : Value} {od_law an_law : Option Addr} {sl_law : Array (Option Value)}
    {nm_c_BadValue q_c_BadValue : Str} {N_c_BadValue : Addr} {bs_c_BadValue : List Value} {sn_c_BadValue : List Str} {sb_c_BadValue : List Value} {ab_c_BadValue : Bool} {co_c_BadValue : Option Bool} {dd_c_BadValue : Option Addr} {k0_c_BadValue k1_c_BadValue k2_c_BadValue k3_c_BadValue k5_c_BadValue : Option Value} {x1_c_BadValue y1_c_BadValue : Value} {x2_c_BadValue y2_c_BadValue : Option Addr} {x3_c_BadValue y4_c_BadValue : Array (Option Value)} {y3_c_BadValue : Array Value} {y5_c_BadValue : Str} {y6_c_BadValue : Tok}
    {oc_fx_BadValue kV_fx_BadValue dc_fx_BadValue pm_fx_BadValue cv_fx_BadValue ct_fx_BadValue : Value} {od_fx_BadValue an_fx_BadValue : Option Addr} {sl_fx_BadValue : Array (Option Value)}
    {nm_c_Misfit q_c_Misfit : Str} {N_c_Misfit : Addr} {bs_c_Misfit : List Value} {sn_c_Misfit : List Str} {sb_c_Misfit : List Value} {ab_c_Misfit : Bool} {co_c_Misfit : Option Bool} {dd_c_Misfit : Option Addr} {k0_c_Misfit k1_c_Misfit k2_c_Misfit k3_c_Misfit k5_c_Misfit : Option Value} {x1_c_Misfit y1_c_Misfit : Value} {x2_c_Misfit y2_c_Misfit : Option Addr} {x3_c_Misfit y4_c_Misfit : Array (Option Value)} {y3_c_Misfit : Array Value} {y5_c_Misfit : Str} {y6_c_Misfit : Tok}
    {oc_fx_Misfit kV_fx_Misfit dc_fx_Misfit pm_fx_Misfit cv_fx_Misfit ct_fx_Misfit : Value} {od_fx_Misfit an_fx_Misfit : Option Addr} {sl_fx_Misfit : Array (Option Value)}
    {nm_c_BadNumber q_c_BadNumber : Str} {N_c_BadNumber : Addr} {bs_c_BadNumber : List Value} {sn_c_BadNumber : List Str} {sb_c_BadNumber : List Value} {ab_c_BadNumber : Bool} {co_c_BadNumber : Option Bool} {dd_c_BadNumber : Option Addr} {k0_c_BadNumber k1_c_BadNumber k2_c_BadNumber k3_c_BadNumber k5_c_BadNumber : Option Value} {x1_c_BadNumber y1_c_BadNumber : Value} {x2_c_BadNumber y2_c_BadNumber : Option Addr} {x3_c_BadNumber y4_c_BadNumber : Array (Option Value)} {y3_c_BadNumber : Array Value} {y5_c_BadNumber : Str} {y6_c_BadNumber : Tok}
    {oc_fx_BadNumber kV_fx_BadNumber dc_fx_BadNumber pm_fx_BadNumber cv_fx_BadNumber ct_fx_BadNumber : Value} {od_fx_BadNumber an_fx_BadNumber : Option Addr} {sl_fx_BadNumber : Array (Option Value)}
    (l_Matrix_init : K.lookup f_Matrix_init = some ⟨oc_Matrix_init, od_Matrix_init, .func (PySem.W.fnOf "__init__" "Matrix.__init__" (defArgs s_Matrix_init) (defBody s_Matrix_init) (defScope s_Matrix_init) .none kV_Matrix_init dc_Matrix_init pm_Matrix_init an_Matrix_init cv_Matrix_init ct_Matrix_init), sl_Matrix_init⟩)
    (cd_Matrix_initx : PySem.W.codeIn K cv_Matrix_init "Matrix.__init__" = true)
    (kp_Matrix_init : PySem.W.keepIn K (.ref f_Matrix_init) = true)
    (l_Matrix_eq : K.lookup f_Matrix_eq = some ⟨oc_Matrix_eq, od_Matrix_eq, .func (PySem.W.fnOf "__eq__" "Matrix.__eq__" (defArgs s_Matrix_eq) (defBody s_Matrix_eq) (defScope s_Matrix_eq) .none kV_Matrix_eq dc_Matrix_eq pm_Matrix_eq an_Matrix_eq cv_Matrix_eq ct_Matrix_eq), sl_Matrix_eq⟩)
    (cd_Matrix_eqx : PySem.W.codeIn K cv_Matrix_eq "Matrix.__eq__" = true)
    (kp_Matrix_eq : PySem.W.keepIn K (.ref f_Matrix_eq) = true)
    (m_Matrix_eq_at : PySem.W.findIn K (.ref c_Matrix) "__eq__" = some (some (.ref f_Matrix_eq)))
    (m_Matrix_eq_fn : PySem.W.isFn K (.ref f_Matrix_eq) = true)
    (l_Matrix_told : K.lookup f_Matrix_told = some ⟨oc_Matrix_told, od_Matrix_told, .func (PySem.W.fnOf "told" "Matrix.told" (defArgs s_Matrix_told) (defBody s_Matrix_told) (defScope s_Matrix_told) .none kV_Matrix_told dc_Matrix_told pm_Matrix_told an_Matrix_told cv_Matrix_told ct_Matrix_told), sl_Matrix_told⟩)
    (cd_Matrix_toldx : PySem.W.codeIn K cv_Matrix_told "Matrix.told" = true)
    (kp_Matrix_told : PySem.W.keepIn K (.ref f_Matrix_told) = true)
    (m_Matrix_told_at : PySem.W.findIn K (.ref c_Matrix) "told" = some (some (.ref f_Matrix_told)))
    (m_Matrix_told_fn : PySem.W.isFn K (.ref f_Matrix_told) = true)
    (l_is_integer : K.lookup f_is_integer = some ⟨oc_is_integer, od_is_integer, .func (PySem.W.fnOf "is_integer" "is_integer" (defArgs s_is_integer) (defBody s_is_integer) (defScope s_is_integer) .none kV_is_integer dc_is_integer pm_is_integer an_is_integer cv_is_integer ct_is_integer), sl_is_integer⟩)
    (cd_is_integerx : PySem.W.codeIn K cv_is_integer "is_integer" = true)
    (kp_is_integer : PySem.W.keepIn K (.ref f_is_integer) = true)
    (a_is_integer : PySem.W.nsIn K mainGlobals "is_integer" = some (some (.ref f_is_integer)))
    (l_is_between : K.lookup f_is_between = some ⟨oc_is_between, od_is_between, .func (PySem.W.fnOf "is_between" "is_between" (defArgs s_is_between) (defBody s_is_between) (defScope s_is_between) .none kV_is_between dc_is_between pm_is_between an_is_between cv_is_between ct_is_between), sl_is_between⟩)
    (cd_is_betweenx : PySem.W.codeIn K cv_is_between "is_between" = true)
    (kp_is_between : PySem.W.keepIn K (.ref f_is_between) = true)
    (a_is_between : PySem.W.nsIn K mainGlobals "is_between" = some (some (.ref f_is_between)))
    (l_is_listed : K.lookup f_is_listed = some ⟨oc_is_listed, od_is_listed, .func (PySem.W.fnOf "is_listed" "is_listed" (defArgs s_is_listed) (defBody s_is_listed) (defScope s_is_listed) .none kV_is_listed dc_is_listed pm_is_listed an_is_listed cv_is_listed ct_is_listed), sl_is_listed⟩)
    (cd_is_listedx : PySem.W.codeIn K cv_is_listed "is_listed" = true)
    (kp_is_listed : PySem.W.keepIn K (.ref f_is_listed) = true)
    (a_is_listed : PySem.W.nsIn K mainGlobals "is_listed" = some (some (.ref f_is_listed)))
    (l_are_entries : K.lookup f_are_entries = some ⟨oc_are_entries, od_are_entries, .func (PySem.W.fnOf "are_entries" "are_entries" (defArgs s_are_entries) (defBody s_are_entries) (defScope s_are_entries) .none kV_are_entries dc_are_entries pm_are_entries an_are_entries cv_are_entries ct_are_entries), sl_are_entries⟩)
    (cd_are_entriesx : PySem.W.codeIn K cv_are_entries "are_entries" = true)
    (kp_are_entries : PySem.W.keepIn K (.ref f_are_entries) = true)
    (a_are_entries : PySem.W.nsIn K mainGlobals "are_entries" = some (some (.ref f_are_entries)))
    (l_times : K.lookup f_times = some ⟨oc_times, od_times, .func (PySem.W.fnOf "times" "times" (defArgs s_times) (defBody s_times) (defScope s_times) .none kV_times dc_times pm_times an_times cv_times ct_times), sl_times⟩)
    (cd_timesx : PySem.W.codeIn K cv_times "times" = true)
    (kp_times : PySem.W.keepIn K (.ref f_times) = true)
    (a_times : PySem.W.nsIn K mainGlobals "times" = some (some (.ref f_times)))
    (l_behind_both : K.lookup f_behind_both = some ⟨oc_behind_both, od_behind_both, .func (PySem.W.fnOf "behind_both" "behind_both" (defArgs s_behind_both) (defBody s_behind_both) (defScope s_behind_both) .none kV_behind_both dc_behind_both pm_behind_both an_behind_both cv_behind_both ct_behind_both), sl_behind_both⟩)
    (cd_behind_bothx : PySem.W.codeIn K cv_behind_both "behind_both" = true)
    (kp_behind_both : PySem.W.keepIn K (.ref f_behind_both) = true)
    (a_behind_both : PySem.W.nsIn K mainGlobals "behind_both" = some (some (.ref f_behind_both)))
    (l_need_matrix : K.lookup f_need_matrix = some ⟨oc_need_matrix, od_need_matrix, .func (PySem.W.fnOf "need_matrix" "need_matrix" (defArgs s_need_matrix) (defBody s_need_matrix) (defScope s_need_matrix) (.ref dT_need_matrix) kV_need_matrix dc_need_matrix pm_need_matrix an_need_matrix cv_need_matrix ct_need_matrix), sl_need_matrix⟩)
    (cd_need_matrixx : PySem.W.codeIn K cv_need_matrix "need_matrix" = true)
    (kp_need_matrix : PySem.W.keepIn K (.ref f_need_matrix) = true)
    (dt_need_matrix : K.lookup dT_need_matrix = some ⟨o2_need_matrix, p2_need_matrix, .seq #[.str "matrix" tk_need_matrix] n2_need_matrix, s2_need_matrix⟩)
    (a_need_matrix : PySem.W.nsIn K mainGlobals "need_matrix" = some (some (.ref f_need_matrix)))
    (l_product : K.lookup f_product = some ⟨oc_product, od_product, .func (PySem.W.fnOf "product" "product" (defArgs s_product) (defBody s_product) (defScope s_product) .none kV_product dc_product pm_product an_product cv_product ct_product), sl_product⟩)
    (cd_productx : PySem.W.codeIn K cv_product "product" = true)
    (kp_product : PySem.W.keepIn K (.ref f_product) = true)
    (a_product : PySem.W.nsIn K mainGlobals "product" = some (some (.ref f_product)))
    (l__law_pen : K.lookup f__law_pen = some ⟨oc__law_pen, od__law_pen, .func (PySem.W.fnOf "_law_pen" "_law_pen" (defArgs s__law_pen) (defBody s__law_pen) (defScope s__law_pen) .none kV__law_pen dc__law_pen pm__law_pen an__law_pen cv__law_pen ct__law_pen), sl__law_pen⟩)
    (cd__law_penx : PySem.W.codeIn K cv__law_pen "_law_pen" = true)
    (kp__law_pen : PySem.W.keepIn K (.ref f__law_pen) = true)
    (a__law_pen : PySem.W.nsIn K mainGlobals "_law_pen" = some (some (.ref f__law_pen)))
    (l__law_draw : K.lookup f__law_draw = some ⟨oc__law_draw, od__law_draw, .func (PySem.W.fnOf "_law_draw" "_law_draw" (defArgs s__law_draw) (defBody s__law_draw) (defScope s__law_draw) .none kV__law_draw dc__law_draw pm__law_draw an__law_draw cv__law_draw ct__law_draw), sl__law_draw⟩)
    (cd__law_drawx : PySem.W.codeIn K cv__law_draw "_law_draw" = true)
    (kp__law_draw : PySem.W.keepIn K (.ref f__law_draw) = true)
    (a__law_draw : PySem.W.nsIn K mainGlobals "_law_draw" = some (some (.ref f__law_draw)))
    (l__law_pick : K.lookup f__law_pick = some ⟨oc__law_pick, od__law_pick, .func (PySem.W.fnOf "_law_pick" "_law_pick" (defArgs s__law_pick) (defBody s__law_pick) (defScope s__law_pick) .none kV__law_pick dc__law_pick pm__law_pick an__law_pick cv__law_pick ct__law_pick), sl__law_pick⟩)
    (cd__law_pickx : PySem.W.codeIn K cv__law_pick "_law_pick" = true)
    (kp__law_pick : PySem.W.keepIn K (.ref f__law_pick) = true)
    (a__law_pick : PySem.W.nsIn K mainGlobals "_law_pick" = some (some (.ref f__law_pick)))
    (l__law_ho_heard : K.lookup f__law_ho_heard = some ⟨oc__law_ho_heard, od__law_ho_heard, .func (PySem.W.fnOf "_law_ho_heard" "_law_ho_heard" (defArgs s__law_ho_heard) (defBody s__law_ho_heard) (defScope s__law_ho_heard) .none kV__law_ho_heard dc__law_ho_heard pm__law_ho_heard an__law_ho_heard cv__law_ho_heard ct__law_ho_heard), sl__law_ho_heard⟩)
    (cd__law_ho_heardx : PySem.W.codeIn K cv__law_ho_heard "_law_ho_heard" = true)
    (kp__law_ho_heard : PySem.W.keepIn K (.ref f__law_ho_heard) = true)
    (a__law_ho_heard : PySem.W.nsIn K mainGlobals "_law_ho_heard" = some (some (.ref f__law_ho_heard)))
    (l__law_b_times : K.lookup f__law_b_times = some ⟨oc__law_b_times, od__law_b_times, .func (PySem.W.fnOf "_law_b_times" "_law_b_times" (defArgs s__law_b_times) (defBody s__law_b_times) (defScope s__law_b_times) .none kV__law_b_times dc__law_b_times pm__law_b_times an__law_b_times cv__law_b_times ct__law_b_times), sl__law_b_times⟩)
    (cd__law_b_timesx : PySem.W.codeIn K cv__law_b_times "_law_b_times" = true)
    (kp__law_b_times : PySem.W.keepIn K (.ref f__law_b_times) = true)
    (a__law_b_times : PySem.W.nsIn K mainGlobals "_law_b_times" = some (some (.ref f__law_b_times)))
    (l__law_b_product : K.lookup f__law_b_product = some ⟨oc__law_b_product, od__law_b_product, .func (PySem.W.fnOf "_law_b_product" "_law_b_product" (defArgs s__law_b_product) (defBody s__law_b_product) (defScope s__law_b_product) .none kV__law_b_product dc__law_b_product pm__law_b_product an__law_b_product cv__law_b_product ct__law_b_product), sl__law_b_product⟩)
    (cd__law_b_productx : PySem.W.codeIn K cv__law_b_product "_law_b_product" = true)
    (kp__law_b_product : PySem.W.keepIn K (.ref f__law_b_product) = true)
    (a__law_b_product : PySem.W.nsIn K mainGlobals "_law_b_product" = some (some (.ref f__law_b_product)))
    (l__law_b_lists : K.lookup f__law_b_lists = some ⟨oc__law_b_lists, od__law_b_lists, .func (PySem.W.fnOf "_law_b_lists" "_law_b_lists" (defArgs s__law_b_lists) (defBody s__law_b_lists) (defScope s__law_b_lists) .none kV__law_b_lists dc__law_b_lists pm__law_b_lists an__law_b_lists cv__law_b_lists ct__law_b_lists), sl__law_b_lists⟩)
    (cd__law_b_listsx : PySem.W.codeIn K cv__law_b_lists "_law_b_lists" = true)
    (kp__law_b_lists : PySem.W.keepIn K (.ref f__law_b_lists) = true)
    (a__law_b_lists : PySem.W.nsIn K mainGlobals "_law_b_lists" = some (some (.ref f__law_b_lists)))
    (l__law_mx : K.lookup f__law_mx = some ⟨oc__law_mx, od__law_mx, .func (PySem.W.fnOf "_law_mx" "_law_mx" (defArgs s__law_mx) (defBody s__law_mx) (defScope s__law_mx) .none kV__law_mx dc__law_mx pm__law_mx an__law_mx cv__law_mx ct__law_mx), sl__law_mx⟩)
    (cd__law_mxx : PySem.W.codeIn K cv__law_mx "_law_mx" = true)
    (kp__law_mx : PySem.W.keepIn K (.ref f__law_mx) = true)
    (a__law_mx : PySem.W.nsIn K mainGlobals "_law_mx" = some (some (.ref f__law_mx)))
    (l_law : K.lookup f_law = some ⟨oc_law, od_law, .func (PySem.W.fnOf "law" "law" (defArgs s_law) (defBody s_law) (defScope s_law) .none kV_law dc_law pm_law an_law cv_law ct_law), sl_law⟩)
    (cd_lawx : PySem.W.codeIn K cv_law "law" = true)
    (kp_law : PySem.W.keepIn K (.ref f_law) = true)
    (a_law : PySem.W.nsIn K mainGlobals "law" = some (some (.ref f_law)))
    (a_Matrix : PySem.W.nsIn K mainGlobals "Matrix" = some (some (.ref c_Matrix)))
    (cl_Matrix_pg : PySem.W.plainGet K c_Matrix Str.empty = true)
    (cl_Matrix_hd : PySem.W.hasDictIn K c_Matrix = true)
    (cl_Matrix_po : PySem.W.plainOver K c_Matrix = true)
    (cl_Matrix_sa : PySem.W.findIn K (.ref c_Matrix) "__setattr__" = some (some (.builtin "object.__setattr__")))
    (is_Matrix_ha : PySem.W.findIn K (.ref c_Matrix) "__class__" = some (some (.builtin "object.__class__")))
    (is_Matrix_hn : PySem.W.specialIn K (.builtin "object.__class__") "__get__" = some (some (.builtin "getset_descriptor.__get__")))
    (is_Matrix_ht : PySem.W.takesIn K (.builtin "object.__class__") = some true)
    (is_Matrix_hm : PySem.W.mroIn K c_Matrix (.type "object") = some true)
    (M_Matrix_mk : PySem.W.makesIn K c_Matrix = true)
    (M_Matrix_in : PySem.W.findIn K (.ref c_Matrix) "__init__" = some (some (.ref f_Matrix_init)))
    (M_Matrix_fn : PySem.W.isFn K (.ref f_Matrix_init) = true)
    (M_Matrix_kp : PySem.W.keepIn K (.ref c_Matrix) = true)
    (r_na_Matrix_before : PySem.W.findIn K (.ref c_Matrix) "before" = some none)
    (r_na_Matrix_behind : PySem.W.findIn K (.ref c_Matrix) "behind" = some none)
    (r_na_Matrix_rows : PySem.W.findIn K (.ref c_Matrix) "rows" = some none)
    (q_Matrix_ne : PySem.W.findIn K (.ref c_Matrix) "__ne__" = some (some (.builtin "object.__ne__")))
    (r_kc_Matrix_Matrix : PySem.W.kitOne K (.ref c_Matrix) (.ref c_Matrix) = some true)
    (r_kb_Matrix_bool : PySem.W.kitOne K (.ref c_Matrix) (.type "bool") = some false)
    (r_kb_Matrix_int : PySem.W.kitOne K (.ref c_Matrix) (.type "int") = some false)
    (r_kb_Matrix_list : PySem.W.kitOne K (.ref c_Matrix) (.type "list") = some false)
    (r_kb_Matrix_tuple : PySem.W.kitOne K (.ref c_Matrix) (.type "tuple") = some false)
    (r_nf_Matrix_NoneType : PySem.W.notFirst K c_Matrix (.type "NoneType") = true)
    (r_nf_Matrix_bool : PySem.W.notFirst K c_Matrix (.type "bool") = true)
    (r_nf_Matrix_int : PySem.W.notFirst K c_Matrix (.type "int") = true)
    (r_nf_Matrix_str : PySem.W.notFirst K c_Matrix (.type "str") = true)
    (r_nf_Matrix_list : PySem.W.notFirst K c_Matrix (.type "list") = true)
    (r_nf_Matrix_tuple : PySem.W.notFirst K c_Matrix (.type "tuple") = true)
    (r_nf_Matrix_Matrix : PySem.W.notFirst K c_Matrix (.ref c_Matrix) = true)
    (r_kt_NoneType_Matrix : PySem.W.kitOne K (.type "NoneType") (.ref c_Matrix) = some false)
    (r_kt_bool_Matrix : PySem.W.kitOne K (.type "bool") (.ref c_Matrix) = some false)
    (r_kt_int_Matrix : PySem.W.kitOne K (.type "int") (.ref c_Matrix) = some false)
    (r_kt_str_Matrix : PySem.W.kitOne K (.type "str") (.ref c_Matrix) = some false)
    (r_kt_list_Matrix : PySem.W.kitOne K (.type "list") (.ref c_Matrix) = some false)
    (r_kt_tuple_Matrix : PySem.W.kitOne K (.type "tuple") (.ref c_Matrix) = some false)
    (X_BadValue_cl : K.lookup c_BadValue = some (excClassObj nm_c_BadValue q_c_BadValue c_BadValue N_c_BadValue bs_c_BadValue [.ref c_WebError, .type "ValueError", .type "Exception", .type "BaseException", .type "object"] true sn_c_BadValue sb_c_BadValue ab_c_BadValue co_c_BadValue dd_c_BadValue k0_c_BadValue k1_c_BadValue k2_c_BadValue k3_c_BadValue k5_c_BadValue "ValueError.__new__"))
    (X_BadValue_sa : PySem.W.findIn K (.ref c_BadValue) "__setattr__" = some (some (.builtin "object.__setattr__")))
    (X_BadValue_ex : PySem.W.subIn K (.ref c_BadValue) (.type "BaseException") = some true)
    (X_BadValue_ty : PySem.W.typeIn K (.ref c_BadValue) = some (.type "type"))
    (X_BadValue_kC : PySem.W.keepIn K (.ref c_BadValue) = true)
    (X_BadValue_ow : PySem.W.mroIn K c_BadValue (.ref c_BadValue) = some true)
    (X_BadValue_su : PySem.W.ks_superIn K c_BadValue c_BadValue "__init__" = some (some (.builtin "ValueError.__init__")))
    (X_BadValue_sb : PySem.W.subIn K (.ref c_BadValue) (.type "ValueError") = some true)
    (X_BadValue_ce : K.lookup cc_BadValue = some ⟨x1_c_BadValue, x2_c_BadValue, .cell (some (.ref c_BadValue)), x3_c_BadValue⟩)
    (X_BadValue_co : K.lookup cd_BadValue = some ⟨y1_c_BadValue, y2_c_BadValue, .fields y3_c_BadValue, y4_c_BadValue⟩)
    (X_BadValue_c2 : y3_c_BadValue[2]? = some (.str y5_c_BadValue y6_c_BadValue))
    (X_BadValue_c3 : ((P.main.file : Str) == y5_c_BadValue) = true)
    (X_BadValue_an : PySem.W.nsIn K cStatics "thirdparty.any" = some none)
    (X_BadValue_tp : (P.main.scope.names.lookup ("super" : Str)).isSome = false)
    (l_fx_BadValue : K.lookup fx_BadValue = some ⟨oc_fx_BadValue, od_fx_BadValue, .func (PySem.W.ksFn "__init__" "BadValue.__init__" (defArgs sx_BadValue) (defBody sx_BadValue) (defScope sx_BadValue) .none kV_fx_BadValue dc_fx_BadValue pm_fx_BadValue an_fx_BadValue (.ref cd_BadValue) ct_fx_BadValue cc_BadValue), sl_fx_BadValue⟩)
    (cd_fx_BadValuex : PySem.W.codeIn K (.ref cd_BadValue) "BadValue.__init__" = true)
    (r_iC_BadValue : PySem.W.findIn K (.ref c_BadValue) "__init__" = some (some (.ref fx_BadValue)))
    (r_tI_BadValue : PySem.W.typeIn K (.ref fx_BadValue) = some (.type "function"))
    (a_BadValue : PySem.W.nsIn K mainGlobals "BadValue" = some (some (.ref c_BadValue)))
    (ix_BadValue_hcl : (PySem.W.clsIn K c_BadValue).isSome = true)
    (ix_BadValue_hg : PySem.W.findIn K (.ref c_BadValue) "__getattribute__" = some (some (.builtin "BaseException.__getattribute__")))
    (ix_BadValue_hk : PySem.W.findIn K (.ref c_BadValue) "__getattr__" = some none)
    (ix_BadValue_hs : PySem.W.subIn K (.ref c_BadValue) (.type "BaseException") = some true)
    (ix_BadValue_hd : PySem.W.hasDictIn K c_BadValue = true)
    (ix_BadValue_ha : PySem.W.findIn K (.ref c_BadValue) "__class__" = some (some (.builtin "object.__class__")))
    (ix_BadValue_hn : PySem.W.specialIn K (.builtin "object.__class__") "__get__" = some (some (.builtin "getset_descriptor.__get__")))
    (ix_BadValue_ht : PySem.W.takesIn K (.builtin "object.__class__") = some true)
    (ix_BadValue_hm : PySem.W.mroIn K c_BadValue (.type "object") = some true)
    (r_xm_BadValue : PySem.W.exmOne K (.ref c_BadValue) (.ref c_WebError) = some true)
    (r_nx_BadValue_part : PySem.W.findIn K (.ref c_BadValue) "part" = some none)
    (r_kx_BadValue_BadGrowth : PySem.W.kitOne K (.ref c_BadValue) (.ref c_BadGrowth) = some false)
    (r_kx_BadValue_BadLine : PySem.W.kitOne K (.ref c_BadValue) (.ref c_BadLine) = some false)
    (r_kx_BadValue_BadName : PySem.W.kitOne K (.ref c_BadValue) (.ref c_BadName) = some false)
    (r_kx_BadValue_BadNumber : PySem.W.kitOne K (.ref c_BadValue) (.ref c_BadNumber) = some false)
    (r_kx_BadValue_BadPaper : PySem.W.kitOne K (.ref c_BadValue) (.ref c_BadPaper) = some false)
    (r_kx_BadValue_BadPrices : PySem.W.kitOne K (.ref c_BadValue) (.ref c_BadPrices) = some false)
    (r_kx_BadValue_BadText : PySem.W.kitOne K (.ref c_BadValue) (.ref c_BadText) = some false)
    (r_kx_BadValue_BadValue : PySem.W.kitOne K (.ref c_BadValue) (.ref c_BadValue) = some true)
    (r_kx_BadValue_BadWish : PySem.W.kitOne K (.ref c_BadValue) (.ref c_BadWish) = some false)
    (r_kx_BadValue_BadWorld : PySem.W.kitOne K (.ref c_BadValue) (.ref c_BadWorld) = some false)
    (r_kx_BadValue_Misfit : PySem.W.kitOne K (.ref c_BadValue) (.ref c_Misfit) = some false)
    (r_kx_BadValue_NoName : PySem.W.kitOne K (.ref c_BadValue) (.ref c_NoName) = some false)
    (r_kx_BadValue_Nothing : PySem.W.kitOne K (.ref c_BadValue) (.ref c_Nothing) = some false)
    (r_kx_BadValue_TooMany : PySem.W.kitOne K (.ref c_BadValue) (.ref c_TooMany) = some false)
    (X_Misfit_cl : K.lookup c_Misfit = some (excClassObj nm_c_Misfit q_c_Misfit c_Misfit N_c_Misfit bs_c_Misfit [.ref c_WebError, .type "ValueError", .type "Exception", .type "BaseException", .type "object"] true sn_c_Misfit sb_c_Misfit ab_c_Misfit co_c_Misfit dd_c_Misfit k0_c_Misfit k1_c_Misfit k2_c_Misfit k3_c_Misfit k5_c_Misfit "ValueError.__new__"))
    (X_Misfit_sa : PySem.W.findIn K (.ref c_Misfit) "__setattr__" = some (some (.builtin "object.__setattr__")))
    (X_Misfit_ex : PySem.W.subIn K (.ref c_Misfit) (.type "BaseException") = some true)
    (X_Misfit_ty : PySem.W.typeIn K (.ref c_Misfit) = some (.type "type"))
    (X_Misfit_kC : PySem.W.keepIn K (.ref c_Misfit) = true)
    (X_Misfit_ow : PySem.W.mroIn K c_Misfit (.ref c_Misfit) = some true)
    (X_Misfit_su : PySem.W.ks_superIn K c_Misfit c_Misfit "__init__" = some (some (.builtin "ValueError.__init__")))
    (X_Misfit_sb : PySem.W.subIn K (.ref c_Misfit) (.type "ValueError") = some true)
    (X_Misfit_ce : K.lookup cc_Misfit = some ⟨x1_c_Misfit, x2_c_Misfit, .cell (some (.ref c_Misfit)), x3_c_Misfit⟩)
    (X_Misfit_co : K.lookup cd_Misfit = some ⟨y1_c_Misfit, y2_c_Misfit, .fields y3_c_Misfit, y4_c_Misfit⟩)
    (X_Misfit_c2 : y3_c_Misfit[2]? = some (.str y5_c_Misfit y6_c_Misfit))
    (X_Misfit_c3 : ((P.main.file : Str) == y5_c_Misfit) = true)
    (X_Misfit_an : PySem.W.nsIn K cStatics "thirdparty.any" = some none)
    (X_Misfit_tp : (P.main.scope.names.lookup ("super" : Str)).isSome = false)
    (l_fx_Misfit : K.lookup fx_Misfit = some ⟨oc_fx_Misfit, od_fx_Misfit, .func (PySem.W.ksFn "__init__" "Misfit.__init__" (defArgs sx_Misfit) (defBody sx_Misfit) (defScope sx_Misfit) .none kV_fx_Misfit dc_fx_Misfit pm_fx_Misfit an_fx_Misfit (.ref cd_Misfit) ct_fx_Misfit cc_Misfit), sl_fx_Misfit⟩)
    (cd_fx_Misfitx : PySem.W.codeIn K (.ref cd_Misfit) "Misfit.__init__" = true)
    (r_iC_Misfit : PySem.W.findIn K (.ref c_Misfit) "__init__" = some (some (.ref fx_Misfit)))
    (r_tI_Misfit : PySem.W.typeIn K (.ref fx_Misfit) = some (.type "function"))
    (a_Misfit : PySem.W.nsIn K mainGlobals "Misfit" = some (some (.ref c_Misfit)))
    (ix_Misfit_hcl : (PySem.W.clsIn K c_Misfit).isSome = true)
    (ix_Misfit_hg : PySem.W.findIn K (.ref c_Misfit) "__getattribute__" = some (some (.builtin "BaseException.__getattribute__")))
    (ix_Misfit_hk : PySem.W.findIn K (.ref c_Misfit) "__getattr__" = some none)
    (ix_Misfit_hs : PySem.W.subIn K (.ref c_Misfit) (.type "BaseException") = some true)
    (ix_Misfit_hd : PySem.W.hasDictIn K c_Misfit = true)
    (ix_Misfit_ha : PySem.W.findIn K (.ref c_Misfit) "__class__" = some (some (.builtin "object.__class__")))
    (ix_Misfit_hn : PySem.W.specialIn K (.builtin "object.__class__") "__get__" = some (some (.builtin "getset_descriptor.__get__")))
    (ix_Misfit_ht : PySem.W.takesIn K (.builtin "object.__class__") = some true)
    (ix_Misfit_hm : PySem.W.mroIn K c_Misfit (.type "object") = some true)
    (r_xm_Misfit : PySem.W.exmOne K (.ref c_Misfit) (.ref c_WebError) = some true)
    (r_nx_Misfit_part : PySem.W.findIn K (.ref c_Misfit) "part" = some none)
    (r_kx_Misfit_BadGrowth : PySem.W.kitOne K (.ref c_Misfit) (.ref c_BadGrowth) = some false)
    (r_kx_Misfit_BadLine : PySem.W.kitOne K (.ref c_Misfit) (.ref c_BadLine) = some false)
    (r_kx_Misfit_BadName : PySem.W.kitOne K (.ref c_Misfit) (.ref c_BadName) = some false)
    (r_kx_Misfit_BadNumber : PySem.W.kitOne K (.ref c_Misfit) (.ref c_BadNumber) = some false)
    (r_kx_Misfit_BadPaper : PySem.W.kitOne K (.ref c_Misfit) (.ref c_BadPaper) = some false)
    (r_kx_Misfit_BadPrices : PySem.W.kitOne K (.ref c_Misfit) (.ref c_BadPrices) = some false)
    (r_kx_Misfit_BadText : PySem.W.kitOne K (.ref c_Misfit) (.ref c_BadText) = some false)
    (r_kx_Misfit_BadValue : PySem.W.kitOne K (.ref c_Misfit) (.ref c_BadValue) = some false)
    (r_kx_Misfit_BadWish : PySem.W.kitOne K (.ref c_Misfit) (.ref c_BadWish) = some false)
    (r_kx_Misfit_BadWorld : PySem.W.kitOne K (.ref c_Misfit) (.ref c_BadWorld) = some false)
    (r_kx_Misfit_Misfit : PySem.W.kitOne K (.ref c_Misfit) (.ref c_Misfit) = some true)
    (r_kx_Misfit_NoName : PySem.W.kitOne K (.ref c_Misfit) (.ref c_NoName) = some false)
    (r_kx_Misfit_Nothing : PySem.W.kitOne K (.ref c_Misfit) (.ref c_Nothing) = some false)
    (r_kx_Misfit_TooMany : PySem.W.kitOne K (.ref c_Misfit) (.ref c_TooMany) = some false)
    (X_BadNumber_cl : K.lookup c_BadNumber = some (excClassObj nm_c_BadNumber q_c_BadNumber c_BadNumber N_c_BadNumber bs_c_BadNumber [.ref c_WebError, .type "ValueError", .type "Exception", .type "BaseException", .type "object"] true sn_c_BadNumber sb_c_BadNumber ab_c_BadNumber co_c_BadNumber dd_c_BadNumber k0_c_BadNumber k1_c_BadNumber k2_c_BadNumber k3_c_BadNumber k5_c_BadNumber "ValueError.__new__"))
    (X_BadNumber_sa : PySem.W.findIn K (.ref c_BadNumber) "__setattr__" = some (some (.builtin "object.__setattr__")))
    (X_BadNumber_ex : PySem.W.subIn K (.ref c_BadNumber) (.type "BaseException") = some true)
    (X_BadNumber_ty : PySem.W.typeIn K (.ref c_BadNumber) = some (.type "type"))
    (X_BadNumber_kC : PySem.W.keepIn K (.ref c_BadNumber) = true)
    (X_BadNumber_ow : PySem.W.mroIn K c_BadNumber (.ref c_BadNumber) = some true)
    (X_BadNumber_su : PySem.W.ks_superIn K c_BadNumber c_BadNumber "__init__" = some (some (.builtin "ValueError.__init__")))
    (X_BadNumber_sb : PySem.W.subIn K (.ref c_BadNumber) (.type "ValueError") = some true)
    (X_BadNumber_ce : K.lookup cc_BadNumber = some ⟨x1_c_BadNumber, x2_c_BadNumber, .cell (some (.ref c_BadNumber)), x3_c_BadNumber⟩)
    (X_BadNumber_co : K.lookup cd_BadNumber = some ⟨y1_c_BadNumber, y2_c_BadNumber, .fields y3_c_BadNumber, y4_c_BadNumber⟩)
    (X_BadNumber_c2 : y3_c_BadNumber[2]? = some (.str y5_c_BadNumber y6_c_BadNumber))
    (X_BadNumber_c3 : ((P.main.file : Str) == y5_c_BadNumber) = true)
    (X_BadNumber_an : PySem.W.nsIn K cStatics "thirdparty.any" = some none)
    (X_BadNumber_tp : (P.main.scope.names.lookup ("super" : Str)).isSome = false)
    (l_fx_BadNumber : K.lookup fx_BadNumber = some ⟨oc_fx_BadNumber, od_fx_BadNumber, .func (PySem.W.ksFn "__init__" "BadNumber.__init__" (defArgs sx_BadNumber) (defBody sx_BadNumber) (defScope sx_BadNumber) .none kV_fx_BadNumber dc_fx_BadNumber pm_fx_BadNumber an_fx_BadNumber (.ref cd_BadNumber) ct_fx_BadNumber cc_BadNumber), sl_fx_BadNumber⟩)
    (cd_fx_BadNumberx : PySem.W.codeIn K (.ref cd_BadNumber) "BadNumber.__init__" = true)
    (r_iC_BadNumber : PySem.W.findIn K (.ref c_BadNumber) "__init__" = some (some (.ref fx_BadNumber)))
    (r_tI_BadNumber : PySem.W.typeIn K (.ref fx_BadNumber) = some (.type "function"))
    (a_BadNumber : PySem.W.nsIn K mainGlobals "BadNumber" = some (some (.ref c_BadNumber)))
    (ix_BadNumber_hcl : (PySem.W.clsIn K c_BadNumber).isSome = true)
    (ix_BadNumber_hg : PySem.W.findIn K (.ref c_BadNumber) "__getattribute__" = some (some (.builtin "BaseException.__getattribute__")))
    (ix_BadNumber_hk : PySem.W.findIn K (.ref c_BadNumber) "__getattr__" = some none)
    (ix_BadNumber_hs : PySem.W.subIn K (.ref c_BadNumber) (.type "BaseException") = some true)
    (ix_BadNumber_hd : PySem.W.hasDictIn K c_BadNumber = true)
    (ix_BadNumber_ha : PySem.W.findIn K (.ref c_BadNumber) "__class__" = some (some (.builtin "object.__class__")))
    (ix_BadNumber_hn : PySem.W.specialIn K (.builtin "object.__class__") "__get__" = some (some (.builtin "getset_descriptor.__get__")))
    (ix_BadNumber_ht : PySem.W.takesIn K (.builtin "object.__class__") = some true)
    (ix_BadNumber_hm : PySem.W.mroIn K c_BadNumber (.type "object") = some true)
    (r_xm_BadNumber : PySem.W.exmOne K (.ref c_BadNumber) (.ref c_WebError) = some true)
    (r_nx_BadNumber_part : PySem.W.findIn K (.ref c_BadNumber) "part" = some none)
    (r_kx_BadNumber_BadGrowth : PySem.W.kitOne K (.ref c_BadNumber) (.ref c_BadGrowth) = some false)
    (r_kx_BadNumber_BadLine : PySem.W.kitOne K (.ref c_BadNumber) (.ref c_BadLine) = some false)
    (r_kx_BadNumber_BadName : PySem.W.kitOne K (.ref c_BadNumber) (.ref c_BadName) = some false)
    (r_kx_BadNumber_BadNumber : PySem.W.kitOne K (.ref c_BadNumber) (.ref c_BadNumber) = some true)
    (r_kx_BadNumber_BadPaper : PySem.W.kitOne K (.ref c_BadNumber) (.ref c_BadPaper) = some false)
    (r_kx_BadNumber_BadPrices : PySem.W.kitOne K (.ref c_BadNumber) (.ref c_BadPrices) = some false)
    (r_kx_BadNumber_BadText : PySem.W.kitOne K (.ref c_BadNumber) (.ref c_BadText) = some false)
    (r_kx_BadNumber_BadValue : PySem.W.kitOne K (.ref c_BadNumber) (.ref c_BadValue) = some false)
    (r_kx_BadNumber_BadWish : PySem.W.kitOne K (.ref c_BadNumber) (.ref c_BadWish) = some false)
    (r_kx_BadNumber_BadWorld : PySem.W.kitOne K (.ref c_BadNumber) (.ref c_BadWorld) = some false)
    (r_kx_BadNumber_Misfit : PySem.W.kitOne K (.ref c_BadNumber) (.ref c_Misfit) = some false)
    (r_kx_BadNumber_NoName : PySem.W.kitOne K (.ref c_BadNumber) (.ref c_NoName) = some false)
    (r_kx_BadNumber_Nothing : PySem.W.kitOne K (.ref c_BadNumber) (.ref c_Nothing) = some false)
    (r_kx_BadNumber_TooMany : PySem.W.kitOne K (.ref c_BadNumber) (.ref c_TooMany) = some false)
    (a_BadGrowth : PySem.W.nsIn K mainGlobals "BadGrowth" = some (some (.ref c_BadGrowth)))
    (a_BadLine : PySem.W.nsIn K mainGlobals "BadLine" = some (some (.ref c_BadLine)))
    (a_BadName : PySem.W.nsIn K mainGlobals "BadName" = some (some (.ref c_BadName)))
    (a_BadPaper : PySem.W.nsIn K mainGlobals "BadPaper" = some (some (.ref c_BadPaper)))
    (a_BadPrices : PySem.W.nsIn K mainGlobals "BadPrices" = some (some (.ref c_BadPrices)))
    (a_BadText : PySem.W.nsIn K mainGlobals "BadText" = some (some (.ref c_BadText)))
    (a_BadWish : PySem.W.nsIn K mainGlobals "BadWish" = some (some (.ref c_BadWish)))
    (a_BadWorld : PySem.W.nsIn K mainGlobals "BadWorld" = some (some (.ref c_BadWorld)))
    (a_NoName : PySem.W.nsIn K mainGlobals "NoName" = some (some (.ref c_NoName)))
    (a_Nothing : PySem.W.nsIn K mainGlobals "Nothing" = some (some (.ref c_Nothing)))
    (a_TooMany : PySem.W.nsIn K mainGlobals "TooMany" = some (some (.ref c_TooMany)))
    (a_WebError : PySem.W.nsIn K mainGlobals "WebError" = some (some (.ref c_WebError)))
    (a_NONE : PySem.W.nsIn K mainGlobals "NONE" = some (some (.int 0 t_NONE)))
    (a_NEVER : PySem.W.nsIn K mainGlobals "NEVER" = some (some (.int 3 t_NEVER)))
    (a_MOST_STATE : PySem.W.nsIn K mainGlobals "MOST_STATE" = some (some (.int 400 t_MOST_STATE)))
    (zz_len : PySem.W.nsIn K mainGlobals "len" = some none)
    (zz_abs : PySem.W.nsIn K mainGlobals "abs" = some none)
    (zz_max : PySem.W.nsIn K mainGlobals "max" = some none)
    (zz_min : PySem.W.nsIn K mainGlobals "min" = some none)
    (zz_all : PySem.W.nsIn K mainGlobals "all" = some none)
    (zz_any : PySem.W.nsIn K mainGlobals "any" = some none)
    (zz_sum : PySem.W.nsIn K mainGlobals "sum" = some none)
    (zz_isinstance : PySem.W.nsIn K mainGlobals "isinstance" = some none)
    (zz_repr : PySem.W.nsIn K mainGlobals "repr" = some none)
    (zz_sorted : PySem.W.nsIn K mainGlobals "sorted" = some none)
    (zz_enumerate : PySem.W.nsIn K mainGlobals "enumerate" = some none)
    (zz_zip : PySem.W.nsIn K mainGlobals "zip" = some none)
    (zz_range : PySem.W.nsIn K mainGlobals "range" = some none)
    (zz_int : PySem.W.nsIn K mainGlobals "int" = some none)
    (zz_tuple : PySem.W.nsIn K mainGlobals "tuple" = some none)
    (zz_list : PySem.W.nsIn K mainGlobals "list" = some none)
    (zz_bool : PySem.W.nsIn K mainGlobals "bool" = some none)
    (zz_str : PySem.W.nsIn K mainGlobals "str" = some none)
    (zz_dict : PySem.W.nsIn K mainGlobals "dict" = some none)
    (zz_set : PySem.W.nsIn K mainGlobals "set" = some none)
    (zz_super : PySem.W.nsIn K mainGlobals "super" = some none) :
    Tx P K mg { c_WebError := c_WebError, c_BadValue := c_BadValue, c_BadNumber := c_BadNumber, c_BadName := c_BadName, c_NoName := c_NoName, c_BadGrowth := c_BadGrowth, c_BadWish := c_BadWish, c_BadPrices := c_BadPrices, c_BadWorld := c_BadWorld, c_BadPaper := c_BadPaper, c_BadText := c_BadText, c_BadLine := c_BadLine, c_Misfit := c_Misfit, c_Nothing := c_Nothing, c_TooMany := c_TooMany, c_Matrix := c_Matrix, f_Matrix_init := f_Matrix_init, d_Matrix_init := PySem.W.fnOf "__init__" "Matrix.__init__" (defArgs s_Matrix_init) (defBody s_Matrix_init) (defScope s_Matrix_init) .none kV_Matrix_init dc_Matrix_init pm_Matrix_init an_Matrix_init cv_Matrix_init ct_Matrix_init, f_Matrix_eq := f_Matrix_eq, d_Matrix_eq := PySem.W.fnOf "__eq__" "Matrix.__eq__" (defArgs s_Matrix_eq) (defBody s_Matrix_eq) (defScope s_Matrix_eq) .none kV_Matrix_eq dc_Matrix_eq pm_Matrix_eq an_Matrix_eq cv_Matrix_eq ct_Matrix_eq, f_Matrix_told := f_Matrix_told, d_Matrix_told := PySem.W.fnOf "told" "Matrix.told" (defArgs s_Matrix_told) (defBody s_Matrix_told) (defScope s_Matrix_told) .none kV_Matrix_told dc_Matrix_told pm_Matrix_told an_Matrix_told cv_Matrix_told ct_Matrix_told, f_is_integer := f_is_integer, d_is_integer := PySem.W.fnOf "is_integer" "is_integer" (defArgs s_is_integer) (defBody s_is_integer) (defScope s_is_integer) .none kV_is_integer dc_is_integer pm_is_integer an_is_integer cv_is_integer ct_is_integer, f_is_between := f_is_between, d_is_between := PySem.W.fnOf "is_between" "is_between" (defArgs s_is_between) (defBody s_is_between) (defScope s_is_between) .none kV_is_between dc_is_between pm_is_between an_is_between cv_is_between ct_is_between, f_is_listed := f_is_listed, d_is_listed := PySem.W.fnOf "is_listed" "is_listed" (defArgs s_is_listed) (defBody s_is_listed) (defScope s_is_listed) .none kV_is_listed dc_is_listed pm_is_listed an_is_listed cv_is_listed ct_is_listed, f_are_entries := f_are_entries, d_are_entries := PySem.W.fnOf "are_entries" "are_entries" (defArgs s_are_entries) (defBody s_are_entries) (defScope s_are_entries) .none kV_are_entries dc_are_entries pm_are_entries an_are_entries cv_are_entries ct_are_entries, f_times := f_times, d_times := PySem.W.fnOf "times" "times" (defArgs s_times) (defBody s_times) (defScope s_times) .none kV_times dc_times pm_times an_times cv_times ct_times, f_behind_both := f_behind_both, d_behind_both := PySem.W.fnOf "behind_both" "behind_both" (defArgs s_behind_both) (defBody s_behind_both) (defScope s_behind_both) .none kV_behind_both dc_behind_both pm_behind_both an_behind_both cv_behind_both ct_behind_both, f_need_matrix := f_need_matrix, d_need_matrix := PySem.W.fnOf "need_matrix" "need_matrix" (defArgs s_need_matrix) (defBody s_need_matrix) (defScope s_need_matrix) (.ref dT_need_matrix) kV_need_matrix dc_need_matrix pm_need_matrix an_need_matrix cv_need_matrix ct_need_matrix, f_product := f_product, d_product := PySem.W.fnOf "product" "product" (defArgs s_product) (defBody s_product) (defScope s_product) .none kV_product dc_product pm_product an_product cv_product ct_product, f__law_pen := f__law_pen, d__law_pen := PySem.W.fnOf "_law_pen" "_law_pen" (defArgs s__law_pen) (defBody s__law_pen) (defScope s__law_pen) .none kV__law_pen dc__law_pen pm__law_pen an__law_pen cv__law_pen ct__law_pen, f__law_draw := f__law_draw, d__law_draw := PySem.W.fnOf "_law_draw" "_law_draw" (defArgs s__law_draw) (defBody s__law_draw) (defScope s__law_draw) .none kV__law_draw dc__law_draw pm__law_draw an__law_draw cv__law_draw ct__law_draw, f__law_pick := f__law_pick, d__law_pick := PySem.W.fnOf "_law_pick" "_law_pick" (defArgs s__law_pick) (defBody s__law_pick) (defScope s__law_pick) .none kV__law_pick dc__law_pick pm__law_pick an__law_pick cv__law_pick ct__law_pick, f__law_ho_heard := f__law_ho_heard, d__law_ho_heard := PySem.W.fnOf "_law_ho_heard" "_law_ho_heard" (defArgs s__law_ho_heard) (defBody s__law_ho_heard) (defScope s__law_ho_heard) .none kV__law_ho_heard dc__law_ho_heard pm__law_ho_heard an__law_ho_heard cv__law_ho_heard ct__law_ho_heard, f__law_b_times := f__law_b_times, d__law_b_times := PySem.W.fnOf "_law_b_times" "_law_b_times" (defArgs s__law_b_times) (defBody s__law_b_times) (defScope s__law_b_times) .none kV__law_b_times dc__law_b_times pm__law_b_times an__law_b_times cv__law_b_times ct__law_b_times, f__law_b_product := f__law_b_product, d__law_b_product := PySem.W.fnOf "_law_b_product" "_law_b_product" (defArgs s__law_b_product) (defBody s__law_b_product) (defScope s__law_b_product) .none kV__law_b_product dc__law_b_product pm__law_b_product an__law_b_product cv__law_b_product ct__law_b_product, f__law_b_lists := f__law_b_lists, d__law_b_lists := PySem.W.fnOf "_law_b_lists" "_law_b_lists" (defArgs s__law_b_lists) (defBody s__law_b_lists) (defScope s__law_b_lists) .none kV__law_b_lists dc__law_b_lists pm__law_b_lists an__law_b_lists cv__law_b_lists ct__law_b_lists, f__law_mx := f__law_mx, d__law_mx := PySem.W.fnOf "_law_mx" "_law_mx" (defArgs s__law_mx) (defBody s__law_mx) (defScope s__law_mx) .none kV__law_mx dc__law_mx pm__law_mx an__law_mx cv__law_mx ct__law_mx, f_law := f_law, d_law := PySem.W.fnOf "law" "law" (defArgs s_law) (defBody s_law) (defScope s_law) .none kV_law dc_law pm_law an_law cv_law ct_law, fx_BadValue := fx_BadValue, dx_BadValue := PySem.W.ksFn "__init__" "BadValue.__init__" (defArgs sx_BadValue) (defBody sx_BadValue) (defScope sx_BadValue) .none kV_fx_BadValue dc_fx_BadValue pm_fx_BadValue an_fx_BadValue (.ref cd_BadValue) ct_fx_BadValue cc_BadValue, cd_BadValue := cd_BadValue, cc_BadValue := cc_BadValue, fx_Misfit := fx_Misfit, dx_Misfit := PySem.W.ksFn "__init__" "Misfit.__init__" (defArgs sx_Misfit) (defBody sx_Misfit) (defScope sx_Misfit) .none kV_fx_Misfit dc_fx_Misfit pm_fx_Misfit an_fx_Misfit (.ref cd_Misfit) ct_fx_Misfit cc_Misfit, cd_Misfit := cd_Misfit, cc_Misfit := cc_Misfit, fx_BadNumber := fx_BadNumber, dx_BadNumber := PySem.W.ksFn "__init__" "BadNumber.__init__" (defArgs sx_BadNumber) (defBody sx_BadNumber) (defScope sx_BadNumber) .none kV_fx_BadNumber dc_fx_BadNumber pm_fx_BadNumber an_fx_BadNumber (.ref cd_BadNumber) ct_fx_BadNumber cc_BadNumber, cd_BadNumber := cd_BadNumber, cc_BadNumber := cc_BadNumber, t_NONE := t_NONE, t_NEVER := t_NEVER, t_MOST_STATE := t_MOST_STATE : Ad } where
  F_Matrix_init := fun_mk (st := s_Matrix_init) l_Matrix_init cd_Matrix_initx kp_Matrix_init
  b_Matrix_init := L2.Binds.all fun us hl => match us, hl with | [_, _, _, _], _ => rfl
  F_Matrix_eq := fun_mk (st := s_Matrix_eq) l_Matrix_eq cd_Matrix_eqx kp_Matrix_eq
  b_Matrix_eq := L2.Binds.all fun us hl => match us, hl with | [_, _], _ => rfl
  m_Matrix_eq := ⟨m_Matrix_eq_at, m_Matrix_eq_fn, kp_Matrix_eq⟩
  F_Matrix_told := fun_mk (st := s_Matrix_told) l_Matrix_told cd_Matrix_toldx kp_Matrix_told
  b_Matrix_told := L2.Binds.all fun us hl => match us, hl with | [_], _ => rfl
  m_Matrix_told := ⟨m_Matrix_told_at, m_Matrix_told_fn, kp_Matrix_told⟩
  F_is_integer := fun_mk (st := s_is_integer) l_is_integer cd_is_integerx kp_is_integer
  b_is_integer := L2.Binds.all fun us hl => match us, hl with | [_], _ => rfl
  g_is_integer := PySem.W.mg_of KX G a_is_integer
  F_is_between := fun_mk (st := s_is_between) l_is_between cd_is_betweenx kp_is_between
  b_is_between := L2.Binds.all fun us hl => match us, hl with | [_, _, _], _ => rfl
  g_is_between := PySem.W.mg_of KX G a_is_between
  F_is_listed := fun_mk (st := s_is_listed) l_is_listed cd_is_listedx kp_is_listed
  b_is_listed := L2.Binds.all fun us hl => match us, hl with | [_], _ => rfl
  g_is_listed := PySem.W.mg_of KX G a_is_listed
  F_are_entries := fun_mk (st := s_are_entries) l_are_entries cd_are_entriesx kp_are_entries
  b_are_entries := L2.Binds.all fun us hl => match us, hl with | [_], _ => rfl
  g_are_entries := PySem.W.mg_of KX G a_are_entries
  F_times := fun_mk (st := s_times) l_times cd_timesx kp_times
  b_times := L2.Binds.all fun us hl => match us, hl with | [_, _], _ => rfl
  g_times := PySem.W.mg_of KX G a_times
  F_behind_both := fun_mk (st := s_behind_both) l_behind_both cd_behind_bothx kp_behind_both
  b_behind_both := L2.Binds.all fun us hl => match us, hl with | [_, _], _ => rfl
  g_behind_both := PySem.W.mg_of KX G a_behind_both
  FD_need_matrix := ⟨⟨_, _, _, _, _, _, _, _, _, _, rfl, l_need_matrix, cd_need_matrixx, .inr ⟨by simp, _, _, [.str "matrix" tk_need_matrix], _, rfl, dt_need_matrix, rfl, .cons ⟨_, rfl⟩ .nil⟩, .inl rfl⟩, kp_need_matrix⟩
  b_need_matrix := by
    obtain ⟨ds, r, hb⟩ := FunD.binds1 (ps := ["value", "part"]) (show FunD K "need_matrix" "need_matrix" (defArgs s_need_matrix) (defBody s_need_matrix) (defScope s_need_matrix) [.str "matrix"] [] f_need_matrix (PySem.W.fnOf "need_matrix" "need_matrix" (defArgs s_need_matrix) (defBody s_need_matrix) (defScope s_need_matrix) (.ref dT_need_matrix) kV_need_matrix dc_need_matrix pm_need_matrix an_need_matrix cv_need_matrix ct_need_matrix) from ⟨⟨_, _, _, _, _, _, _, _, _, _, rfl, l_need_matrix, cd_need_matrixx, .inr ⟨by simp, _, _, [.str "matrix" tk_need_matrix], _, rfl, dt_need_matrix, rfl, .cons ⟨_, rfl⟩ .nil⟩, .inl rfl⟩, kp_need_matrix⟩) 2 1 (by simp) rfl (fun T kV doc pm an cdv ct us its l1 l2 => match us, its, l1, l2 with | [_, _], [_], _, _ => ⟨_, rfl, rfl⟩)
    cases r
    exact hb
  g_need_matrix := PySem.W.mg_of KX G a_need_matrix
  F_product := fun_mk (st := s_product) l_product cd_productx kp_product
  b_product := L2.Binds.all fun us hl => match us, hl with | [_, _], _ => rfl
  g_product := PySem.W.mg_of KX G a_product
  F__law_pen := fun_mk (st := s__law_pen) l__law_pen cd__law_penx kp__law_pen
  b__law_pen := L2.Binds.all fun us hl => match us, hl with | [_], _ => rfl
  g__law_pen := PySem.W.mg_of KX G a__law_pen
  F__law_draw := fun_mk (st := s__law_draw) l__law_draw cd__law_drawx kp__law_draw
  b__law_draw := L2.Binds.all fun us hl => match us, hl with | [_, _], _ => rfl
  g__law_draw := PySem.W.mg_of KX G a__law_draw
  F__law_pick := fun_mk (st := s__law_pick) l__law_pick cd__law_pickx kp__law_pick
  b__law_pick := L2.Binds.all fun us hl => match us, hl with | [_, _], _ => rfl
  g__law_pick := PySem.W.mg_of KX G a__law_pick
  F__law_ho_heard := fun_mk (st := s__law_ho_heard) l__law_ho_heard cd__law_ho_heardx kp__law_ho_heard
  b__law_ho_heard := L2.Binds.all fun us hl => match us, hl with | [_], _ => rfl
  g__law_ho_heard := PySem.W.mg_of KX G a__law_ho_heard
  F__law_b_times := fun_mk (st := s__law_b_times) l__law_b_times cd__law_b_timesx kp__law_b_times
  b__law_b_times := L2.Binds.all fun us hl => match us, hl with | [_, _], _ => rfl
  g__law_b_times := PySem.W.mg_of KX G a__law_b_times
  F__law_b_product := fun_mk (st := s__law_b_product) l__law_b_product cd__law_b_productx kp__law_b_product
  b__law_b_product := L2.Binds.all fun us hl => match us, hl with | [_, _], _ => rfl
  g__law_b_product := PySem.W.mg_of KX G a__law_b_product
  F__law_b_lists := fun_mk (st := s__law_b_lists) l__law_b_lists cd__law_b_listsx kp__law_b_lists
  b__law_b_lists := L2.Binds.all fun us hl => match us, hl with | [_], _ => rfl
  g__law_b_lists := PySem.W.mg_of KX G a__law_b_lists
  F__law_mx := fun_mk (st := s__law_mx) l__law_mx cd__law_mxx kp__law_mx
  b__law_mx := L2.Binds.all fun us hl => match us, hl with | [_, _, _, _, _], _ => rfl
  g__law_mx := PySem.W.mg_of KX G a__law_mx
  F_law := fun_mk (st := s_law) l_law cd_lawx kp_law
  b_law := L2.Binds.all fun us hl => match us, hl with | [_], _ => rfl
  g_law := PySem.W.mg_of KX G a_law
  kb_Matrix_init_210 := kbn_of fun us ws h1 h2 => match us, ws, h1, h2 with | [_], [_, _, _], _, _ => rfl
  kb_product_10 := kbn_of fun us ws h1 h2 => match us, ws, h1, h2 with | [], [_, _], _, _ => rfl
  g_Matrix := PySem.W.mg_of KX G a_Matrix
  cl_Matrix := ⟨cl_Matrix_pg, cl_Matrix_hd, cl_Matrix_po, cl_Matrix_sa⟩
  is_Matrix := ⟨⟨cl_Matrix_pg, cl_Matrix_hd, cl_Matrix_po, cl_Matrix_sa⟩, is_Matrix_ha, is_Matrix_hn, is_Matrix_ht, is_Matrix_hm⟩
  M_Matrix := ⟨M_Matrix_mk, M_Matrix_in, M_Matrix_fn, M_Matrix_kp⟩
  na_Matrix_before := r_na_Matrix_before
  na_Matrix_behind := r_na_Matrix_behind
  na_Matrix_rows := r_na_Matrix_rows
  q_Matrix := ⟨⟨cl_Matrix_pg, cl_Matrix_hd, cl_Matrix_po, cl_Matrix_sa⟩, m_Matrix_eq_at, q_Matrix_ne, m_Matrix_eq_fn, is_Matrix_hm⟩
  kc_Matrix_Matrix := r_kc_Matrix_Matrix
  kb_Matrix_bool := r_kb_Matrix_bool
  kb_Matrix_int := r_kb_Matrix_int
  kb_Matrix_list := r_kb_Matrix_list
  kb_Matrix_tuple := r_kb_Matrix_tuple
  nf_Matrix_NoneType := r_nf_Matrix_NoneType
  nf_Matrix_bool := r_nf_Matrix_bool
  nf_Matrix_int := r_nf_Matrix_int
  nf_Matrix_str := r_nf_Matrix_str
  nf_Matrix_list := r_nf_Matrix_list
  nf_Matrix_tuple := r_nf_Matrix_tuple
  nf_Matrix_Matrix := r_nf_Matrix_Matrix
  kt_NoneType_Matrix := r_kt_NoneType_Matrix
  kt_bool_Matrix := r_kt_bool_Matrix
  kt_int_Matrix := r_kt_int_Matrix
  kt_str_Matrix := r_kt_str_Matrix
  kt_list_Matrix := r_kt_list_Matrix
  kt_tuple_Matrix := r_kt_tuple_Matrix
  X_BadValue := ⟨⟨⟨_, _, _, _, _, _, _, _, _, _, _, _, _, _, _, X_BadValue_cl, by first | rfl | decide⟩, X_BadValue_sa, X_BadValue_ex, X_BadValue_ty, X_BadValue_kC⟩, X_BadValue_ow, X_BadValue_su, X_BadValue_sb, ⟨_, _, _, X_BadValue_ce⟩, ⟨_, _, _, _, _, _, X_BadValue_co, X_BadValue_c2, X_BadValue_c3⟩, X_BadValue_an, X_BadValue_tp⟩
  FX_BadValue := ⟨⟨_, _, _, _, _, _, _, _, rfl, l_fx_BadValue, cd_fx_BadValuex⟩⟩
  iC_BadValue := r_iC_BadValue
  tI_BadValue := r_tI_BadValue
  b_BadValue := L2.Binds.all fun us hl => match us, hl with | [_, _], _ => rfl
  g_BadValue := PySem.W.mg_of KX G a_BadValue
  ix_BadValue := ⟨ix_BadValue_hcl, ix_BadValue_hg, ix_BadValue_hk, ix_BadValue_hs, ix_BadValue_hd, ix_BadValue_ha, ix_BadValue_hn, ix_BadValue_ht, ix_BadValue_hm⟩
  xm_BadValue := r_xm_BadValue
  nx_BadValue_part := r_nx_BadValue_part
  kx_BadValue_BadGrowth := r_kx_BadValue_BadGrowth
  kx_BadValue_BadLine := r_kx_BadValue_BadLine
  kx_BadValue_BadName := r_kx_BadValue_BadName
  kx_BadValue_BadNumber := r_kx_BadValue_BadNumber
  kx_BadValue_BadPaper := r_kx_BadValue_BadPaper
  kx_BadValue_BadPrices := r_kx_BadValue_BadPrices
  kx_BadValue_BadText := r_kx_BadValue_BadText
  kx_BadValue_BadValue := r_kx_BadValue_BadValue
  kx_BadValue_BadWish := r_kx_BadValue_BadWish
  kx_BadValue_BadWorld := r_kx_BadValue_BadWorld
  kx_BadValue_Misfit := r_kx_BadValue_Misfit
  kx_BadValue_NoName := r_kx_BadValue_NoName
  kx_BadValue_Nothing := r_kx_BadValue_Nothing
  kx_BadValue_TooMany := r_kx_BadValue_TooMany
  X_Misfit := ⟨⟨⟨_, _, _, _, _, _, _, _, _, _, _, _, _, _, _, X_Misfit_cl, by first | rfl | decide⟩, X_Misfit_sa, X_Misfit_ex, X_Misfit_ty, X_Misfit_kC⟩, X_Misfit_ow, X_Misfit_su, X_Misfit_sb, ⟨_, _, _, X_Misfit_ce⟩, ⟨_, _, _, _, _, _, X_Misfit_co, X_Misfit_c2, X_Misfit_c3⟩, X_Misfit_an, X_Misfit_tp⟩
  FX_Misfit := ⟨⟨_, _, _, _, _, _, _, _, rfl, l_fx_Misfit, cd_fx_Misfitx⟩⟩
  iC_Misfit := r_iC_Misfit
  tI_Misfit := r_tI_Misfit
  b_Misfit := L2.Binds.all fun us hl => match us, hl with | [_, _], _ => rfl
  g_Misfit := PySem.W.mg_of KX G a_Misfit
  ix_Misfit := ⟨ix_Misfit_hcl, ix_Misfit_hg, ix_Misfit_hk, ix_Misfit_hs, ix_Misfit_hd, ix_Misfit_ha, ix_Misfit_hn, ix_Misfit_ht, ix_Misfit_hm⟩
  xm_Misfit := r_xm_Misfit
  nx_Misfit_part := r_nx_Misfit_part
  kx_Misfit_BadGrowth := r_kx_Misfit_BadGrowth
  kx_Misfit_BadLine := r_kx_Misfit_BadLine
  kx_Misfit_BadName := r_kx_Misfit_BadName
  kx_Misfit_BadNumber := r_kx_Misfit_BadNumber
  kx_Misfit_BadPaper := r_kx_Misfit_BadPaper
  kx_Misfit_BadPrices := r_kx_Misfit_BadPrices
  kx_Misfit_BadText := r_kx_Misfit_BadText
  kx_Misfit_BadValue := r_kx_Misfit_BadValue
  kx_Misfit_BadWish := r_kx_Misfit_BadWish
  kx_Misfit_BadWorld := r_kx_Misfit_BadWorld
  kx_Misfit_Misfit := r_kx_Misfit_Misfit
  kx_Misfit_NoName := r_kx_Misfit_NoName
  kx_Misfit_Nothing := r_kx_Misfit_Nothing
  kx_Misfit_TooMany := r_kx_Misfit_TooMany
  X_BadNumber := ⟨⟨⟨_, _, _, _, _, _, _, _, _, _, _, _, _, _, _, X_BadNumber_cl, by first | rfl | decide⟩, X_BadNumber_sa, X_BadNumber_ex, X_BadNumber_ty, X_BadNumber_kC⟩, X_BadNumber_ow, X_BadNumber_su, X_BadNumber_sb, ⟨_, _, _, X_BadNumber_ce⟩, ⟨_, _, _, _, _, _, X_BadNumber_co, X_BadNumber_c2, X_BadNumber_c3⟩, X_BadNumber_an, X_BadNumber_tp⟩
  FX_BadNumber := ⟨⟨_, _, _, _, _, _, _, _, rfl, l_fx_BadNumber, cd_fx_BadNumberx⟩⟩
  iC_BadNumber := r_iC_BadNumber
  tI_BadNumber := r_tI_BadNumber
  b_BadNumber := L2.Binds.all fun us hl => match us, hl with | [_, _], _ => rfl
  g_BadNumber := PySem.W.mg_of KX G a_BadNumber
  ix_BadNumber := ⟨ix_BadNumber_hcl, ix_BadNumber_hg, ix_BadNumber_hk, ix_BadNumber_hs, ix_BadNumber_hd, ix_BadNumber_ha, ix_BadNumber_hn, ix_BadNumber_ht, ix_BadNumber_hm⟩
  xm_BadNumber := r_xm_BadNumber
  nx_BadNumber_part := r_nx_BadNumber_part
  kx_BadNumber_BadGrowth := r_kx_BadNumber_BadGrowth
  kx_BadNumber_BadLine := r_kx_BadNumber_BadLine
  kx_BadNumber_BadName := r_kx_BadNumber_BadName
  kx_BadNumber_BadNumber := r_kx_BadNumber_BadNumber
  kx_BadNumber_BadPaper := r_kx_BadNumber_BadPaper
  kx_BadNumber_BadPrices := r_kx_BadNumber_BadPrices
  kx_BadNumber_BadText := r_kx_BadNumber_BadText
  kx_BadNumber_BadValue := r_kx_BadNumber_BadValue
  kx_BadNumber_BadWish := r_kx_BadNumber_BadWish
  kx_BadNumber_BadWorld := r_kx_BadNumber_BadWorld
  kx_BadNumber_Misfit := r_kx_BadNumber_Misfit
  kx_BadNumber_NoName := r_kx_BadNumber_NoName
  kx_BadNumber_Nothing := r_kx_BadNumber_Nothing
  kx_BadNumber_TooMany := r_kx_BadNumber_TooMany
  g_BadGrowth := PySem.W.mg_of KX G a_BadGrowth
  g_BadLine := PySem.W.mg_of KX G a_BadLine
  g_BadName := PySem.W.mg_of KX G a_BadName
  g_BadPaper := PySem.W.mg_of KX G a_BadPaper
  g_BadPrices := PySem.W.mg_of KX G a_BadPrices
  g_BadText := PySem.W.mg_of KX G a_BadText
  g_BadWish := PySem.W.mg_of KX G a_BadWish
  g_BadWorld := PySem.W.mg_of KX G a_BadWorld
  g_NoName := PySem.W.mg_of KX G a_NoName
  g_Nothing := PySem.W.mg_of KX G a_Nothing
  g_TooMany := PySem.W.mg_of KX G a_TooMany
  g_WebError := PySem.W.mg_of KX G a_WebError
  k_NONE := PySem.W.mg_of KX G a_NONE
  k_NEVER := PySem.W.mg_of KX G a_NEVER
  k_MOST_STATE := PySem.W.mg_of KX G a_MOST_STATE
  z_len := PySem.W.mg_none_of KX G zz_len
  z_abs := PySem.W.mg_none_of KX G zz_abs
  z_max := PySem.W.mg_none_of KX G zz_max
  z_min := PySem.W.mg_none_of KX G zz_min
  z_all := PySem.W.mg_none_of KX G zz_all
  z_any := PySem.W.mg_none_of KX G zz_any
  z_sum := PySem.W.mg_none_of KX G zz_sum
  z_isinstance := PySem.W.mg_none_of KX G zz_isinstance
  z_repr := PySem.W.mg_none_of KX G zz_repr
  z_sorted := PySem.W.mg_none_of KX G zz_sorted
  z_enumerate := PySem.W.mg_none_of KX G zz_enumerate
  z_zip := PySem.W.mg_none_of KX G zz_zip
  z_range := PySem.W.mg_none_of KX G zz_range
  z_int := PySem.W.mg_none_of KX G zz_int
  z_tuple := PySem.W.mg_none_of KX G zz_tuple
  z_list := PySem.W.mg_none_of KX G zz_list
  z_bool := PySem.W.mg_none_of KX G zz_bool
  z_str := PySem.W.mg_none_of KX G zz_str
  z_dict := PySem.W.mg_none_of KX G zz_dict
  z_set := PySem.W.mg_none_of KX G zz_set
  z_super := PySem.W.mg_none_of KX G zz_super
end K25

-- L25
set_option maxHeartbeats 4000000
/-! L25: the plain law of k25 -/
namespace K25
open PySem PySem.Spec PyProof.Rows L2 DL
section
variable {A : Ad} {P : Pen} {n : Nat}
theorem draw_eq : f__law_draw A = runF 6 drawM := rfl
theorem pick_eq : f__law_pick A = runF 2 (pickM (runF 6 drawM)) := rfl
/-! ### the package's functions -/
theorem is_integer_k {i : Int} : f_is_integer A [.int i] P = some (.ok (.bl true), P) := by
  apply r_rtq (N := 1) (k := b_is_integer A)
  · unfold b_is_integer
    repeat' (first | exact e_ret | exact e_nil | exact e_nx | exact e_yes | exact e_var rfl | exact e_pen rfl rfl | apply e_cons | apply e_lft | apply e_bin | apply e_mret | apply e_set | apply e_own | apply e_not | apply e_notV | apply e_drop | apply e_call | apply e_callK | apply e_meth | apply e_make | apply e_makeK | apply e_andV_t | apply e_chain_t | exact rfl)
  · rfl
theorem is_between_k {i a b : Int} (h1 : a ≤ i) (h2 : i ≤ b) : f_is_between A [.int i, .int a, .int b] P = some (.ok (.bl true), P) := by
  apply r_rtq (N := 3) (k := b_is_between A)
  · unfold b_is_between
    repeat' (first | exact e_ret | exact e_nil | exact e_nx | exact e_yes | exact e_var rfl | exact e_pen rfl rfl | apply e_cons | apply e_lft | apply e_bin | apply e_mret | apply e_set | apply e_own | apply e_not | apply e_notV | apply e_drop | apply e_call | apply e_callK | apply e_meth | apply e_make | apply e_makeK | apply e_andV_t | apply e_chain_t | exact is_integer_k | exact le_k h1 | exact le_k h2 | exact rfl)
  · rfl
theorem is_listed_t {xs : List D} : f_is_listed A [.tup xs] P = some (.ok (.bl true), P) := by
  apply r_rtq (N := 1) (k := b_is_listed A)
  · unfold b_is_listed
    repeat' (first | exact e_ret | exact e_nil | exact e_nx | exact e_yes | exact e_var rfl | exact e_pen rfl rfl | apply e_cons | apply e_lft | apply e_bin | apply e_mret | apply e_set | apply e_own | apply e_not | apply e_notV | apply e_drop | apply e_call | apply e_callK | apply e_meth | apply e_make | apply e_makeK | apply e_andV_t | apply e_chain_t | exact rfl)
  · rfl
theorem is_listed_l {xs : List D} : f_is_listed A [.lst xs] P = some (.ok (.bl true), P) := by
  apply r_rtq (N := 1) (k := b_is_listed A)
  · unfold b_is_listed
    repeat' (first | exact e_ret | exact e_nil | exact e_nx | exact e_yes | exact e_var rfl | exact e_pen rfl rfl | apply e_cons | apply e_lft | apply e_bin | apply e_mret | apply e_set | apply e_own | apply e_not | apply e_notV | apply e_drop | apply e_call | apply e_callK | apply e_meth | apply e_make | apply e_makeK | apply e_andV_t | apply e_chain_t | exact rfl)
  · rfl
/-- rows, told by tuples or by lists -/
def rw (b : Bool) (r : List Int) : D := if b = true then rT r else rL r
def rws (b : Bool) (a : Rw) : D := if b = true then tR a else lR a
theorem rws_seq (b : Bool) (a : Rw) : seqD (rws b a) = some (a.map (rw b)) := by cases b <;> rfl
theorem rw_seq (b : Bool) (r : List Int) : seqD (rw b r) = some (intsD r) := by cases b <;> rfl
theorem rws_len (b : Bool) (a : Rw) : lenD [rws b a] = some (.int (a.length : Nat)) := by
  cases b
  · show some (D.int ((a.map rL).length : Nat)) = _
    rw [List.length_map]
  · show some (D.int ((a.map rT).length : Nat)) = _
    rw [List.length_map]
theorem rw_len (b : Bool) (r : List Int) : lenD [rw b r] = some (.int (r.length : Nat)) := by
  cases b
  · show some (D.int ((intsD r).length : Nat)) = _
    rw [intsD_len]
  · show some (D.int ((intsD r).length : Nat)) = _
    rw [intsD_len]
theorem is_listed_rws {b : Bool} {a : Rw} : f_is_listed A [rws b a] P = some (.ok (.bl true), P) := by cases b <;> first | exact is_listed_t | exact is_listed_l
theorem is_listed_rw {b : Bool} {a : List Int} : f_is_listed A [rw b a] P = some (.ok (.bl true), P) := by cases b <;> first | exact is_listed_t | exact is_listed_l
theorem rws_0 {n k : Nat} {b : Bool} {a : Rw} (g : GR n k a) (h : 0 < n) : ixD (rws b a) (.int 0) = some (rw b (a.headD [])) := by
  cases a with
  | nil => have := g.n; simp at this; omega
  | cons r a => cases b <;> exact at_nat (j := 0) rfl
theorem head_mem {n k : Nat} {a : Rw} (g : GR n k a) (h : 0 < n) : a.headD [] ∈ a := by
  cases a with
  | nil => have := g.n; simp at this; omega
  | cons r a => exact List.mem_cons_self
theorem small_lim {n : Nat} (h : n ≤ 400) : n ≤ lim := Nat.le_trans h (by decide)
theorem are_entries_k {n k : Nat} {b : Bool} {a : Rw} (g : GR n k a) (hn : 0 < n) (hk : 0 < k) (hn2 : n ≤ 400) (hk2 : k ≤ 400) : f_are_entries A [rws b a] P = some (.ok (.bl true), P) := by
  have hl : (a.map (rw b)).length ≤ lim := by rw [List.length_map, g.n]; exact small_lim hn2
  have w := g.wid hn
  have h0 := head_mem g hn
  have wh := g.k _ h0
  have gn := g.n
  have c1 : (mLft (mCons (mLc [1] (mLft (mVar 0) seqD) (setV 1) mYes (mAndV (mCall (f_is_listed A) [] (mCons (mVar 1) mNil)) (mBin gtD (mLft (mCons (mVar 1) mNil) lenD) (ret (.int 0))))) mNil) allD) ⟨[.va (rws b a), .un, .un], P⟩ = some (.ok (.bl true), ⟨[.va (rws b a), .un, .un], P⟩) := by
    refine e_lft (e_cons (e_lc_map (S3 := [.va (rws b a), .un, .un]) (fun _ => .bl true) (e_lft (e_var rfl) (rws_seq b a)) hl (fun d hd => ?_) rfl) e_nil) (all_true _)
    obtain ⟨r, hr, rfl⟩ := List.mem_map.mp hd
    have gk := g.k r hr
    refine ⟨_, [.va (rws b a), .va (rw b r), .un], rfl, ?_, rfl⟩
    apply ev
    repeat' (first | exact e_ret | exact e_nil | exact e_nx | exact e_yes | exact e_var rfl | exact e_pen rfl rfl | apply e_cons | apply e_lft | apply e_bin | apply e_mret | apply e_set | apply e_own | apply e_not | apply e_notV | apply e_drop | apply e_call | apply e_callK | apply e_meth | apply e_make | apply e_makeK | apply e_andV_t | apply e_chain_t | exact is_listed_rw | exact rw_len b r | exact gt_k (by omega) | exact rfl)
  have c1' := e_not (e_lft (f := truD) (b := true) c1 rfl)
  have c2 : (mLft (mCons (mLc [1] (mLft (mVar 0) seqD) (setV 1) mYes (mAndV (mBin eqD (mLft (mCons (mVar 1) mNil) lenD) (mLft (mCons (mBin ixD (mVar 0) (ret (.int 0))) mNil) lenD)) (mLft (mCons (mLc [2] (mLft (mVar 1) seqD) (setV 2) mYes (mCall (f_is_between A) [] (mCons (mVar 2) (mCons (ret (.int 0)) (mCons (ret (.int 3)) mNil))))) mNil) allD))) mNil) allD) ⟨[.va (rws b a), .un, .un], P⟩ = some (.ok (.bl true), ⟨[.va (rws b a), .un, .un], P⟩) := by
    refine e_lft (e_cons (e_lc_map (S3 := [.va (rws b a), .un, .un]) (fun _ => .bl true) (e_lft (e_var rfl) (rws_seq b a)) hl (fun d hd => ?_) rfl) e_nil) (all_true _)
    obtain ⟨r, hr, rfl⟩ := List.mem_map.mp hd
    have gk := g.k r hr
    have inn : (mLft (mCons (mLc [2] (mLft (mVar 1) seqD) (setV 2) mYes (mCall (f_is_between A) [] (mCons (mVar 2) (mCons (ret (.int 0)) (mCons (ret (.int 3)) mNil))))) mNil) allD) ⟨[.va (rws b a), .va (rw b r), .un], P⟩ = some (.ok (.bl true), ⟨[.va (rws b a), .va (rw b r), .un], P⟩) := by
      refine e_lft (e_cons (e_lc_map (S3 := [.va (rws b a), .va (rw b r), .un]) (fun _ => .bl true) (e_lft (e_var rfl) (rw_seq b r)) (by rw [intsD_len, gk]; exact small_lim hk2) (fun e he => ?_) rfl) e_nil) (all_true _)
      obtain ⟨x, hx, rfl⟩ := List.mem_map.mp he
      obtain ⟨x0, x3⟩ := g.e r hr x hx
      refine ⟨_, [.va (rws b a), .va (rw b r), .va (.int x)], rfl, ?_, rfl⟩
      apply ev
      repeat' (first | exact e_ret | exact e_nil | exact e_nx | exact e_yes | exact e_var rfl | exact e_pen rfl rfl | apply e_cons | apply e_lft | apply e_bin | apply e_mret | apply e_set | apply e_own | apply e_not | apply e_notV | apply e_drop | apply e_call | apply e_callK | apply e_meth | apply e_make | apply e_makeK | apply e_andV_t | apply e_chain_t | exact is_between_k x0 x3 | exact rfl)
    refine ⟨_, [.va (rws b a), .va (rw b r), .un], rfl, e_andV_t (d := .bl true) (z1 := ⟨[.va (rws b a), .va (rw b r), .un], P⟩) ?_ rfl inn, rfl⟩
    apply ev
    repeat' (first | exact e_ret | exact e_nil | exact e_nx | exact e_yes | exact e_var rfl | exact e_pen rfl rfl | apply e_cons | apply e_lft | apply e_bin | apply e_mret | apply e_set | apply e_own | apply e_not | apply e_notV | apply e_drop | apply e_call | apply e_callK | apply e_meth | apply e_make | apply e_makeK | apply e_andV_t | apply e_chain_t | exact rw_len b r | exact rw_len b _ | exact rws_0 g hn | exact eq_k (by omega) | exact rfl)
  refine r_rtq (N := 3) (k := b_are_entries A) (z1 := ⟨[.va (rws b a), .un, .un], P⟩) ?_ ?_
  · unfold b_are_entries
    refine e_seq (z1 := ⟨[.va (rws b a), .un, .un], P⟩) (e_iff (z1 := ⟨[.va (rws b a), .un, .un], P⟩) (e_or_f (z1 := ⟨[.va (rws b a), .un, .un], P⟩) (e_not (b := true) ?_) (e_or_f (z1 := ⟨[.va (rws b a), .un, .un], P⟩) ?_ c1')) e_nx) (e_seq (z1 := ⟨[.va (rws b a), .un, .un], P⟩) (e_iff (z1 := ⟨[.va (rws b a), .un, .un], P⟩) (e_or_f (z1 := ⟨[.va (rws b a), .un, .un], P⟩) ?_ ?_) e_nx) (e_mret c2))
    all_goals apply ev
    repeat' (first | exact e_ret | exact e_nil | exact e_nx | exact e_yes | exact e_var rfl | exact e_pen rfl rfl | apply e_cons | apply e_lft | apply e_bin | apply e_mret | apply e_set | apply e_own | apply e_not | apply e_notV | apply e_drop | apply e_call | apply e_callK | apply e_meth | apply e_make | apply e_makeK | apply e_andV_t | apply e_chain_t | exact is_listed_rws | exact rws_len b a | exact rws_0 g hn | exact rw_len b _ | exact eq_kf (by omega) | exact gt_kf (by omega) | exact rfl)
  · rfl
/-- a Matrix -/
def MD (A : Ad) (b c : Int) (a : Rw) : D := .obj A.c_Matrix ["before", "behind", "rows"] [.int b, .int c, tR a]
def tD3 (b c : Int) (a : Rw) : D := .tup [.int b, .int c, tR a]
def asT : D → D
  | .tup xs => .tup xs
  | .lst xs => .tup xs
  | d => d
theorem asT_rw (b : Bool) (r : List Int) : asT (rw b r) = rT r := by cases b <;> rfl
theorem tup_rw (b : Bool) (r : List Int) : tupD [rw b r] = some (rT r) := by cases b <;> rfl
theorem init_k {n k : Nat} {b : Bool} {a : Rw} {u v : Int} (g : GR n k a) (hn : 0 < n) (hk : 0 < k) (hn2 : n ≤ 400) (hk2 : k ≤ 400) (hu : 0 ≤ u ∧ u ≤ 399) (hv : 0 ≤ v ∧ v ≤ 399) : f_Matrix_init A [.int u, .int v, rws b a] P = some (.ok (["before", "behind", "rows"], [.int u, .int v, tR a]), P) := by
  have hl : (a.map (rw b)).length ≤ lim := by rw [List.length_map, g.n]; exact small_lim hn2
  have rowsE : (mLft (mCons (mLc [4] (mLft (mVar 3) seqD) (setV 4) mYes (mLft (mCons (mVar 4) mNil) tupD)) mNil) tupD) ⟨[.ow (.obj A.c_Matrix ["before", "behind"] [.int u, .int v]), .va (.int u), .va (.int v), .va (rws b a), .un], P⟩ = some (.ok (tR a), ⟨[.ow (.obj A.c_Matrix ["before", "behind"] [.int u, .int v]), .va (.int u), .va (.int v), .va (rws b a), .un], P⟩) := by
    have q : (a.map (rw b)).map asT = a.map rT := by rw [List.map_map, show asT ∘ rw b = rT from funext fun r => asT_rw b r]
    refine e_lft (e_cons (e_lc_map (S3 := [.ow (.obj A.c_Matrix ["before", "behind"] [.int u, .int v]), .va (.int u), .va (.int v), .va (rws b a), .un]) asT (e_lft (e_var rfl) (rws_seq b a)) hl (fun d hd => ?_) rfl) e_nil) (by rw [q]; rfl)
    obtain ⟨r, hr, rfl⟩ := List.mem_map.mp hd
    exact ⟨_, [.ow (.obj A.c_Matrix ["before", "behind"] [.int u, .int v]), .va (.int u), .va (.int v), .va (rws b a), .va (rw b r)], rfl, e_lft (e_cons (e_var rfl) e_nil) (by rw [asT_rw]; exact tup_rw b r), rfl⟩
  refine r_inq (N := 5) (C := A.c_Matrix) (k := b_Matrix_init A) (z1 := ⟨[.ow (.obj A.c_Matrix ["before", "behind", "rows"] [.int u, .int v, tR a]), .va (.int u), .va (.int v), .va (rws b a), .un], P⟩) ?_ rfl rfl
  unfold b_Matrix_init
  have hz := e_nx (z := zI A.c_Matrix 5 [.int u, .int v, rws b a] P)
  refine e_seq (e_iff (e_not (b := true) ?_) hz) (e_seq (e_iff (e_not (b := true) ?_) hz) (e_seq (e_iff (e_not (b := true) ?_) hz) ?_))
  rotate_right
  · refine e_seq (z1 := ⟨[.ow (.obj A.c_Matrix ["before"] [.int u]), .va (.int u), .va (.int v), .va (rws b a), .un], P⟩) (e_fld (ns := []) (es := []) (e_var rfl) rfl (by decide)) ?_
    refine e_seq (z1 := ⟨[.ow (.obj A.c_Matrix ["before", "behind"] [.int u, .int v]), .va (.int u), .va (.int v), .va (rws b a), .un], P⟩) (e_fld (ns := ["before"]) (es := [.int u]) (e_var rfl) rfl (by decide)) ?_
    exact e_fld (ns := ["before", "behind"]) (es := [.int u, .int v]) rowsE rfl (by decide)
  all_goals apply ev
  repeat' (first | exact e_ret | exact e_nil | exact e_nx | exact e_yes | exact e_var rfl | exact e_pen rfl rfl | apply e_cons | apply e_lft | apply e_bin | apply e_mret | apply e_set | apply e_own | apply e_not | apply e_notV | apply e_drop | apply e_call | apply e_callK | apply e_meth | apply e_make | apply e_makeK | apply e_andV_t | apply e_chain_t | exact is_between_k (by omega) (by omega) | exact are_entries_k g hn hk hn2 hk2 | exact rfl)
end
end K25

-- L25b
set_option maxHeartbeats 4000000
/-! L25b: products, errors heard -/
namespace K25
open PySem PySem.Spec PyProof.Rows L2 DL
section
variable {A : Ad} {P : Pen}
theorem fld_before {b c : Int} {a : Rw} : fldD (fc_before A) "before" (MD A b c a) = some (.int b) := by
  show (if A.c_Matrix ∈ [A.c_Matrix] then _ else _) = _
  rw [if_pos List.mem_cons_self]
  rfl
theorem fld_behind {b c : Int} {a : Rw} : fldD (fc_behind A) "behind" (MD A b c a) = some (.int c) := by
  show (if A.c_Matrix ∈ [A.c_Matrix] then _ else _) = _
  rw [if_pos List.mem_cons_self]
  rfl
theorem fld_rows {b c : Int} {a : Rw} : fldD (fc_rows A) "rows" (MD A b c a) = some (tR a) := by
  show (if A.c_Matrix ∈ [A.c_Matrix] then _ else _) = _
  rw [if_pos List.mem_cons_self]
  rfl
theorem is_M {b c : Int} {a : Rw} : isiD tt_Matrix (to_Matrix A) (MD A b c a) = some (.bl true) := by
  show Option.map _ (List.lookup A.c_Matrix (to_Matrix A)) = _
  rw [show List.lookup A.c_Matrix (to_Matrix A) = some true from by simp [to_Matrix]]
  rfl
theorem told_k {b c : Int} {a : Rw} : f_Matrix_told A [MD A b c a] P = some (.ok (tD3 b c a), P) := by
  apply r_rtq (N := 1) (k := b_Matrix_told A)
  · unfold b_Matrix_told
    repeat' (first | exact e_ret | exact e_nil | exact e_nx | exact e_yes | exact e_var rfl | exact e_pen rfl rfl | apply e_cons | apply e_lft | apply e_bin | apply e_mret | apply e_set | apply e_own | apply e_not | apply e_notV | apply e_drop | apply e_call | apply e_callK | apply e_meth | apply e_make | apply e_makeK | apply e_andV_t | apply e_chain_t | exact fld_before | exact fld_behind | exact fld_rows | exact rfl)
  · rfl
theorem eq_MM {b c b2 c2 : Int} {a a2 : Rw} {e : Bool} (h : eqB (tD3 b c a) (tD3 b2 c2 a2) = some e) : f_Matrix_eq A [MD A b c a, MD A b2 c2 a2] P = some (.ok (.bl e), P) := by
  refine r_rtq (N := 2) (k := b_Matrix_eq A) (z1 := ⟨[.va (MD A b c a), .va (MD A b2 c2 a2)], P⟩) ?_ rfl
  unfold b_Matrix_eq
  have hz := e_nx (z := z0 2 [MD A b c a, MD A b2 c2 a2] P)
  have he : eqD (tD3 b c a) (tD3 b2 c2 a2) = some (.bl e) := by unfold eqD; rw [h]; rfl
  refine e_seq (e_iff (e_not (b := true) ?_) hz) (e_mret ?_)
  all_goals apply ev
  repeat' (first | exact e_ret | exact e_nil | exact e_nx | exact e_yes | exact e_var rfl | exact e_pen rfl rfl | apply e_cons | apply e_lft | apply e_bin | apply e_mret | apply e_set | apply e_own | apply e_not | apply e_notV | apply e_drop | apply e_call | apply e_callK | apply e_meth | apply e_make | apply e_makeK | apply e_andV_t | apply e_chain_t | exact is_M | exact fld_before | exact fld_behind | exact fld_rows | exact he | exact rfl)
theorem eq_MT {b c : Int} {a : Rw} {xs : List D} : f_Matrix_eq A [MD A b c a, .tup xs] P = some (.ok (.bl false), P) := by
  refine r_rtq (N := 2) (k := b_Matrix_eq A) (z1 := ⟨[.va (MD A b c a), .va (.tup xs)], P⟩) ?_ rfl
  unfold b_Matrix_eq
  refine e_seq_rt (e_ift (z1 := ⟨[.va (MD A b c a), .va (.tup xs)], P⟩) (e_not (b := false) ?_) (e_mret e_ret))
  apply ev
  repeat' (first | exact e_ret | exact e_nil | exact e_nx | exact e_yes | exact e_var rfl | exact e_pen rfl rfl | apply e_cons | apply e_lft | apply e_bin | apply e_mret | apply e_set | apply e_own | apply e_not | apply e_notV | apply e_drop | apply e_call | apply e_callK | apply e_meth | apply e_make | apply e_makeK | apply e_andV_t | apply e_chain_t | exact rfl)
theorem times_k {n k m : Nat} {a b : Rw} (ga : GR n k a) (gb : GR k m b) (hk : 0 < k) (hm : 0 < m) (hn2 : n ≤ 400) (hk2 : k ≤ 400) (hm2 : m ≤ 400) : f_times A [tR a, tR b] P = some (.ok (tR (mm a b)), P) := by
  have bn := gb.n
  have bw := gb.wid hk
  refine r_rtq (N := 6) (k := b_times A) (z1 := ⟨[.va (tR a), .va (tR b), .va (.lst ((List.range m).map fun j => rT (colI b j))), .un, .un, .un], P⟩) ?_ rfl
  unfold b_times
  refine e_seq (z1 := ⟨[.va (tR a), .va (tR b), .va (.lst ((List.range m).map fun j => rT (colI b j))), .un, .un, .un], P⟩) (e_set (e_lft (e_var rfl) (zcol_k gb hk hm (small_lim hk2) (small_lim hm2)))) (e_mret ?_)
  refine e_lft (e_cons (e_lc_mg (S3 := [.va (tR a), .va (tR b), .va (.lst ((List.range m).map fun j => rT (colI b j))), .un, .un, .un]) (l := a) (g := rT) (fun r => rT (rmul b r)) (e_lft (e_var rfl) rfl) (by rw [ga.n]; exact small_lim hn2) (fun r hr => ?_) rfl) e_nil) ?_
  · refine ⟨_, [.va (tR a), .va (tR b), .va (.lst ((List.range m).map fun j => rT (colI b j))), .va (rT r), .un, .un], rfl, ?_, rfl⟩
    refine e_lft (e_cons (e_lc_mg (S3 := [.va (tR a), .va (tR b), .va (.lst ((List.range m).map fun j => rT (colI b j))), .va (rT r), .un, .un]) (l := List.range m) (g := fun j => rT (colI b j)) (fun j => .int (dot k (fun t => r.getD t 0) fun t => ent b t j)) (e_lft (e_var rfl) rfl) (by rw [List.length_range]; exact small_lim hm2) (fun j hj => ?_) rfl) e_nil) ?_
    · have hz := zip_k (r := r) (s := colI b j) (k := k) (ga.k r hr) (by rw [colI_len, bn])
      refine ⟨_, [.va (tR a), .va (tR b), .va (.lst ((List.range m).map fun j => rT (colI b j))), .va (rT r), .va (rT (colI b j)), .un], rfl, ?_, rfl⟩
      refine e_lft (e_cons (e_lc_mg (S3 := [.va (tR a), .va (tR b), .va (.lst ((List.range m).map fun j => rT (colI b j))), .va (rT r), .va (rT (colI b j)), .un]) (l := List.range k) (g := fun t => .tup [.int (r.getD t 0), .int ((colI b j).getD t 0)]) (fun t => .int (max (r.getD t 0) (ent b t j))) (e_lft (e_cons (e_var rfl) (e_cons (e_var rfl) e_nil)) hz) (by rw [List.length_range]; exact small_lim hk2) (fun t ht => ?_) rfl) e_nil) ?_
      · have ht := List.mem_range.mp ht
        have e := colI_get (b := b) (j := j) (t := t) (by omega)
        refine ⟨_, [.va (tR a), .va (tR b), .va (.lst ((List.range m).map fun j => rT (colI b j))), .va (rT r), .va (rT (colI b j)), .va (.tup [.int (r.getD t 0), .int ((colI b j).getD t 0)])], rfl, ?_, rfl⟩
        refine e_lft (e_cons (e_var rfl) e_nil) ?_
        rw [max_kt, e]
      · rw [dints_map]
        exact min_k (rng_ne hk)
    · rw [dints_map]
      unfold rmul
      rw [bw, bn]
      rfl
  · show some (D.tup (a.map fun r => rT (rmul b r))) = _
    unfold mm tR
    rw [List.map_map]
    rfl
theorem rows0 {k m : Nat} {b : Rw} (gb : GR k m b) (hk : 0 < k) : ixD (tR b) (.int 0) = some (rT (b.headD [])) := rws_0 (b := true) gb hk
/-- the loop of _law_b_times -/
theorem bt_go {body : M Fl} {a0 b0 : D} {P : Pen} {f : List Int → D} : ∀ (l : List (List Int)) (acc : List D) (s3 : Sl),
    (∀ r ∈ l, ∀ acc : List D, acc.length ≤ lim - 1 → body ⟨[.va a0, .va b0, .ow (.lst acc), .va (rT r), .un, .un, .un], P⟩ = some (.ok .nx, ⟨[.va a0, .va b0, .ow (.lst (acc ++ [f r])), .va (rT r), .un, .un, .un], P⟩)) → acc.length + l.length ≤ lim →
    ∃ s, forGo (setV 3) body (l.map rT) ⟨[.va a0, .va b0, .ow (.lst acc), s3, .un, .un, .un], P⟩ = some (.ok .nx, ⟨[.va a0, .va b0, .ow (.lst (acc ++ l.map f)), s, .un, .un, .un], P⟩)
  | [], acc, s3, h, hl => ⟨s3, by simp [forGo]⟩
  | r :: l, acc, s3, h, hl => by
    have hlen : acc.length ≤ lim - 1 := by simp only [List.length_cons] at hl; omega
    have b1 := h r List.mem_cons_self acc hlen
    obtain ⟨s, ih⟩ := bt_go l (acc ++ [f r]) (.va (rT r)) (fun x hx => h x (List.mem_cons_of_mem _ hx)) (by simp at hl ⊢; omega)
    refine ⟨s, ?_⟩
    show (match body ⟨[.va a0, .va b0, .ow (.lst acc), .va (rT r), .un, .un, .un], P⟩ with
      | some (.ok .nx, z2) => forGo (setV 3) body (l.map rT) z2
      | some (.ok .ct, z2) => forGo (setV 3) body (l.map rT) z2
      | some (.ok .bk, z2) => some (.ok .nx, z2)
      | some (.ok (.rt d), z2) => some (.ok (.rt d), z2)
      | some (.error x, z2) => some (.error x, z2)
      | none => none) = _
    rw [b1]
    show forGo (setV 3) body (l.map rT) _ = _
    rw [ih]
    simp
theorem btimes_k {n k m : Nat} {a b : Rw} (ga : GR n k a) (gb : GR k m b) (hk : 0 < k) (hm : 0 < m) (hn2 : n ≤ 400) (hk2 : k ≤ 400) (hm2 : m ≤ 400) : f__law_b_times A [tR a, tR b] P = some (.ok (tR (mm a b)), P) := by
  have bn := gb.n
  have bw := gb.wid hk
  have wh := gb.k _ (head_mem gb hk)
  have body : ∀ r ∈ a, ∀ acc : List D, acc.length ≤ lim - 1 → (mApp 2 (mLft (mCons (mLc [4] (mLft (mCons (mLft (mCons (mBin ixD (mVar 1) (ret (.int 0))) mNil) lenD) mNil) rng1) (setV 4) mYes (mLft (mCons (mLc [5, 6] (mLft (mCons (mVar 3) mNil) enD) (setTup 2 (setCons (setV 5) (setCons (setV 6) setNil))) mYes (mLft (mCons (mVar 6) (mCons (mBin ixD (mBin ixD (mVar 1) (mVar 5)) (mVar 4)) mNil)) maxD)) mNil) minD)) mNil) tupD)) ⟨[.va (tR a), .va (tR b), .ow (.lst acc), .va (rT r), .un, .un, .un], P⟩ = some (.ok .nx, ⟨[.va (tR a), .va (tR b), .ow (.lst (acc ++ [rT (rmul b r)])), .va (rT r), .un, .un, .un], P⟩) := by
    intro r hr acc hacc
    have rk := ga.k r hr
    refine e_app (ys := acc) (xs := acc) (z1 := ⟨[.va (tR a), .va (tR b), .ow (.lst acc), .va (rT r), .un, .un, .un], P⟩) rfl ?_ rfl (by have : lim = 16777216 := rfl; omega)
    have rg : (mLft (mCons (mLft (mCons (mBin ixD (mVar 1) (ret (.int 0))) mNil) lenD) mNil) rng1) ⟨[.va (tR a), .va (tR b), .ow (.lst acc), .va (rT r), .un, .un, .un], P⟩ = some (.ok ((List.range m).map fun (j : Nat) => D.int j), ⟨[.va (tR a), .va (tR b), .ow (.lst acc), .va (rT r), .un, .un, .un], P⟩) := by
      refine e_lft (e_cons (e_lft (e_cons (e_bin (e_var rfl) e_ret (rows0 gb hk)) e_nil) (rw_len true _)) e_nil) ?_
      rw [wh, rng_k (small_lim hm2), rngL_eq]
    refine e_lft (e_cons (e_lc_mg (S3 := [.va (tR a), .va (tR b), .ow (.lst acc), .va (rT r), .un, .un, .un]) (l := List.range m) (g := fun j => .int j) (fun j => .int (dot k (fun t => r.getD t 0) fun t => ent b t j)) rg (by rw [List.length_range]; exact small_lim hm2) (fun j hj => ?_) rfl) e_nil) ?_
    · have hj := List.mem_range.mp hj
      refine ⟨_, [.va (tR a), .va (tR b), .ow (.lst acc), .va (rT r), .va (.int j), .un, .un], rfl, ?_, rfl⟩
      refine e_lft (e_cons (e_lc_mg (S3 := [.va (tR a), .va (tR b), .ow (.lst acc), .va (rT r), .va (.int j), .un, .un]) (l := List.range r.length) (g := fun t => .tup [.int (t : Nat), .int (r.getD t 0)]) (fun t => .int (max (r.getD t 0) (ent b t j))) (e_lft (e_cons (e_var rfl) e_nil) en_k) (by rw [List.length_range, rk]; exact small_lim hk2) (fun t ht => ?_) rfl) e_nil) ?_
      · have ht := List.mem_range.mp ht
        have hr2 := gb.k _ (getD_row (a := b) (j := t) (by omega))
        refine ⟨_, [.va (tR a), .va (tR b), .ow (.lst acc), .va (rT r), .va (.int j), .va (.int t), .va (.int (r.getD t 0))], rfl, ?_, rfl⟩
        exact e_lft (e_cons (e_var rfl) (e_cons (e_bin (e_bin (e_var rfl) (e_var rfl) (at_rows (a := b) (j := t) (by omega))) (e_var rfl) (at_ints (a := b.getD t []) (j := j) (by omega))) e_nil)) max_k2
      · rw [dints_map, rk]
        exact min_k (rng_ne hk)
    · rw [dints_map]
      unfold rmul
      rw [bw, bn]
      rfl
  obtain ⟨s, hgo⟩ := bt_go (a0 := tR a) (b0 := tR b) (P := P) (f := fun r => rT (rmul b r)) a [] .un body (by rw [ga.n]; simpa using small_lim hn2)
  refine r_rtq (N := 7) (k := b__law_b_times A) (z1 := ⟨[.va (tR a), .va (tR b), .va (.lst (a.map fun r => rT (rmul b r))), s, .un, .un, .un], P⟩) ?_ rfl
  unfold b__law_b_times
  refine e_seq (z1 := ⟨[.va (tR a), .va (tR b), .ow (.lst []), .un, .un, .un, .un], P⟩) (e_own (e_lft e_nil rfl)) (e_seq (e_for (e_lft (e_var rfl) rfl) hgo) (e_mret (e_lft (e_cons (e_varl (ds := a.map fun r => rT (rmul b r)) rfl) e_nil) ?_)))
  show some (D.tup (a.map fun r => rT (rmul b r))) = _
  unfold mm tR
  rw [List.map_map]
  rfl
theorem bproduct_k {n k m : Nat} {a b : Rw} {u v w x : Int} (ga : GR n k a) (gb : GR k m b) (hk : 0 < k) (hm : 0 < m) (hn2 : n ≤ 400) (hk2 : k ≤ 400) (hm2 : m ≤ 400) : f__law_b_product A [tD3 u v a, tD3 w x b] P = some (.ok (tD3 u x (mm a b)), P) := by
  apply r_rtq (N := 2) (k := b__law_b_product A)
  · unfold b__law_b_product
    repeat' (first | exact e_ret | exact e_nil | exact e_nx | exact e_yes | exact e_var rfl | exact e_pen rfl rfl | apply e_cons | apply e_lft | apply e_bin | apply e_mret | apply e_set | apply e_own | apply e_not | apply e_notV | apply e_drop | apply e_call | apply e_callK | apply e_meth | apply e_make | apply e_makeK | apply e_andV_t | apply e_chain_t | exact btimes_k ga gb hk hm hn2 hk2 hm2 | exact rfl)
  · rfl
theorem need_k {b c : Int} {a : Rw} {y : D} : f_need_matrix A [MD A b c a, y] P = some (.ok .non, P) := by
  refine r_nxq (N := 2) (k := b_need_matrix A) (z1 := ⟨[.va (MD A b c a), .va y], P⟩) ?_ rfl
  unfold b_need_matrix
  have hz := e_nx (z := z0 2 [MD A b c a, y] P)
  refine e_iff (e_not (b := true) ?_) hz
  apply ev
  repeat' (first | exact e_ret | exact e_nil | exact e_nx | exact e_yes | exact e_var rfl | exact e_pen rfl rfl | apply e_cons | apply e_lft | apply e_bin | apply e_mret | apply e_set | apply e_own | apply e_not | apply e_notV | apply e_drop | apply e_call | apply e_callK | apply e_meth | apply e_make | apply e_makeK | apply e_andV_t | apply e_chain_t | exact is_M | exact rfl)
theorem need_no {d y : D} (h : isiD tt_Matrix (to_Matrix A) d = some (.bl false)) : f_need_matrix A [d, y] P = some (.error ⟨A.c_BadValue, ["part"], [y]⟩, P) := by
  refine r_erq (N := 2) (k := b_need_matrix A) (z1 := ⟨[.va d, .va y], P⟩) ?_ rfl
  unfold b_need_matrix
  refine e_ift (z1 := ⟨[.va d, .va y], P⟩) (e_not (b := false) ?_) (e_raise (e_cons (e_var rfl) e_nil) rfl)
  apply ev
  repeat' (first | exact e_ret | exact e_nil | exact e_nx | exact e_yes | exact e_var rfl | exact e_pen rfl rfl | apply e_cons | apply e_lft | apply e_bin | apply e_mret | apply e_set | apply e_own | apply e_not | apply e_notV | apply e_drop | apply e_call | apply e_callK | apply e_meth | apply e_make | apply e_makeK | apply e_andV_t | apply e_chain_t | exact h | exact rfl)
theorem product_no1 {d e : D} (h : isiD tt_Matrix (to_Matrix A) d = some (.bl false)) : f_product A [d, e] P = some (.error ⟨A.c_BadValue, ["part"], [.str "one"]⟩, P) := by
  refine r_erq (N := 2) (k := b_product A) (z1 := ⟨[.va d, .va e], P⟩) ?_ rfl
  unfold b_product
  exact e_seq_er (e_drop_er (e_call (z1 := ⟨[.va d, .va e], P⟩) (e_cons (e_var rfl) (e_cons e_ret e_nil)) (need_no h)))
theorem product_no2 {d : D} {b c : Int} {a : Rw} (h : isiD tt_Matrix (to_Matrix A) d = some (.bl false)) : f_product A [MD A b c a, d] P = some (.error ⟨A.c_BadValue, ["part"], [.str "other"]⟩, P) := by
  refine r_erq (N := 2) (k := b_product A) (z1 := ⟨[.va (MD A b c a), .va d], P⟩) ?_ rfl
  unfold b_product
  exact e_seq (z1 := ⟨[.va (MD A b c a), .va d], P⟩) (e_drop (e_call (z1 := ⟨[.va (MD A b c a), .va d], P⟩) (e_cons (e_var rfl) (e_cons e_ret e_nil)) need_k)) (e_seq_er (e_drop_er (e_call (z1 := ⟨[.va (MD A b c a), .va d], P⟩) (e_cons (e_var rfl) (e_cons e_ret e_nil)) (need_no h))))
theorem product_mis {u v w x : Int} {n k k2 m : Nat} {a b : Rw} (ga : GR n k a) (hn : 0 < n) (hb : b.length = k2) (h : v ≠ w ∨ k ≠ k2) : f_product A [MD A u v a, MD A w x b] P = some (.error ⟨A.c_Misfit, ["part"], [.str "other"]⟩, P) := by
  have wh := ga.k _ (head_mem ga hn)
  refine r_erq (N := 2) (k := b_product A) (z1 := ⟨[.va (MD A u v a), .va (MD A w x b)], P⟩) ?_ rfl
  unfold b_product
  refine e_seq (z1 := ⟨[.va (MD A u v a), .va (MD A w x b)], P⟩) (e_drop (e_call (z1 := ⟨[.va (MD A u v a), .va (MD A w x b)], P⟩) (e_cons (e_var rfl) (e_cons e_ret e_nil)) need_k)) (e_seq (z1 := ⟨[.va (MD A u v a), .va (MD A w x b)], P⟩) (e_drop (e_call (z1 := ⟨[.va (MD A u v a), .va (MD A w x b)], P⟩) (e_cons (e_var rfl) (e_cons e_ret e_nil)) need_k)) (e_seq_er (e_ift (z1 := ⟨[.va (MD A u v a), .va (MD A w x b)], P⟩) ?_ (e_raise (e_cons e_ret e_nil) rfl))))
  by_cases hv : v = w
  · have hk : k ≠ k2 := h.resolve_left fun z => z hv
    refine e_or_f (z1 := ⟨[.va (MD A u v a), .va (MD A w x b)], P⟩) (e_lft (b := false) (e_bin (e_lft (e_var rfl) fld_behind) (e_lft (e_var rfl) fld_before) (ne_kf hv)) rfl) ?_
    exact e_lft (e_bin (e_lft (e_cons (e_bin (e_lft (e_var rfl) fld_rows) e_ret (rows0 ga hn)) e_nil) (rw_len true _)) (e_lft (e_cons (e_lft (e_var rfl) fld_rows) e_nil) (rws_len true b)) (ne_k (by rw [wh, hb]; omega))) rfl
  · exact e_or_t (e_lft (e_bin (e_lft (e_var rfl) fld_behind) (e_lft (e_var rfl) fld_before) (ne_k hv)) rfl)
theorem product_k {u v x : Int} {n k m : Nat} {a b : Rw} (ga : GR n k a) (gb : GR k m b) (hn : 0 < n) (hk : 0 < k) (hm : 0 < m) (hn2 : n ≤ 400) (hk2 : k ≤ 400) (hm2 : m ≤ 400) (hu : 0 ≤ u ∧ u ≤ 399) (hx : 0 ≤ x ∧ x ≤ 399) : f_product A [MD A u v a, MD A v x b] P = some (.ok (MD A u x (mm a b)), P) := by
  have wh := ga.k _ (head_mem ga hn)
  have bn := gb.n
  have both : f_behind_both A [MD A u v a, MD A v x b] P = some (.ok (MD A u x (mm a b)), P) := by
    refine r_rtq (N := 2) (k := b_behind_both A) (z1 := ⟨[.va (MD A u v a), .va (MD A v x b)], P⟩) ?_ rfl
    unfold b_behind_both
    refine e_mret (e_make (z1 := ⟨[.va (MD A u v a), .va (MD A v x b)], P⟩) (e_cons (e_lft (e_var rfl) fld_before) (e_cons (e_lft (e_var rfl) fld_behind) (e_cons (e_call (e_cons (e_lft (e_var rfl) fld_rows) (e_cons (e_lft (e_var rfl) fld_rows) e_nil)) (times_k ga gb hk hm hn2 hk2 hm2)) e_nil))) (init_k (b := true) (mm_good ga gb hk) hn hm hn2 hm2 hu hx))
  refine r_rtq (N := 2) (k := b_product A) (z1 := ⟨[.va (MD A u v a), .va (MD A v x b)], P⟩) ?_ rfl
  unfold b_product
  have hz := e_nx (z := ⟨[.va (MD A u v a), .va (MD A v x b)], P⟩)
  refine e_seq (z1 := ⟨[.va (MD A u v a), .va (MD A v x b)], P⟩) (e_drop (e_call (z1 := ⟨[.va (MD A u v a), .va (MD A v x b)], P⟩) (e_cons (e_var rfl) (e_cons e_ret e_nil)) need_k)) (e_seq (z1 := ⟨[.va (MD A u v a), .va (MD A v x b)], P⟩) (e_drop (e_call (z1 := ⟨[.va (MD A u v a), .va (MD A v x b)], P⟩) (e_cons (e_var rfl) (e_cons e_ret e_nil)) need_k)) (e_seq (e_iff (z1 := ⟨[.va (MD A u v a), .va (MD A v x b)], P⟩) ?_ hz) (e_mret (e_call (z1 := ⟨[.va (MD A u v a), .va (MD A v x b)], P⟩) (e_cons (e_var rfl) (e_cons (e_var rfl) e_nil)) both))))
  refine e_or_f (z1 := ⟨[.va (MD A u v a), .va (MD A v x b)], P⟩) (e_lft (b := false) (e_bin (e_lft (e_var rfl) fld_behind) (e_lft (e_var rfl) fld_before) (ne_kf rfl)) rfl) ?_
  exact e_lft (e_bin (e_lft (e_cons (e_bin (e_lft (e_var rfl) fld_rows) e_ret (rows0 ga hn)) e_nil) (rw_len true _)) (e_lft (e_cons (e_lft (e_var rfl) fld_rows) e_nil) (rws_len true b)) (ne_kf (by rw [wh, bn]))) rfl
theorem lists_int {i : Int} {fu : Nat} : f__law_b_lists A (fu + 1) [.int i] P = some (.ok (.int i), P) := by
  unfold f__law_b_lists
  exact r_rtq (z1 := ⟨[.va (.int i), .un], P⟩) (e_mret (e_iff (z1 := ⟨[.va (.int i), .un], P⟩) (e_lft (e_lft (e_var rfl) rfl) rfl) (e_var rfl))) rfl
theorem lists_row {r : List Int} {fu : Nat} (h : r.length ≤ 400) : f__law_b_lists A (fu + 2) [rT r] P = some (.ok (rL r), P) := by
  unfold f__law_b_lists
  refine r_rtq (z1 := ⟨[.va (rT r), .un], P⟩) (e_mret (e_ift (z1 := ⟨[.va (rT r), .un], P⟩) (e_lft (e_lft (e_var rfl) rfl) rfl) (e_lc_mg (S3 := [.va (rT r), .un]) (l := r) (g := D.int) D.int (e_lft (e_var rfl) rfl) (small_lim h) (fun x hx => ?_) rfl))) rfl
  exact ⟨_, [.va (rT r), .va (.int x)], rfl, e_call (e_cons (e_var rfl) e_nil) lists_int, rfl⟩
theorem lists_k {n k : Nat} {a : Rw} (g : GR n k a) (hn2 : n ≤ 400) (hk2 : k ≤ 400) : f__law_b_lists A 4 [tR a] P = some (.ok (lR a), P) := by
  unfold f__law_b_lists
  refine r_rtq (z1 := ⟨[.va (tR a), .un], P⟩) (e_mret (e_ift (z1 := ⟨[.va (tR a), .un], P⟩) (e_lft (e_lft (e_var rfl) rfl) rfl) (e_lc_mg (S3 := [.va (tR a), .un]) (l := a) (g := rT) rL (e_lft (e_var rfl) rfl) (by rw [g.n]; exact small_lim hn2) (fun x hx => ?_) rfl))) rfl
  exact ⟨_, [.va (tR a), .va (rT x)], rfl, e_call (e_cons (e_var rfl) e_nil) (lists_row (by rw [g.k x hx]; exact hk2)), rfl⟩
end
end K25

-- L25c
set_option maxHeartbeats 400000
/-! L25c: errors heard -/
namespace K25
open PySem PySem.Spec PyProof.Rows L2 DL
theorem isx_of {cs : List (Addr × Bool)} {φ : Addr → Option Bool} (h : ∀ p ∈ cs, φ p.1 = some p.2) {C : Addr} {b : Bool} (hm : (C, b) ∈ cs) {ns : List Str} {ds : List D} : isiX cs (.exc C ns ds) = some (.bl b) := by
  show (cs.lookup C).map D.bl = _
  rw [look_of h hm]
  rfl
theorem fx_Misfit {A : Ad} {w : Str} : fldX (xc_part A) "part" (.exc A.c_Misfit ["part"] [.str w]) = some (.str w) := by
  show (if A.c_Misfit ∈ xc_part A then _ else _) = _
  rw [if_pos (by simp [xc_part])]
  rfl
theorem heard_Misfit {P : Program} {K : PySem.W.Frag} {mg : Str → Option Value} {A : Ad} (T : Tx P K mg A) {w : Str} {z z1 : Z} {m : M D} (h : m z = some (.error ⟨A.c_Misfit, ["part"], [.str w]⟩, z1)) : mHeard (hc A) N__law_ho_heard.length (h_rest A) m z = some (.ok (.tup [.str "misfit", .str w]), z1) := by
  refine e_heard_er h (by simp [hc]) ?_
  show fin (h_rest A (zH 8 .non (.exc A.c_Misfit ["part"] [.str w]) z1.P)) = some (.ok (.tup [.str "misfit", .str w]), z1.P)
  generalize z1.P = P
  have hTooMany : isiX (xt_TooMany A) (.exc A.c_Misfit ["part"] [.str w]) = some (.bl false) := isx_of (φ := fun a => PySem.W.kitOne K (.ref a) (.ref A.c_TooMany)) (ix_TooMany T).1 (by simp [xt_TooMany])
  have hBadText : isiX (xt_BadText A) (.exc A.c_Misfit ["part"] [.str w]) = some (.bl false) := isx_of (φ := fun a => PySem.W.kitOne K (.ref a) (.ref A.c_BadText)) (ix_BadText T).1 (by simp [xt_BadText])
  have hBadName : isiX (xt_BadName A) (.exc A.c_Misfit ["part"] [.str w]) = some (.bl false) := isx_of (φ := fun a => PySem.W.kitOne K (.ref a) (.ref A.c_BadName)) (ix_BadName T).1 (by simp [xt_BadName])
  have hNoName : isiX (xt_NoName A) (.exc A.c_Misfit ["part"] [.str w]) = some (.bl false) := isx_of (φ := fun a => PySem.W.kitOne K (.ref a) (.ref A.c_NoName)) (ix_NoName T).1 (by simp [xt_NoName])
  have hNothing : isiX (xt_Nothing A) (.exc A.c_Misfit ["part"] [.str w]) = some (.bl false) := isx_of (φ := fun a => PySem.W.kitOne K (.ref a) (.ref A.c_Nothing)) (ix_Nothing T).1 (by simp [xt_Nothing])
  have hBadLine : isiX (xt_BadLine A) (.exc A.c_Misfit ["part"] [.str w]) = some (.bl false) := isx_of (φ := fun a => PySem.W.kitOne K (.ref a) (.ref A.c_BadLine)) (ix_BadLine T).1 (by simp [xt_BadLine])
  have hBadGrowth : isiX (xt_BadGrowth A) (.exc A.c_Misfit ["part"] [.str w]) = some (.bl false) := isx_of (φ := fun a => PySem.W.kitOne K (.ref a) (.ref A.c_BadGrowth)) (ix_BadGrowth T).1 (by simp [xt_BadGrowth])
  have hBadValue : isiX (xt_BadValue A) (.exc A.c_Misfit ["part"] [.str w]) = some (.bl false) := isx_of (φ := fun a => PySem.W.kitOne K (.ref a) (.ref A.c_BadValue)) (ix_BadValue T).1 (by simp [xt_BadValue])
  have hBadNumber : isiX (xt_BadNumber A) (.exc A.c_Misfit ["part"] [.str w]) = some (.bl false) := isx_of (φ := fun a => PySem.W.kitOne K (.ref a) (.ref A.c_BadNumber)) (ix_BadNumber T).1 (by simp [xt_BadNumber])
  have hBadWish : isiX (xt_BadWish A) (.exc A.c_Misfit ["part"] [.str w]) = some (.bl false) := isx_of (φ := fun a => PySem.W.kitOne K (.ref a) (.ref A.c_BadWish)) (ix_BadWish T).1 (by simp [xt_BadWish])
  have hBadPrices : isiX (xt_BadPrices A) (.exc A.c_Misfit ["part"] [.str w]) = some (.bl false) := isx_of (φ := fun a => PySem.W.kitOne K (.ref a) (.ref A.c_BadPrices)) (ix_BadPrices T).1 (by simp [xt_BadPrices])
  have hBadWorld : isiX (xt_BadWorld A) (.exc A.c_Misfit ["part"] [.str w]) = some (.bl false) := isx_of (φ := fun a => PySem.W.kitOne K (.ref a) (.ref A.c_BadWorld)) (ix_BadWorld T).1 (by simp [xt_BadWorld])
  have hBadPaper : isiX (xt_BadPaper A) (.exc A.c_Misfit ["part"] [.str w]) = some (.bl false) := isx_of (φ := fun a => PySem.W.kitOne K (.ref a) (.ref A.c_BadPaper)) (ix_BadPaper T).1 (by simp [xt_BadPaper])
  have hMisfit : isiX (xt_Misfit A) (.exc A.c_Misfit ["part"] [.str w]) = some (.bl true) := isx_of (φ := fun a => PySem.W.kitOne K (.ref a) (.ref A.c_Misfit)) (ix_Misfit T).1 (by simp [xt_Misfit])
  have q : h_rest A ⟨[.un, .va .non, .va (.exc A.c_Misfit ["part"] [.str w]), .un, .un, .un, .un, .un], P⟩ = some (.ok (.rt (.tup [.str "misfit", .str w])), ⟨[.un, .va .non, .va (.exc A.c_Misfit ["part"] [.str w]), .un, .va (.lst [.tup [.str "value", .bl false], .tup [.str "number", .bl false], .tup [.str "wish", .bl false], .tup [.str "prices", .bl false], .tup [.str "world", .bl false], .tup [.str "paper", .bl false], .tup [.str "misfit", .bl true]]), .va (.lst [.str "misfit"]), .un, .un], P⟩) := by
    unfold h_rest
    have hz := e_nx (z := ⟨[.un, .va .non, .va (.exc A.c_Misfit ["part"] [.str w]), .un, .un, .un, .un, .un], P⟩)
    refine e_seq (e_iff (e_lft (b := false) (e_bin (e_var rfl) e_ret rfl) rfl) hz) ?_
    refine e_seq (e_iff (e_lft (e_lft (e_var rfl) hTooMany) rfl) hz) ?_
    refine e_seq (e_iff (e_lft (e_lft (e_var rfl) hBadText) rfl) hz) ?_
    refine e_seq (e_iff (e_lft (e_lft (e_var rfl) hBadName) rfl) hz) ?_
    refine e_seq (e_iff (e_lft (e_lft (e_var rfl) hNoName) rfl) hz) ?_
    refine e_seq (e_iff (e_lft (e_lft (e_var rfl) hNothing) rfl) hz) ?_
    refine e_seq (e_iff (e_lft (e_lft (e_var rfl) hBadLine) rfl) hz) ?_
    refine e_seq (e_iff (e_lft (e_lft (e_var rfl) hBadGrowth) rfl) hz) ?_
    refine e_seq (z1 := ⟨[.un, .va .non, .va (.exc A.c_Misfit ["part"] [.str w]), .un, .va (.lst [.tup [.str "value", .bl false], .tup [.str "number", .bl false], .tup [.str "wish", .bl false], .tup [.str "prices", .bl false]]), .un, .un, .un], P⟩) ?_ ?_
    · have q4 : (mLft (mCons (mLft (mCons (ret (.str "value")) (mCons (mLft (mVar 2) (isiX (xt_BadValue A))) mNil)) mkTup) (mCons (mLft (mCons (ret (.str "number")) (mCons (mLft (mVar 2) (isiX (xt_BadNumber A))) mNil)) mkTup) (mCons (mLft (mCons (ret (.str "wish")) (mCons (mLft (mVar 2) (isiX (xt_BadWish A))) mNil)) mkTup) (mCons (mLft (mCons (ret (.str "prices")) (mCons (mLft (mVar 2) (isiX (xt_BadPrices A))) mNil)) mkTup) mNil)))) mkLst) ⟨[.un, .va .non, .va (.exc A.c_Misfit ["part"] [.str w]), .un, .un, .un, .un, .un], P⟩ = some (.ok (.lst [.tup [.str "value", .bl false], .tup [.str "number", .bl false], .tup [.str "wish", .bl false], .tup [.str "prices", .bl false]]), ⟨[.un, .va .non, .va (.exc A.c_Misfit ["part"] [.str w]), .un, .un, .un, .un, .un], P⟩) := by
        apply ev
        repeat' (first | exact e_ret | exact e_nil | exact e_nx | exact e_yes | exact e_var rfl | exact e_pen rfl rfl | apply e_cons | apply e_lft | apply e_bin | apply e_mret | apply e_set | apply e_own | apply e_not | apply e_notV | apply e_drop | apply e_call | apply e_callK | apply e_meth | apply e_make | apply e_makeK | apply e_andV_t | apply e_chain_t | exact hBadValue | exact hBadNumber | exact hBadWish | exact hBadPrices | exact rfl)
      exact e_set q4
    refine e_seq (z1 := ⟨[.un, .va .non, .va (.exc A.c_Misfit ["part"] [.str w]), .un, .va (.lst [.tup [.str "value", .bl false], .tup [.str "number", .bl false], .tup [.str "wish", .bl false], .tup [.str "prices", .bl false], .tup [.str "world", .bl false], .tup [.str "paper", .bl false], .tup [.str "misfit", .bl true]]), .un, .un, .un], P⟩) ?_ ?_
    · have q4 : (mBin addD (mVar 4) (mLft (mCons (mLft (mCons (ret (.str "world")) (mCons (mLft (mVar 2) (isiX (xt_BadWorld A))) mNil)) mkTup) (mCons (mLft (mCons (ret (.str "paper")) (mCons (mLft (mVar 2) (isiX (xt_BadPaper A))) mNil)) mkTup) (mCons (mLft (mCons (ret (.str "misfit")) (mCons (mLft (mVar 2) (isiX (xt_Misfit A))) mNil)) mkTup) mNil))) mkLst)) ⟨[.un, .va .non, .va (.exc A.c_Misfit ["part"] [.str w]), .un, .va (.lst [.tup [.str "value", .bl false], .tup [.str "number", .bl false], .tup [.str "wish", .bl false], .tup [.str "prices", .bl false]]), .un, .un, .un], P⟩ = some (.ok (.lst [.tup [.str "value", .bl false], .tup [.str "number", .bl false], .tup [.str "wish", .bl false], .tup [.str "prices", .bl false], .tup [.str "world", .bl false], .tup [.str "paper", .bl false], .tup [.str "misfit", .bl true]]), ⟨[.un, .va .non, .va (.exc A.c_Misfit ["part"] [.str w]), .un, .va (.lst [.tup [.str "value", .bl false], .tup [.str "number", .bl false], .tup [.str "wish", .bl false], .tup [.str "prices", .bl false]]), .un, .un, .un], P⟩) := by
        apply ev
        repeat' (first | exact e_ret | exact e_nil | exact e_nx | exact e_yes | exact e_var rfl | exact e_pen rfl rfl | apply e_cons | apply e_lft | apply e_bin | apply e_mret | apply e_set | apply e_own | apply e_not | apply e_notV | apply e_drop | apply e_call | apply e_callK | apply e_meth | apply e_make | apply e_makeK | apply e_andV_t | apply e_chain_t | exact hBadWorld | exact hBadPaper | exact hMisfit | exact rfl)
      exact e_set q4
    have q5 : lcGo [6, 7] (setTup 2 (setCons (setV 6) (setCons (setV 7) setNil))) (mLft (mVar 7) truD) (mVar 6) [.tup [.str "value", .bl false], .tup [.str "number", .bl false], .tup [.str "wish", .bl false], .tup [.str "prices", .bl false], .tup [.str "world", .bl false], .tup [.str "paper", .bl false], .tup [.str "misfit", .bl true]] [] ⟨[.un, .va .non, .va (.exc A.c_Misfit ["part"] [.str w]), .un, .va (.lst [.tup [.str "value", .bl false], .tup [.str "number", .bl false], .tup [.str "wish", .bl false], .tup [.str "prices", .bl false], .tup [.str "world", .bl false], .tup [.str "paper", .bl false], .tup [.str "misfit", .bl true]]), .un, .un, .un], P⟩ = some ([.str "misfit"], ⟨[.un, .va .non, .va (.exc A.c_Misfit ["part"] [.str w]), .un, .va (.lst [.tup [.str "value", .bl false], .tup [.str "number", .bl false], .tup [.str "wish", .bl false], .tup [.str "prices", .bl false], .tup [.str "world", .bl false], .tup [.str "paper", .bl false], .tup [.str "misfit", .bl true]]), .un, .un, .un], P⟩) := by
      refine lc_f (z1 := ⟨[.un, .va .non, .va (.exc A.c_Misfit ["part"] [.str w]), .un, .va (.lst [.tup [.str "value", .bl false], .tup [.str "number", .bl false], .tup [.str "wish", .bl false], .tup [.str "prices", .bl false], .tup [.str "world", .bl false], .tup [.str "paper", .bl false], .tup [.str "misfit", .bl true]]), .un, .va (.str "value"), .va (.bl false)], P⟩) (z2 := ⟨[.un, .va .non, .va (.exc A.c_Misfit ["part"] [.str w]), .un, .va (.lst [.tup [.str "value", .bl false], .tup [.str "number", .bl false], .tup [.str "wish", .bl false], .tup [.str "prices", .bl false], .tup [.str "world", .bl false], .tup [.str "paper", .bl false], .tup [.str "misfit", .bl true]]), .un, .va (.str "value"), .va (.bl false)], P⟩) rfl (e_lft (e_var rfl) rfl) ?_
      refine lc_f (z1 := ⟨[.un, .va .non, .va (.exc A.c_Misfit ["part"] [.str w]), .un, .va (.lst [.tup [.str "value", .bl false], .tup [.str "number", .bl false], .tup [.str "wish", .bl false], .tup [.str "prices", .bl false], .tup [.str "world", .bl false], .tup [.str "paper", .bl false], .tup [.str "misfit", .bl true]]), .un, .va (.str "number"), .va (.bl false)], P⟩) (z2 := ⟨[.un, .va .non, .va (.exc A.c_Misfit ["part"] [.str w]), .un, .va (.lst [.tup [.str "value", .bl false], .tup [.str "number", .bl false], .tup [.str "wish", .bl false], .tup [.str "prices", .bl false], .tup [.str "world", .bl false], .tup [.str "paper", .bl false], .tup [.str "misfit", .bl true]]), .un, .va (.str "number"), .va (.bl false)], P⟩) rfl (e_lft (e_var rfl) rfl) ?_
      refine lc_f (z1 := ⟨[.un, .va .non, .va (.exc A.c_Misfit ["part"] [.str w]), .un, .va (.lst [.tup [.str "value", .bl false], .tup [.str "number", .bl false], .tup [.str "wish", .bl false], .tup [.str "prices", .bl false], .tup [.str "world", .bl false], .tup [.str "paper", .bl false], .tup [.str "misfit", .bl true]]), .un, .va (.str "wish"), .va (.bl false)], P⟩) (z2 := ⟨[.un, .va .non, .va (.exc A.c_Misfit ["part"] [.str w]), .un, .va (.lst [.tup [.str "value", .bl false], .tup [.str "number", .bl false], .tup [.str "wish", .bl false], .tup [.str "prices", .bl false], .tup [.str "world", .bl false], .tup [.str "paper", .bl false], .tup [.str "misfit", .bl true]]), .un, .va (.str "wish"), .va (.bl false)], P⟩) rfl (e_lft (e_var rfl) rfl) ?_
      refine lc_f (z1 := ⟨[.un, .va .non, .va (.exc A.c_Misfit ["part"] [.str w]), .un, .va (.lst [.tup [.str "value", .bl false], .tup [.str "number", .bl false], .tup [.str "wish", .bl false], .tup [.str "prices", .bl false], .tup [.str "world", .bl false], .tup [.str "paper", .bl false], .tup [.str "misfit", .bl true]]), .un, .va (.str "prices"), .va (.bl false)], P⟩) (z2 := ⟨[.un, .va .non, .va (.exc A.c_Misfit ["part"] [.str w]), .un, .va (.lst [.tup [.str "value", .bl false], .tup [.str "number", .bl false], .tup [.str "wish", .bl false], .tup [.str "prices", .bl false], .tup [.str "world", .bl false], .tup [.str "paper", .bl false], .tup [.str "misfit", .bl true]]), .un, .va (.str "prices"), .va (.bl false)], P⟩) rfl (e_lft (e_var rfl) rfl) ?_
      refine lc_f (z1 := ⟨[.un, .va .non, .va (.exc A.c_Misfit ["part"] [.str w]), .un, .va (.lst [.tup [.str "value", .bl false], .tup [.str "number", .bl false], .tup [.str "wish", .bl false], .tup [.str "prices", .bl false], .tup [.str "world", .bl false], .tup [.str "paper", .bl false], .tup [.str "misfit", .bl true]]), .un, .va (.str "world"), .va (.bl false)], P⟩) (z2 := ⟨[.un, .va .non, .va (.exc A.c_Misfit ["part"] [.str w]), .un, .va (.lst [.tup [.str "value", .bl false], .tup [.str "number", .bl false], .tup [.str "wish", .bl false], .tup [.str "prices", .bl false], .tup [.str "world", .bl false], .tup [.str "paper", .bl false], .tup [.str "misfit", .bl true]]), .un, .va (.str "world"), .va (.bl false)], P⟩) rfl (e_lft (e_var rfl) rfl) ?_
      refine lc_f (z1 := ⟨[.un, .va .non, .va (.exc A.c_Misfit ["part"] [.str w]), .un, .va (.lst [.tup [.str "value", .bl false], .tup [.str "number", .bl false], .tup [.str "wish", .bl false], .tup [.str "prices", .bl false], .tup [.str "world", .bl false], .tup [.str "paper", .bl false], .tup [.str "misfit", .bl true]]), .un, .va (.str "paper"), .va (.bl false)], P⟩) (z2 := ⟨[.un, .va .non, .va (.exc A.c_Misfit ["part"] [.str w]), .un, .va (.lst [.tup [.str "value", .bl false], .tup [.str "number", .bl false], .tup [.str "wish", .bl false], .tup [.str "prices", .bl false], .tup [.str "world", .bl false], .tup [.str "paper", .bl false], .tup [.str "misfit", .bl true]]), .un, .va (.str "paper"), .va (.bl false)], P⟩) rfl (e_lft (e_var rfl) rfl) ?_
      refine lc_t (z1 := ⟨[.un, .va .non, .va (.exc A.c_Misfit ["part"] [.str w]), .un, .va (.lst [.tup [.str "value", .bl false], .tup [.str "number", .bl false], .tup [.str "wish", .bl false], .tup [.str "prices", .bl false], .tup [.str "world", .bl false], .tup [.str "paper", .bl false], .tup [.str "misfit", .bl true]]), .un, .va (.str "misfit"), .va (.bl true)], P⟩) (z2 := ⟨[.un, .va .non, .va (.exc A.c_Misfit ["part"] [.str w]), .un, .va (.lst [.tup [.str "value", .bl false], .tup [.str "number", .bl false], .tup [.str "wish", .bl false], .tup [.str "prices", .bl false], .tup [.str "world", .bl false], .tup [.str "paper", .bl false], .tup [.str "misfit", .bl true]]), .un, .va (.str "misfit"), .va (.bl true)], P⟩) (z3 := ⟨[.un, .va .non, .va (.exc A.c_Misfit ["part"] [.str w]), .un, .va (.lst [.tup [.str "value", .bl false], .tup [.str "number", .bl false], .tup [.str "wish", .bl false], .tup [.str "prices", .bl false], .tup [.str "world", .bl false], .tup [.str "paper", .bl false], .tup [.str "misfit", .bl true]]), .un, .va (.str "misfit"), .va (.bl true)], P⟩) (y := .str "misfit") rfl (e_lft (e_var rfl) rfl) (e_var rfl) (by decide) ?_
      exact lc_0
    refine e_seq (z1 := ⟨[.un, .va .non, .va (.exc A.c_Misfit ["part"] [.str w]), .un, .va (.lst [.tup [.str "value", .bl false], .tup [.str "number", .bl false], .tup [.str "wish", .bl false], .tup [.str "prices", .bl false], .tup [.str "world", .bl false], .tup [.str "paper", .bl false], .tup [.str "misfit", .bl true]]), .va (.lst [.str "misfit"]), .un, .un], P⟩) (e_set (d := .lst [.str "misfit"]) (z1 := ⟨[.un, .va .non, .va (.exc A.c_Misfit ["part"] [.str w]), .un, .va (.lst [.tup [.str "value", .bl false], .tup [.str "number", .bl false], .tup [.str "wish", .bl false], .tup [.str "prices", .bl false], .tup [.str "world", .bl false], .tup [.str "paper", .bl false], .tup [.str "misfit", .bl true]]), .un, .un, .un], P⟩) (e_lc_go (z1 := ⟨[.un, .va .non, .va (.exc A.c_Misfit ["part"] [.str w]), .un, .va (.lst [.tup [.str "value", .bl false], .tup [.str "number", .bl false], .tup [.str "wish", .bl false], .tup [.str "prices", .bl false], .tup [.str "world", .bl false], .tup [.str "paper", .bl false], .tup [.str "misfit", .bl true]]), .un, .un, .un], P⟩) (z2 := ⟨[.un, .va .non, .va (.exc A.c_Misfit ["part"] [.str w]), .un, .va (.lst [.tup [.str "value", .bl false], .tup [.str "number", .bl false], .tup [.str "wish", .bl false], .tup [.str "prices", .bl false], .tup [.str "world", .bl false], .tup [.str "paper", .bl false], .tup [.str "misfit", .bl true]]), .un, .un, .un], P⟩) (e_lft (e_var rfl) rfl) q5)) ?_
    refine e_mret (e_ift (z1 := ⟨[.un, .va .non, .va (.exc A.c_Misfit ["part"] [.str w]), .un, .va (.lst [.tup [.str "value", .bl false], .tup [.str "number", .bl false], .tup [.str "wish", .bl false], .tup [.str "prices", .bl false], .tup [.str "world", .bl false], .tup [.str "paper", .bl false], .tup [.str "misfit", .bl true]]), .va (.lst [.str "misfit"]), .un, .un], P⟩) (e_lft (e_bin (e_lft (e_cons (e_var rfl) e_nil) rfl) e_ret (eq_k rfl)) rfl) (e_lft (e_cons (e_bin (e_var rfl) e_ret (at_nat (j := 0) rfl)) (e_cons (e_lft (e_var rfl) fx_Misfit) e_nil)) rfl))
  show fin (h_rest A ⟨[.un, .va .non, .va (.exc A.c_Misfit ["part"] [.str w]), .un, .un, .un, .un, .un], P⟩) = _
  rw [q]
  rfl

theorem fx_BadValue {A : Ad} {w : Str} : fldX (xc_part A) "part" (.exc A.c_BadValue ["part"] [.str w]) = some (.str w) := by
  show (if A.c_BadValue ∈ xc_part A then _ else _) = _
  rw [if_pos (by simp [xc_part])]
  rfl
theorem heard_BadValue {P : Program} {K : PySem.W.Frag} {mg : Str → Option Value} {A : Ad} (T : Tx P K mg A) {w : Str} {z z1 : Z} {m : M D} (h : m z = some (.error ⟨A.c_BadValue, ["part"], [.str w]⟩, z1)) : mHeard (hc A) N__law_ho_heard.length (h_rest A) m z = some (.ok (.tup [.str "value", .str w]), z1) := by
  refine e_heard_er h (by simp [hc]) ?_
  show fin (h_rest A (zH 8 .non (.exc A.c_BadValue ["part"] [.str w]) z1.P)) = some (.ok (.tup [.str "value", .str w]), z1.P)
  generalize z1.P = P
  have hTooMany : isiX (xt_TooMany A) (.exc A.c_BadValue ["part"] [.str w]) = some (.bl false) := isx_of (φ := fun a => PySem.W.kitOne K (.ref a) (.ref A.c_TooMany)) (ix_TooMany T).1 (by simp [xt_TooMany])
  have hBadText : isiX (xt_BadText A) (.exc A.c_BadValue ["part"] [.str w]) = some (.bl false) := isx_of (φ := fun a => PySem.W.kitOne K (.ref a) (.ref A.c_BadText)) (ix_BadText T).1 (by simp [xt_BadText])
  have hBadName : isiX (xt_BadName A) (.exc A.c_BadValue ["part"] [.str w]) = some (.bl false) := isx_of (φ := fun a => PySem.W.kitOne K (.ref a) (.ref A.c_BadName)) (ix_BadName T).1 (by simp [xt_BadName])
  have hNoName : isiX (xt_NoName A) (.exc A.c_BadValue ["part"] [.str w]) = some (.bl false) := isx_of (φ := fun a => PySem.W.kitOne K (.ref a) (.ref A.c_NoName)) (ix_NoName T).1 (by simp [xt_NoName])
  have hNothing : isiX (xt_Nothing A) (.exc A.c_BadValue ["part"] [.str w]) = some (.bl false) := isx_of (φ := fun a => PySem.W.kitOne K (.ref a) (.ref A.c_Nothing)) (ix_Nothing T).1 (by simp [xt_Nothing])
  have hBadLine : isiX (xt_BadLine A) (.exc A.c_BadValue ["part"] [.str w]) = some (.bl false) := isx_of (φ := fun a => PySem.W.kitOne K (.ref a) (.ref A.c_BadLine)) (ix_BadLine T).1 (by simp [xt_BadLine])
  have hBadGrowth : isiX (xt_BadGrowth A) (.exc A.c_BadValue ["part"] [.str w]) = some (.bl false) := isx_of (φ := fun a => PySem.W.kitOne K (.ref a) (.ref A.c_BadGrowth)) (ix_BadGrowth T).1 (by simp [xt_BadGrowth])
  have hBadValue : isiX (xt_BadValue A) (.exc A.c_BadValue ["part"] [.str w]) = some (.bl true) := isx_of (φ := fun a => PySem.W.kitOne K (.ref a) (.ref A.c_BadValue)) (ix_BadValue T).1 (by simp [xt_BadValue])
  have hBadNumber : isiX (xt_BadNumber A) (.exc A.c_BadValue ["part"] [.str w]) = some (.bl false) := isx_of (φ := fun a => PySem.W.kitOne K (.ref a) (.ref A.c_BadNumber)) (ix_BadNumber T).1 (by simp [xt_BadNumber])
  have hBadWish : isiX (xt_BadWish A) (.exc A.c_BadValue ["part"] [.str w]) = some (.bl false) := isx_of (φ := fun a => PySem.W.kitOne K (.ref a) (.ref A.c_BadWish)) (ix_BadWish T).1 (by simp [xt_BadWish])
  have hBadPrices : isiX (xt_BadPrices A) (.exc A.c_BadValue ["part"] [.str w]) = some (.bl false) := isx_of (φ := fun a => PySem.W.kitOne K (.ref a) (.ref A.c_BadPrices)) (ix_BadPrices T).1 (by simp [xt_BadPrices])
  have hBadWorld : isiX (xt_BadWorld A) (.exc A.c_BadValue ["part"] [.str w]) = some (.bl false) := isx_of (φ := fun a => PySem.W.kitOne K (.ref a) (.ref A.c_BadWorld)) (ix_BadWorld T).1 (by simp [xt_BadWorld])
  have hBadPaper : isiX (xt_BadPaper A) (.exc A.c_BadValue ["part"] [.str w]) = some (.bl false) := isx_of (φ := fun a => PySem.W.kitOne K (.ref a) (.ref A.c_BadPaper)) (ix_BadPaper T).1 (by simp [xt_BadPaper])
  have hMisfit : isiX (xt_Misfit A) (.exc A.c_BadValue ["part"] [.str w]) = some (.bl false) := isx_of (φ := fun a => PySem.W.kitOne K (.ref a) (.ref A.c_Misfit)) (ix_Misfit T).1 (by simp [xt_Misfit])
  have q : h_rest A ⟨[.un, .va .non, .va (.exc A.c_BadValue ["part"] [.str w]), .un, .un, .un, .un, .un], P⟩ = some (.ok (.rt (.tup [.str "value", .str w])), ⟨[.un, .va .non, .va (.exc A.c_BadValue ["part"] [.str w]), .un, .va (.lst [.tup [.str "value", .bl true], .tup [.str "number", .bl false], .tup [.str "wish", .bl false], .tup [.str "prices", .bl false], .tup [.str "world", .bl false], .tup [.str "paper", .bl false], .tup [.str "misfit", .bl false]]), .va (.lst [.str "value"]), .un, .un], P⟩) := by
    unfold h_rest
    have hz := e_nx (z := ⟨[.un, .va .non, .va (.exc A.c_BadValue ["part"] [.str w]), .un, .un, .un, .un, .un], P⟩)
    refine e_seq (e_iff (e_lft (b := false) (e_bin (e_var rfl) e_ret rfl) rfl) hz) ?_
    refine e_seq (e_iff (e_lft (e_lft (e_var rfl) hTooMany) rfl) hz) ?_
    refine e_seq (e_iff (e_lft (e_lft (e_var rfl) hBadText) rfl) hz) ?_
    refine e_seq (e_iff (e_lft (e_lft (e_var rfl) hBadName) rfl) hz) ?_
    refine e_seq (e_iff (e_lft (e_lft (e_var rfl) hNoName) rfl) hz) ?_
    refine e_seq (e_iff (e_lft (e_lft (e_var rfl) hNothing) rfl) hz) ?_
    refine e_seq (e_iff (e_lft (e_lft (e_var rfl) hBadLine) rfl) hz) ?_
    refine e_seq (e_iff (e_lft (e_lft (e_var rfl) hBadGrowth) rfl) hz) ?_
    refine e_seq (z1 := ⟨[.un, .va .non, .va (.exc A.c_BadValue ["part"] [.str w]), .un, .va (.lst [.tup [.str "value", .bl true], .tup [.str "number", .bl false], .tup [.str "wish", .bl false], .tup [.str "prices", .bl false]]), .un, .un, .un], P⟩) ?_ ?_
    · have q4 : (mLft (mCons (mLft (mCons (ret (.str "value")) (mCons (mLft (mVar 2) (isiX (xt_BadValue A))) mNil)) mkTup) (mCons (mLft (mCons (ret (.str "number")) (mCons (mLft (mVar 2) (isiX (xt_BadNumber A))) mNil)) mkTup) (mCons (mLft (mCons (ret (.str "wish")) (mCons (mLft (mVar 2) (isiX (xt_BadWish A))) mNil)) mkTup) (mCons (mLft (mCons (ret (.str "prices")) (mCons (mLft (mVar 2) (isiX (xt_BadPrices A))) mNil)) mkTup) mNil)))) mkLst) ⟨[.un, .va .non, .va (.exc A.c_BadValue ["part"] [.str w]), .un, .un, .un, .un, .un], P⟩ = some (.ok (.lst [.tup [.str "value", .bl true], .tup [.str "number", .bl false], .tup [.str "wish", .bl false], .tup [.str "prices", .bl false]]), ⟨[.un, .va .non, .va (.exc A.c_BadValue ["part"] [.str w]), .un, .un, .un, .un, .un], P⟩) := by
        apply ev
        repeat' (first | exact e_ret | exact e_nil | exact e_nx | exact e_yes | exact e_var rfl | exact e_pen rfl rfl | apply e_cons | apply e_lft | apply e_bin | apply e_mret | apply e_set | apply e_own | apply e_not | apply e_notV | apply e_drop | apply e_call | apply e_callK | apply e_meth | apply e_make | apply e_makeK | apply e_andV_t | apply e_chain_t | exact hBadValue | exact hBadNumber | exact hBadWish | exact hBadPrices | exact rfl)
      exact e_set q4
    refine e_seq (z1 := ⟨[.un, .va .non, .va (.exc A.c_BadValue ["part"] [.str w]), .un, .va (.lst [.tup [.str "value", .bl true], .tup [.str "number", .bl false], .tup [.str "wish", .bl false], .tup [.str "prices", .bl false], .tup [.str "world", .bl false], .tup [.str "paper", .bl false], .tup [.str "misfit", .bl false]]), .un, .un, .un], P⟩) ?_ ?_
    · have q4 : (mBin addD (mVar 4) (mLft (mCons (mLft (mCons (ret (.str "world")) (mCons (mLft (mVar 2) (isiX (xt_BadWorld A))) mNil)) mkTup) (mCons (mLft (mCons (ret (.str "paper")) (mCons (mLft (mVar 2) (isiX (xt_BadPaper A))) mNil)) mkTup) (mCons (mLft (mCons (ret (.str "misfit")) (mCons (mLft (mVar 2) (isiX (xt_Misfit A))) mNil)) mkTup) mNil))) mkLst)) ⟨[.un, .va .non, .va (.exc A.c_BadValue ["part"] [.str w]), .un, .va (.lst [.tup [.str "value", .bl true], .tup [.str "number", .bl false], .tup [.str "wish", .bl false], .tup [.str "prices", .bl false]]), .un, .un, .un], P⟩ = some (.ok (.lst [.tup [.str "value", .bl true], .tup [.str "number", .bl false], .tup [.str "wish", .bl false], .tup [.str "prices", .bl false], .tup [.str "world", .bl false], .tup [.str "paper", .bl false], .tup [.str "misfit", .bl false]]), ⟨[.un, .va .non, .va (.exc A.c_BadValue ["part"] [.str w]), .un, .va (.lst [.tup [.str "value", .bl true], .tup [.str "number", .bl false], .tup [.str "wish", .bl false], .tup [.str "prices", .bl false]]), .un, .un, .un], P⟩) := by
        apply ev
        repeat' (first | exact e_ret | exact e_nil | exact e_nx | exact e_yes | exact e_var rfl | exact e_pen rfl rfl | apply e_cons | apply e_lft | apply e_bin | apply e_mret | apply e_set | apply e_own | apply e_not | apply e_notV | apply e_drop | apply e_call | apply e_callK | apply e_meth | apply e_make | apply e_makeK | apply e_andV_t | apply e_chain_t | exact hBadWorld | exact hBadPaper | exact hMisfit | exact rfl)
      exact e_set q4
    have q5 : lcGo [6, 7] (setTup 2 (setCons (setV 6) (setCons (setV 7) setNil))) (mLft (mVar 7) truD) (mVar 6) [.tup [.str "value", .bl true], .tup [.str "number", .bl false], .tup [.str "wish", .bl false], .tup [.str "prices", .bl false], .tup [.str "world", .bl false], .tup [.str "paper", .bl false], .tup [.str "misfit", .bl false]] [] ⟨[.un, .va .non, .va (.exc A.c_BadValue ["part"] [.str w]), .un, .va (.lst [.tup [.str "value", .bl true], .tup [.str "number", .bl false], .tup [.str "wish", .bl false], .tup [.str "prices", .bl false], .tup [.str "world", .bl false], .tup [.str "paper", .bl false], .tup [.str "misfit", .bl false]]), .un, .un, .un], P⟩ = some ([.str "value"], ⟨[.un, .va .non, .va (.exc A.c_BadValue ["part"] [.str w]), .un, .va (.lst [.tup [.str "value", .bl true], .tup [.str "number", .bl false], .tup [.str "wish", .bl false], .tup [.str "prices", .bl false], .tup [.str "world", .bl false], .tup [.str "paper", .bl false], .tup [.str "misfit", .bl false]]), .un, .un, .un], P⟩) := by
      refine lc_t (z1 := ⟨[.un, .va .non, .va (.exc A.c_BadValue ["part"] [.str w]), .un, .va (.lst [.tup [.str "value", .bl true], .tup [.str "number", .bl false], .tup [.str "wish", .bl false], .tup [.str "prices", .bl false], .tup [.str "world", .bl false], .tup [.str "paper", .bl false], .tup [.str "misfit", .bl false]]), .un, .va (.str "value"), .va (.bl true)], P⟩) (z2 := ⟨[.un, .va .non, .va (.exc A.c_BadValue ["part"] [.str w]), .un, .va (.lst [.tup [.str "value", .bl true], .tup [.str "number", .bl false], .tup [.str "wish", .bl false], .tup [.str "prices", .bl false], .tup [.str "world", .bl false], .tup [.str "paper", .bl false], .tup [.str "misfit", .bl false]]), .un, .va (.str "value"), .va (.bl true)], P⟩) (z3 := ⟨[.un, .va .non, .va (.exc A.c_BadValue ["part"] [.str w]), .un, .va (.lst [.tup [.str "value", .bl true], .tup [.str "number", .bl false], .tup [.str "wish", .bl false], .tup [.str "prices", .bl false], .tup [.str "world", .bl false], .tup [.str "paper", .bl false], .tup [.str "misfit", .bl false]]), .un, .va (.str "value"), .va (.bl true)], P⟩) (y := .str "value") rfl (e_lft (e_var rfl) rfl) (e_var rfl) (by decide) ?_
      refine lc_f (z1 := ⟨[.un, .va .non, .va (.exc A.c_BadValue ["part"] [.str w]), .un, .va (.lst [.tup [.str "value", .bl true], .tup [.str "number", .bl false], .tup [.str "wish", .bl false], .tup [.str "prices", .bl false], .tup [.str "world", .bl false], .tup [.str "paper", .bl false], .tup [.str "misfit", .bl false]]), .un, .va (.str "number"), .va (.bl false)], P⟩) (z2 := ⟨[.un, .va .non, .va (.exc A.c_BadValue ["part"] [.str w]), .un, .va (.lst [.tup [.str "value", .bl true], .tup [.str "number", .bl false], .tup [.str "wish", .bl false], .tup [.str "prices", .bl false], .tup [.str "world", .bl false], .tup [.str "paper", .bl false], .tup [.str "misfit", .bl false]]), .un, .va (.str "number"), .va (.bl false)], P⟩) rfl (e_lft (e_var rfl) rfl) ?_
      refine lc_f (z1 := ⟨[.un, .va .non, .va (.exc A.c_BadValue ["part"] [.str w]), .un, .va (.lst [.tup [.str "value", .bl true], .tup [.str "number", .bl false], .tup [.str "wish", .bl false], .tup [.str "prices", .bl false], .tup [.str "world", .bl false], .tup [.str "paper", .bl false], .tup [.str "misfit", .bl false]]), .un, .va (.str "wish"), .va (.bl false)], P⟩) (z2 := ⟨[.un, .va .non, .va (.exc A.c_BadValue ["part"] [.str w]), .un, .va (.lst [.tup [.str "value", .bl true], .tup [.str "number", .bl false], .tup [.str "wish", .bl false], .tup [.str "prices", .bl false], .tup [.str "world", .bl false], .tup [.str "paper", .bl false], .tup [.str "misfit", .bl false]]), .un, .va (.str "wish"), .va (.bl false)], P⟩) rfl (e_lft (e_var rfl) rfl) ?_
      refine lc_f (z1 := ⟨[.un, .va .non, .va (.exc A.c_BadValue ["part"] [.str w]), .un, .va (.lst [.tup [.str "value", .bl true], .tup [.str "number", .bl false], .tup [.str "wish", .bl false], .tup [.str "prices", .bl false], .tup [.str "world", .bl false], .tup [.str "paper", .bl false], .tup [.str "misfit", .bl false]]), .un, .va (.str "prices"), .va (.bl false)], P⟩) (z2 := ⟨[.un, .va .non, .va (.exc A.c_BadValue ["part"] [.str w]), .un, .va (.lst [.tup [.str "value", .bl true], .tup [.str "number", .bl false], .tup [.str "wish", .bl false], .tup [.str "prices", .bl false], .tup [.str "world", .bl false], .tup [.str "paper", .bl false], .tup [.str "misfit", .bl false]]), .un, .va (.str "prices"), .va (.bl false)], P⟩) rfl (e_lft (e_var rfl) rfl) ?_
      refine lc_f (z1 := ⟨[.un, .va .non, .va (.exc A.c_BadValue ["part"] [.str w]), .un, .va (.lst [.tup [.str "value", .bl true], .tup [.str "number", .bl false], .tup [.str "wish", .bl false], .tup [.str "prices", .bl false], .tup [.str "world", .bl false], .tup [.str "paper", .bl false], .tup [.str "misfit", .bl false]]), .un, .va (.str "world"), .va (.bl false)], P⟩) (z2 := ⟨[.un, .va .non, .va (.exc A.c_BadValue ["part"] [.str w]), .un, .va (.lst [.tup [.str "value", .bl true], .tup [.str "number", .bl false], .tup [.str "wish", .bl false], .tup [.str "prices", .bl false], .tup [.str "world", .bl false], .tup [.str "paper", .bl false], .tup [.str "misfit", .bl false]]), .un, .va (.str "world"), .va (.bl false)], P⟩) rfl (e_lft (e_var rfl) rfl) ?_
      refine lc_f (z1 := ⟨[.un, .va .non, .va (.exc A.c_BadValue ["part"] [.str w]), .un, .va (.lst [.tup [.str "value", .bl true], .tup [.str "number", .bl false], .tup [.str "wish", .bl false], .tup [.str "prices", .bl false], .tup [.str "world", .bl false], .tup [.str "paper", .bl false], .tup [.str "misfit", .bl false]]), .un, .va (.str "paper"), .va (.bl false)], P⟩) (z2 := ⟨[.un, .va .non, .va (.exc A.c_BadValue ["part"] [.str w]), .un, .va (.lst [.tup [.str "value", .bl true], .tup [.str "number", .bl false], .tup [.str "wish", .bl false], .tup [.str "prices", .bl false], .tup [.str "world", .bl false], .tup [.str "paper", .bl false], .tup [.str "misfit", .bl false]]), .un, .va (.str "paper"), .va (.bl false)], P⟩) rfl (e_lft (e_var rfl) rfl) ?_
      refine lc_f (z1 := ⟨[.un, .va .non, .va (.exc A.c_BadValue ["part"] [.str w]), .un, .va (.lst [.tup [.str "value", .bl true], .tup [.str "number", .bl false], .tup [.str "wish", .bl false], .tup [.str "prices", .bl false], .tup [.str "world", .bl false], .tup [.str "paper", .bl false], .tup [.str "misfit", .bl false]]), .un, .va (.str "misfit"), .va (.bl false)], P⟩) (z2 := ⟨[.un, .va .non, .va (.exc A.c_BadValue ["part"] [.str w]), .un, .va (.lst [.tup [.str "value", .bl true], .tup [.str "number", .bl false], .tup [.str "wish", .bl false], .tup [.str "prices", .bl false], .tup [.str "world", .bl false], .tup [.str "paper", .bl false], .tup [.str "misfit", .bl false]]), .un, .va (.str "misfit"), .va (.bl false)], P⟩) rfl (e_lft (e_var rfl) rfl) ?_
      exact lc_0
    refine e_seq (z1 := ⟨[.un, .va .non, .va (.exc A.c_BadValue ["part"] [.str w]), .un, .va (.lst [.tup [.str "value", .bl true], .tup [.str "number", .bl false], .tup [.str "wish", .bl false], .tup [.str "prices", .bl false], .tup [.str "world", .bl false], .tup [.str "paper", .bl false], .tup [.str "misfit", .bl false]]), .va (.lst [.str "value"]), .un, .un], P⟩) (e_set (d := .lst [.str "value"]) (z1 := ⟨[.un, .va .non, .va (.exc A.c_BadValue ["part"] [.str w]), .un, .va (.lst [.tup [.str "value", .bl true], .tup [.str "number", .bl false], .tup [.str "wish", .bl false], .tup [.str "prices", .bl false], .tup [.str "world", .bl false], .tup [.str "paper", .bl false], .tup [.str "misfit", .bl false]]), .un, .un, .un], P⟩) (e_lc_go (z1 := ⟨[.un, .va .non, .va (.exc A.c_BadValue ["part"] [.str w]), .un, .va (.lst [.tup [.str "value", .bl true], .tup [.str "number", .bl false], .tup [.str "wish", .bl false], .tup [.str "prices", .bl false], .tup [.str "world", .bl false], .tup [.str "paper", .bl false], .tup [.str "misfit", .bl false]]), .un, .un, .un], P⟩) (z2 := ⟨[.un, .va .non, .va (.exc A.c_BadValue ["part"] [.str w]), .un, .va (.lst [.tup [.str "value", .bl true], .tup [.str "number", .bl false], .tup [.str "wish", .bl false], .tup [.str "prices", .bl false], .tup [.str "world", .bl false], .tup [.str "paper", .bl false], .tup [.str "misfit", .bl false]]), .un, .un, .un], P⟩) (e_lft (e_var rfl) rfl) q5)) ?_
    refine e_mret (e_ift (z1 := ⟨[.un, .va .non, .va (.exc A.c_BadValue ["part"] [.str w]), .un, .va (.lst [.tup [.str "value", .bl true], .tup [.str "number", .bl false], .tup [.str "wish", .bl false], .tup [.str "prices", .bl false], .tup [.str "world", .bl false], .tup [.str "paper", .bl false], .tup [.str "misfit", .bl false]]), .va (.lst [.str "value"]), .un, .un], P⟩) (e_lft (e_bin (e_lft (e_cons (e_var rfl) e_nil) rfl) e_ret (eq_k rfl)) rfl) (e_lft (e_cons (e_bin (e_var rfl) e_ret (at_nat (j := 0) rfl)) (e_cons (e_lft (e_var rfl) fx_BadValue) e_nil)) rfl))
  show fin (h_rest A ⟨[.un, .va .non, .va (.exc A.c_BadValue ["part"] [.str w]), .un, .un, .un, .un, .un], P⟩) = _
  rw [q]
  rfl

end K25

-- L25d
set_option maxHeartbeats 1000000
/-! L25d: the rounds of law -/
namespace K25
open PySem PySem.Spec PyProof.Rows L2 DL
section
variable {A : Ad} {P : Pen} {n : Nat}
theorem pick_mem {xs : List D} (h0 : 0 < xs.length) (h1 : xs.length ≤ 400) (h : PG (n + 1) P) : ∃ d ∈ xs, ∃ P', f__law_pick A [.pen, .lst xs] P = some (.ok d, P') ∧ PG n P' := by
  obtain ⟨j, d, P', e, q, g⟩ := pick_ok h0 (Nat.lt_of_le_of_lt h1 (by decide)) h
  exact ⟨d, List.mem_of_getElem? q, P', e, g⟩
theorem pick_int {ns : List Int} (h0 : 0 < ns.length) (h1 : ns.length ≤ 400) (h : PG (n + 1) P) : ∃ x ∈ ns, ∃ P', f__law_pick A [.pen, .lst (intsD ns)] P = some (.ok (.int x), P') ∧ PG n P' := by
  obtain ⟨d, hd, P', e, g⟩ := pick_mem (A := A) (xs := intsD ns) (by rw [intsD_len]; exact h0) (by rw [intsD_len]; exact h1) h
  obtain ⟨x, hx, rfl⟩ := List.mem_map.mp hd
  exact ⟨x, hx, P', e, g⟩
def five : List (List Int) := [[0, 1, 2, 3], [0, 1, 3], [1, 3, 3], [0, 3], [1, 2, 3]]
theorem mx_ok {many wide : Nat} {b c : D} (h1 : many ≤ 400) (h2 : wide ≤ 400) (h : PG (wide * many + n + 1) P) : ∃ a P', f__law_mx A [.pen, b, c, .int many, .int wide] P = some (.ok (.tup [b, c, tR a]), P') ∧ GR many wide a ∧ PG n P' := by
  obtain ⟨d, hd, P1, e1, g1⟩ := pick_mem (A := A) (xs := five.map rL) (by decide) (by decide) h
  obtain ⟨ns, hns, rfl⟩ := List.mem_map.mp hd
  have ns0 : 0 < ns.length ∧ ns.length ≤ 400 ∧ ∀ x ∈ ns, 0 ≤ x ∧ x ≤ 3 := by
    unfold five at hns
    simp only [List.mem_cons, List.not_mem_nil, or_false] at hns
    rcases hns with rfl | rfl | rfl | rfl | rfl <;> exact ⟨by decide, by decide, by decide⟩
  have rg : ∀ (S : List Sl) (Q : Pen) (i : Nat) (m : Nat), m ≤ 400 → S[i]? = some (.va (.int m)) → (mLft (mCons (mVar i) mNil) rng1) ⟨S, Q⟩ = some (.ok (rngL 0 m), ⟨S, Q⟩) := fun S Q i m hm hi => e_lft (e_cons (e_var hi) e_nil) (rng_k (small_lim hm))
  obtain ⟨ys, P2, e2, a2, g2⟩ := e_lc_draw (J := PG) (k := wide) (n := n) (vs := [6]) (tg := setV 6)
    (me := (mLft (mCons (mLc [7] (mLft (mCons (mVar 4) mNil) rng1) (setV 7) mYes (mCall (f__law_pick A) [] (mCons (mVar 0) (mCons (mVar 5) mNil)))) mNil) tupD))
    (z := ⟨[.va .pen, .va b, .va c, .va (.int many), .va (.int wide), .va (rL ns), .un, .un], P1⟩) (z1 := ⟨[.va .pen, .va b, .va c, .va (.int many), .va (.int wide), .va (rL ns), .un, .un], P1⟩)
    (S3 := [.va .pen, .va b, .va c, .va (.int many), .va (.int wide), .va (rL ns), .un, .un])
    (fun _ y => ∃ r, y = rT r ∧ r.length = wide ∧ ∀ x ∈ r, 0 ≤ x ∧ x ≤ 3) (rg _ _ 3 many h1 rfl) (by rw [rngL_len]; exact small_lim h1) (by rw [rngL_len]; exact g1)
    (fun d _ Q n1 hQ => by
      obtain ⟨xs, Q2, f1, f2, f3⟩ := e_lc_draw (J := PG) (k := 1) (n := n1) (vs := [7]) (tg := setV 7) (me := (mCall (f__law_pick A) [] (mCons (mVar 0) (mCons (mVar 5) mNil))))
        (z := ⟨[.va .pen, .va b, .va c, .va (.int many), .va (.int wide), .va (rL ns), .va d, .un], Q⟩) (z1 := ⟨[.va .pen, .va b, .va c, .va (.int many), .va (.int wide), .va (rL ns), .va d, .un], Q⟩)
        (S3 := [.va .pen, .va b, .va c, .va (.int many), .va (.int wide), .va (rL ns), .va d, .un])
        (fun _ y => ∃ x : Int, y = .int x ∧ (0 ≤ x ∧ x ≤ 3)) (rg _ _ 4 wide h2 rfl) (by rw [rngL_len]; exact small_lim h2) (by rw [rngL_len]; exact hQ.le (by omega))
        (fun t _ Q n2 hQ => by
          obtain ⟨x, hx, Q3, p1, p2⟩ := pick_int (A := A) (n := n2) ns0.1 ns0.2.1 (hQ.le (by omega))
          exact ⟨_, [.va .pen, .va b, .va c, .va (.int many), .va (.int wide), .va (rL ns), .va d, .va t], _, _, rfl, e_call (e_cons (e_var rfl) (e_cons (e_var rfl) e_nil)) p1, rfl, ⟨x, rfl, ns0.2.2 x hx⟩, p2⟩) rfl
      obtain ⟨r, rfl, q2, q3⟩ := f2.ints
      exact ⟨_, [.va .pen, .va b, .va c, .va (.int many), .va (.int wide), .va (rL ns), .va d, .un], rT r, Q2, rfl, e_lft (e_cons f1 e_nil) rfl, rfl, ⟨r, rfl, by rw [q2, rngL_len], q3⟩, f3⟩) rfl
  have a2 : A2 (fun _ y => ∃ r, y = rT r ∧ (r.length = wide ∧ ∀ x ∈ r, 0 ≤ x ∧ x ≤ 3)) (rngL 0 many) ys := a2
  obtain ⟨a, rfl, q2, q3⟩ := a2.rows
  refine ⟨a, P2, ?_, ⟨by rw [q2, rngL_len], fun r hr => (q3 r hr).1, fun r hr => (q3 r hr).2⟩, g2⟩
  refine r_rtq (N := 8) (k := b__law_mx A) (z1 := ⟨[.va .pen, .va b, .va c, .va (.int many), .va (.int wide), .va (rL ns), .un, .un], P2⟩) ?_ rfl
  unfold b__law_mx
  refine e_seq (z1 := ⟨[.va .pen, .va b, .va c, .va (.int many), .va (.int wide), .va (rL ns), .un, .un], P1⟩) ?_ (e_mret (e_lft (e_cons (e_var rfl) (e_cons (e_var rfl) (e_cons (e_lft (e_cons e2 e_nil) rfl) e_nil))) rfl))
  have hp : (mCall (f__law_pick A) [] (mCons (mVar 0) (mCons (mLft (mCons (mLft (mCons (ret (.int 0)) (mCons (ret (.int 1)) (mCons (ret (.int 2)) (mCons (ret (.int 3)) mNil)))) mkLst) (mCons (mLft (mCons (ret (.int 0)) (mCons (ret (.int 1)) (mCons (ret (.int 3)) mNil))) mkLst) (mCons (mLft (mCons (ret (.int 1)) (mCons (ret (.int 3)) (mCons (ret (.int 3)) mNil))) mkLst) (mCons (mLft (mCons (ret (.int 0)) (mCons (ret (.int 3)) mNil)) mkLst) (mCons (mLft (mCons (ret (.int 1)) (mCons (ret (.int 2)) (mCons (ret (.int 3)) mNil))) mkLst) mNil))))) mkLst) mNil))) (z0 8 [.pen, b, c, .int many, .int wide] P) = some (.ok (rL ns), ⟨(z0 8 [.pen, b, c, .int many, .int wide] P).S, P1⟩) := by
    apply ev
    repeat' (first | exact e_ret | exact e_nil | exact e_nx | exact e_yes | exact e_var rfl | exact e_pen rfl rfl | apply e_cons | apply e_lft | apply e_bin | apply e_mret | apply e_set | apply e_own | apply e_not | apply e_notV | apply e_drop | apply e_call | apply e_callK | apply e_meth | apply e_make | apply e_makeK | apply e_andV_t | apply e_chain_t | exact e1 | exact rfl)
  exact e_set hp
/-- the state in a round -/
abbrev ZZ (c0 s2 s3 s4 s5 s6 s7 s8 s9 s10 : Sl) (P : Pen) : Z := ⟨[c0, .va .pen, s2, s3, s4, s5, s6, s7, s8, s9, s10, .un, .un], P⟩
section
variable {c0 s2 s3 s4 s5 s6 s7 s8 s9 s10 : Sl}
theorem rg_c {S : List Sl} {Q : Pen} {m : Nat} (h : m ≤ 400) : (mLft (mCons (ret (.int m)) mNil) rng1) ⟨S, Q⟩ = some (.ok (rngL 0 m), ⟨S, Q⟩) := e_lft (e_cons e_ret e_nil) (rng_k (small_lim h))
theorem st0 (h : PG (8 + n) P) : ∃ (sz st : List Int) (P' : Pen), m_law_1_0 A (ZZ c0 s2 s3 s4 s5 s6 s7 s8 s9 s10 P) = some (.ok .nx, ZZ c0 s2 (.va (.lst (intsD sz))) (.va (.lst (intsD st))) s5 s6 s7 s8 s9 s10 P') ∧ sz.length = 4 ∧ st.length = 4 ∧ (∀ x ∈ sz, 1 ≤ x ∧ x ≤ 5) ∧ (∀ x ∈ st, 0 ≤ x ∧ x ≤ 399) ∧ PG n P' := by
  obtain ⟨ys, P1, e1, a1, g1⟩ := e_lc_draw (J := PG) (k := 1) (n := 4 + n) (vs := [11]) (tg := setV 11)
    (me := (mBin addD (ret (.int 1)) (mCall (f__law_draw A) [] (mCons (mVar 1) (mCons (ret (.int 5)) mNil)))))
    (z := ZZ c0 s2 s3 s4 s5 s6 s7 s8 s9 s10 P) (z1 := ZZ c0 s2 s3 s4 s5 s6 s7 s8 s9 s10 P) (S3 := (ZZ c0 s2 s3 s4 s5 s6 s7 s8 s9 s10 P).S)
    (fun _ y => ∃ x : Int, y = .int x ∧ (1 ≤ x ∧ x ≤ 5)) (rg_c (m := 4) (by decide)) (by rw [rngL_len]; decide) (by rw [rngL_len]; exact h.le (by omega))
    (fun t _ Q n2 hQ => by
      obtain ⟨v, Q3, p1, p2, p3, p4⟩ := draw_ok (many := 5) (n := n2) (by decide) (by decide) (hQ.le (by omega))
      exact ⟨_, [c0, .va .pen, s2, s3, s4, s5, s6, s7, s8, s9, s10, .va t, .un], _, _, rfl, e_bin e_ret (e_call (e_cons (e_var rfl) (e_cons e_ret e_nil)) p1) rfl, rfl, ⟨1 + v, rfl, by omega, by omega⟩, p4⟩) rfl
  obtain ⟨sz, rfl, q1, q2⟩ := a1.ints
  obtain ⟨ys, P2, e2, a2, g2⟩ := e_lc_draw (J := PG) (k := 1) (n := n) (vs := [11]) (tg := setV 11)
    (me := (mCall (f__law_pick A) [] (mCons (mVar 1) (mCons (mLft (mCons (ret (.int 0)) (mCons (ret (.int 1)) (mCons (ret (.int 7)) (mCons (ret (.int 399)) mNil)))) mkLst) mNil))))
    (z := ZZ c0 s2 s3 s4 s5 s6 s7 s8 s9 s10 P1) (z1 := ZZ c0 s2 s3 s4 s5 s6 s7 s8 s9 s10 P1) (S3 := (ZZ c0 s2 s3 s4 s5 s6 s7 s8 s9 s10 P1).S)
    (fun _ y => ∃ x : Int, y = .int x ∧ (0 ≤ x ∧ x ≤ 399)) (rg_c (m := 4) (by decide)) (by rw [rngL_len]; decide) (by rw [rngL_len]; exact g1.le (by omega))
    (fun t _ Q n2 hQ => by
      obtain ⟨x, hx, Q3, p1, p2⟩ := pick_int (A := A) (ns := [0, 1, 7, 399]) (n := n2) (by decide) (by decide) (hQ.le (by omega))
      refine ⟨_, [c0, .va .pen, s2, s3, s4, s5, s6, s7, s8, s9, s10, .va t, .un], _, _, rfl, e_call (e_cons (e_var rfl) (e_cons (e_lft (e_cons e_ret (e_cons e_ret (e_cons e_ret (e_cons e_ret e_nil)))) rfl) e_nil)) p1, rfl, ⟨x, rfl, ?_⟩, p2⟩
      simp only [List.mem_cons, List.not_mem_nil, or_false] at hx
      omega) rfl
  obtain ⟨st, rfl, r1, r2⟩ := a2.ints
  refine ⟨sz, st, P2, ?_, by rw [q1, rngL_len], by rw [r1, rngL_len], q2, r2, g2⟩
  exact e_asg (e_lft (e_cons e1 (e_cons e2 e_nil)) rfl) rfl
theorem A2.three {R : D → D → Prop} {a b c : D} {ys : List D} (h : A2 R [a, b, c] ys) : ∃ x y z, ys = [x, y, z] ∧ R a x ∧ R b y ∧ R c z := by
  cases h with
  | cons h1 t => cases t with
    | cons h2 t => cases t with
      | cons h3 t => cases t with
        | nil => exact ⟨_, _, _, rfl, h1, h2, h3⟩
theorem mem_get {l : List Int} {Q : Int → Prop} {j : Nat} (hj : j < l.length) (h : ∀ x ∈ l, Q x) : Q (l.getD j 0) := h _ (getD_of hj)
end
end
end K25

-- L25e
set_option maxHeartbeats 1000000
/-! L25e: the statements of a round -/
namespace K25
open PySem PySem.Spec PyProof.Rows L2 DL
section
variable {A : Ad} {P : Pen} {n : Nat} {c0 s2 s3 s4 s5 s6 s7 s8 s9 s10 : Sl}
abbrev SZ (n0 n1 n2 n3 : Nat) : Sl := .va (.lst [.int n0, .int n1, .int n2, .int n3])
abbrev ST (u0 u1 u2 u3 : Int) : Sl := .va (.lst [.int u0, .int u1, .int u2, .int u3])
abbrev T3 (u0 u1 u2 u3 : Int) (a0 a1 a2 : Rw) : Sl := .va (.lst [tD3 u0 u1 a0, tD3 u1 u2 a1, tD3 u2 u3 a2])
abbrev M3 (A : Ad) (u0 u1 u2 u3 : Int) (a0 a1 a2 : Rw) : Sl := .va (.lst [MD A u0 u1 a0, MD A u1 u2 a1, MD A u2 u3 a2])
abbrev B5 (n : Nat) : Prop := 0 < n ∧ n ≤ 5
abbrev BS (u : Int) : Prop := 0 ≤ u ∧ u ≤ 399
theorem four {l : List Int} (h : l.length = 4) : ∃ a b c d, l = [a, b, c, d] := by
  match l, h with
  | [a, b, c, d], _ => exact ⟨a, b, c, d, rfl⟩
theorem st0' (h : PG (8 + n) P) : ∃ (n0 n1 n2 n3 : Nat) (u0 u1 u2 u3 : Int) (P' : Pen), m_law_1_0 A (ZZ c0 s2 s3 s4 s5 s6 s7 s8 s9 s10 P) = some (.ok .nx, ZZ c0 s2 (SZ n0 n1 n2 n3) (ST u0 u1 u2 u3) s5 s6 s7 s8 s9 s10 P') ∧ (B5 n0 ∧ B5 n1 ∧ B5 n2 ∧ B5 n3) ∧ (BS u0 ∧ BS u1 ∧ BS u2 ∧ BS u3) ∧ PG n P' := by
  obtain ⟨sz, st, P', e, l1, l2, b1, b2, g⟩ := st0 (A := A) (c0 := c0) (s2 := s2) (s3 := s3) (s4 := s4) (s5 := s5) (s6 := s6) (s7 := s7) (s8 := s8) (s9 := s9) (s10 := s10) h
  obtain ⟨a, b, c, d, rfl⟩ := four l1
  obtain ⟨u0, u1, u2, u3, rfl⟩ := four l2
  have ha := b1 a (by simp)
  have hb := b1 b (by simp)
  have hc := b1 c (by simp)
  have hd := b1 d (by simp)
  have nat : ∀ x : Int, 1 ≤ x ∧ x ≤ 5 → ∃ n : Nat, x = (n : Int) ∧ B5 n := fun x hx => ⟨x.toNat, by omega, by omega, by omega⟩
  obtain ⟨n0, rfl, q0⟩ := nat a ha
  obtain ⟨n1, rfl, q1⟩ := nat b hb
  obtain ⟨n2, rfl, q2⟩ := nat c hc
  obtain ⟨n3, rfl, q3⟩ := nat d hd
  exact ⟨n0, n1, n2, n3, u0, u1, u2, u3, P', e, ⟨q0, q1, q2, q3⟩, ⟨b2 _ (by simp), b2 _ (by simp), b2 _ (by simp), b2 _ (by simp)⟩, g⟩
theorem cost {a b n : Nat} (ha : B5 a) (hb : B5 b) (h : PG (26 + n) P) : PG (b * a + n + 1) P := h.le (by have : b * a ≤ 5 * 5 := Nat.mul_le_mul hb.2 ha.2; omega)
theorem le400 {n : Nat} (h : B5 n) : n ≤ 400 := Nat.le_trans h.2 (by decide)
theorem st1 {n0 n1 n2 n3 : Nat} {u0 u1 u2 u3 : Int} (h0 : B5 n0) (h1 : B5 n1) (h2 : B5 n2) (h3 : B5 n3) (h : PG (26 * 3 + n) P) : ∃ (a0 a1 a2 : Rw) (P' : Pen), m_law_1_1 A (ZZ c0 s2 (SZ n0 n1 n2 n3) (ST u0 u1 u2 u3) s5 s6 s7 s8 s9 s10 P) = some (.ok .nx, ZZ c0 s2 (SZ n0 n1 n2 n3) (ST u0 u1 u2 u3) (T3 u0 u1 u2 u3 a0 a1 a2) s6 s7 s8 s9 s10 P') ∧ GR n0 n1 a0 ∧ GR n1 n2 a1 ∧ GR n2 n3 a2 ∧ PG n P' := by
  obtain ⟨a0, P1, e0, g0, p1⟩ := mx_ok (A := A) (many := n0) (wide := n1) (b := .int u0) (c := .int u1) (n := 26 * 2 + n) (le400 h0) (le400 h1) (cost h0 h1 (h.le (by omega)))
  obtain ⟨a1, P2, e1, g1, p2⟩ := mx_ok (A := A) (many := n1) (wide := n2) (b := .int u1) (c := .int u2) (n := 26 + n) (le400 h1) (le400 h2) (cost h1 h2 (p1.le (by omega)))
  obtain ⟨a2, P3, e2, g2, p3⟩ := mx_ok (A := A) (many := n2) (wide := n3) (b := .int u2) (c := .int u3) (n := n) (le400 h2) (le400 h3) (cost h2 h3 (p2.le (by omega)))
  refine ⟨a0, a1, a2, P3, ?_, g0, g1, g2, p3⟩
  have me : ∀ (i : Nat) (Q Q' : Pen) (k m : Nat) (u v : Int) (d : D), [D.int n0, .int n1, .int n2, .int n3][i]? = some (.int k) → [D.int n0, .int n1, .int n2, .int n3][i + 1]? = some (.int m) → [D.int u0, .int u1, .int u2, .int u3][i]? = some (.int u) → [D.int u0, .int u1, .int u2, .int u3][i + 1]? = some (.int v) → f__law_mx A [.pen, .int u, .int v, .int k, .int m] Q = some (.ok d, Q') →
      (mCall (f__law_mx A) [] (mCons (mVar 1) (mCons (mBin ixD (mVar 4) (mVar 11)) (mCons (mBin ixD (mVar 4) (mBin addD (mVar 11) (ret (.int 1)))) (mCons (mBin ixD (mVar 3) (mVar 11)) (mCons (mBin ixD (mVar 3) (mBin addD (mVar 11) (ret (.int 1)))) mNil)))))) ⟨[c0, .va .pen, s2, SZ n0 n1 n2 n3, ST u0 u1 u2 u3, s5, s6, s7, s8, s9, s10, .va (.int i), .un], Q⟩ = some (.ok d, ⟨[c0, .va .pen, s2, SZ n0 n1 n2 n3, ST u0 u1 u2 u3, s5, s6, s7, s8, s9, s10, .va (.int i), .un], Q'⟩) := by
    intro i Q Q' k m u v d q1 q2 q3 q4 e
    have ix : ∀ (xs : List D) (y : D), xs[i + 1]? = some y → ixD (.lst xs) (.int ((i : Int) + 1)) = some y := fun xs y hy => at_nat (j := i + 1) hy
    apply ev
    repeat' (first | exact e_ret | exact e_nil | exact e_nx | exact e_yes | exact e_var rfl | exact e_pen rfl rfl | apply e_cons | apply e_lft | apply e_bin | apply e_mret | apply e_set | apply e_own | apply e_not | apply e_notV | apply e_drop | apply e_call | apply e_callK | apply e_meth | apply e_make | apply e_makeK | apply e_andV_t | apply e_chain_t | apply e_eqO | exact at_nat q1 | exact at_nat q3 | exact ix _ _ q2 | exact ix _ _ q4 | exact e | exact rfl)
  have z0 := me 0 P P1 n0 n1 u0 u1 _ rfl rfl rfl rfl e0
  have z1 := me 1 P1 P2 n1 n2 u1 u2 _ rfl rfl rfl rfl e1
  have z2 := me 2 P2 P3 n2 n3 u2 u3 _ rfl rfl rfl rfl e2
  unfold m_law_1_1
  refine (e_set (d := .lst [tD3 u0 u1 a0, tD3 u1 u2 a1, tD3 u2 u3 a2]) (z1 := ZZ c0 s2 (SZ n0 n1 n2 n3) (ST u0 u1 u2 u3) s5 s6 s7 s8 s9 s10 P3) (e_lc_go (z1 := ZZ c0 s2 (SZ n0 n1 n2 n3) (ST u0 u1 u2 u3) s5 s6 s7 s8 s9 s10 P) (z2 := ZZ c0 s2 (SZ n0 n1 n2 n3) (ST u0 u1 u2 u3) s5 s6 s7 s8 s9 s10 P3) (ds := [.int (0 : Nat), .int (1 : Nat), .int (2 : Nat)]) (rg_c (m := 3) (by decide)) ?_))
  refine lc_t rfl rfl z0 (by show 0 < lim; decide) ?_
  refine lc_t rfl rfl z1 (by show 1 < lim; decide) ?_
  refine lc_t rfl rfl z2 (by show 2 < lim; decide) ?_
  exact lc_0
theorem pick2 {a : Rw} (h : PG (n + 1) P) : ∃ (b : Bool) (P' : Pen), f__law_pick A [.pen, .lst [tR a, lR a]] P = some (.ok (rws b a), P') ∧ PG n P' := by
  obtain ⟨d, hd, P', e, g⟩ := pick_mem (A := A) (xs := [tR a, lR a]) (by show 0 < 2; decide) (by show 2 ≤ 400; decide) h
  simp only [List.mem_cons, List.not_mem_nil, or_false] at hd
  rcases hd with rfl | rfl
  · exact ⟨true, P', e, g⟩
  · exact ⟨false, P', e, g⟩
theorem st2 {n0 n1 n2 n3 : Nat} {u0 u1 u2 u3 : Int} {a0 a1 a2 : Rw} (h0 : B5 n0) (h1 : B5 n1) (h2 : B5 n2) (h3 : B5 n3) (k0 : BS u0) (k1 : BS u1) (k2 : BS u2) (k3 : BS u3) (g0 : GR n0 n1 a0) (g1 : GR n1 n2 a1) (g2 : GR n2 n3 a2) (h : PG (n + 3) P) :
    ∃ P' : Pen, m_law_1_2 A (ZZ c0 s2 s3 s4 (T3 u0 u1 u2 u3 a0 a1 a2) s6 s7 s8 s9 s10 P) = some (.ok .nx, ZZ c0 s2 s3 s4 (T3 u0 u1 u2 u3 a0 a1 a2) (M3 A u0 u1 u2 u3 a0 a1 a2) s7 s8 s9 s10 P') ∧ PG n P' := by
  obtain ⟨b0, P1, e0, p1⟩ := pick2 (A := A) (a := a0) (n := n + 2) h
  obtain ⟨b1, P2, e1, p2⟩ := pick2 (A := A) (a := a1) (n := n + 1) p1
  obtain ⟨b2, P3, e2, p3⟩ := pick2 (A := A) (a := a2) (n := n) p2
  refine ⟨P3, ?_, p3⟩
  have me : ∀ (Q Q' : Pen) (k m : Nat) (u v : Int) (a : Rw) (b : Bool), B5 k → B5 m → BS u → BS v → GR k m a → f__law_pick A [.pen, .lst [tR a, lR a]] Q = some (.ok (rws b a), Q') →
      (mMake A.c_Matrix (f_Matrix_init A) [] (mCons (mBin ixD (mVar 12) (ret (.int 0))) (mCons (mBin ixD (mVar 12) (ret (.int 1))) (mCons (mCall (f__law_pick A) [] (mCons (mVar 1) (mCons (mLft (mCons (mBin ixD (mVar 12) (ret (.int 2))) (mCons (mCall (f__law_b_lists A 4) [] (mCons (mBin ixD (mVar 12) (ret (.int 2))) mNil)) mNil)) mkLst) mNil))) mNil)))) ⟨[c0, .va .pen, s2, s3, s4, T3 u0 u1 u2 u3 a0 a1 a2, s6, s7, s8, s9, s10, .un, .va (tD3 u v a)], Q⟩ = some (.ok (MD A u v a), ⟨[c0, .va .pen, s2, s3, s4, T3 u0 u1 u2 u3 a0 a1 a2, s6, s7, s8, s9, s10, .un, .va (tD3 u v a)], Q'⟩) := by
    intro Q Q' k m u v a b hk hm hu hv g e
    apply ev
    repeat' (first | exact e_ret | exact e_nil | exact e_nx | exact e_yes | exact e_var rfl | exact e_pen rfl rfl | apply e_cons | apply e_lft | apply e_bin | apply e_mret | apply e_set | apply e_own | apply e_not | apply e_notV | apply e_drop | apply e_call | apply e_callK | apply e_meth | apply e_make | apply e_makeK | apply e_andV_t | apply e_chain_t | apply e_eqO | exact e | exact lists_k g (le400 hk) (le400 hm) | exact init_k g hk.1 hm.1 (le400 hk) (le400 hm) hu hv | exact rfl)
  have z0 := me P P1 n0 n1 u0 u1 a0 b0 h0 h1 k0 k1 g0 e0
  have z1 := me P1 P2 n1 n2 u1 u2 a1 b1 h1 h2 k1 k2 g1 e1
  have z2 := me P2 P3 n2 n3 u2 u3 a2 b2 h2 h3 k2 k3 g2 e2
  unfold m_law_1_2
  refine (e_set (d := .lst [MD A u0 u1 a0, MD A u1 u2 a1, MD A u2 u3 a2]) (z1 := ZZ c0 s2 s3 s4 (T3 u0 u1 u2 u3 a0 a1 a2) s6 s7 s8 s9 s10 P3) (e_lc_go (z1 := ZZ c0 s2 s3 s4 (T3 u0 u1 u2 u3 a0 a1 a2) s6 s7 s8 s9 s10 P) (z2 := ZZ c0 s2 s3 s4 (T3 u0 u1 u2 u3 a0 a1 a2) s6 s7 s8 s9 s10 P3) (e_lft (e_var rfl) rfl) ?_))
  refine lc_t rfl rfl z0 (by show 0 < lim; decide) ?_
  refine lc_t rfl rfl z1 (by show 1 < lim; decide) ?_
  refine lc_t rfl rfl z2 (by show 2 < lim; decide) ?_
  exact lc_0
theorem sh_3 {u v : Int} {a : Rw} : Shp 3 (tD3 u v a) := sh_tup (shs_cons sh_int (shs_cons sh_int (shs_cons (sh_tR a) shs_nil)))
theorem sh_T3 {u0 u1 u2 u3 : Int} {a0 a1 a2 : Rw} : Shp 4 (.lst [tD3 u0 u1 a0, tD3 u1 u2 a1, tD3 u2 u3 a2]) := sh_lst (shs_cons sh_3 (shs_cons sh_3 (shs_cons sh_3 shs_nil)))
theorem ty_M {u v : Int} {a : Rw} : tyOk et_Matrix (ec_Matrix A) (MD A u v a) = true := by
  show decide (A.c_Matrix ∈ [A.c_Matrix]) = true
  simp
theorem eq_refl {u v : Int} {a : Rw} : eqB (tD3 u v a) (tD3 u v a) = some true := eqB_refl sh_3 (by decide)
section
variable {n0 n1 n2 n3 : Nat} {u0 u1 u2 u3 : Int} {a0 a1 a2 : Rw} (h0 : B5 n0) (h1 : B5 n1) (h2 : B5 n2) (h3 : B5 n3) (k0 : BS u0) (k1 : BS u1) (k2 : BS u2) (k3 : BS u3) (g0 : GR n0 n1 a0) (g1 : GR n1 n2 a1) (g2 : GR n2 n3 a2)
include h0 h1 h2 h3 k0 k1 k2 k3 g0 g1 g2
theorem st3 : m_law_1_3 A (ZZ c0 s2 s3 s4 (T3 u0 u1 u2 u3 a0 a1 a2) (M3 A u0 u1 u2 u3 a0 a1 a2) s7 s8 s9 s10 P) = some (.ok .nx, ZZ c0 s2 s3 s4 (T3 u0 u1 u2 u3 a0 a1 a2) (M3 A u0 u1 u2 u3 a0 a1 a2) s7 s8 s9 s10 P) := by
  have q1 : (mLc [12] (mLft (mVar 6) seqD) (setV 12) mYes (mMeth A.c_Matrix "told" (f_Matrix_told A) [] (mVar 12) mNil)) (ZZ c0 s2 s3 s4 (T3 u0 u1 u2 u3 a0 a1 a2) (M3 A u0 u1 u2 u3 a0 a1 a2) s7 s8 s9 s10 P) = some (.ok (.lst [tD3 u0 u1 a0, tD3 u1 u2 a1, tD3 u2 u3 a2]), ZZ c0 s2 s3 s4 (T3 u0 u1 u2 u3 a0 a1 a2) (M3 A u0 u1 u2 u3 a0 a1 a2) s7 s8 s9 s10 P) := by
    refine e_lc_mg (S3 := (ZZ c0 s2 s3 s4 (T3 u0 u1 u2 u3 a0 a1 a2) (M3 A u0 u1 u2 u3 a0 a1 a2) s7 s8 s9 s10 P).S) (l := [(u0, u1, a0), (u1, u2, a1), (u2, u3, a2)]) (g := fun t => MD A t.1 t.2.1 t.2.2) (fun t => tD3 t.1 t.2.1 t.2.2) (e_lft (e_var rfl) rfl) (by show 3 ≤ lim; decide) (fun t _ => ?_) rfl
    exact ⟨_, [c0, .va .pen, s2, s3, s4, T3 u0 u1 u2 u3 a0 a1 a2, M3 A u0 u1 u2 u3 a0 a1 a2, s7, s8, s9, s10, .un, .va (MD A t.1 t.2.1 t.2.2)], rfl, e_meth (e_var rfl) (by decide) e_nil told_k, rfl⟩
  have q2 : (mLc [12] (mLft (mVar 6) seqD) (setV 12) mYes (mLft (mCons (mLft (mVar 12) (fldD (fc_before A) "before")) (mCons (mLft (mVar 12) (fldD (fc_behind A) "behind")) (mCons (mLft (mVar 12) (fldD (fc_rows A) "rows")) mNil))) mkTup)) (ZZ c0 s2 s3 s4 (T3 u0 u1 u2 u3 a0 a1 a2) (M3 A u0 u1 u2 u3 a0 a1 a2) s7 s8 s9 s10 P) = some (.ok (.lst [tD3 u0 u1 a0, tD3 u1 u2 a1, tD3 u2 u3 a2]), ZZ c0 s2 s3 s4 (T3 u0 u1 u2 u3 a0 a1 a2) (M3 A u0 u1 u2 u3 a0 a1 a2) s7 s8 s9 s10 P) := by
    refine e_lc_mg (S3 := (ZZ c0 s2 s3 s4 (T3 u0 u1 u2 u3 a0 a1 a2) (M3 A u0 u1 u2 u3 a0 a1 a2) s7 s8 s9 s10 P).S) (l := [(u0, u1, a0), (u1, u2, a1), (u2, u3, a2)]) (g := fun t => MD A t.1 t.2.1 t.2.2) (fun t => tD3 t.1 t.2.1 t.2.2) (e_lft (e_var rfl) rfl) (by show 3 ≤ lim; decide) (fun t _ => ?_) rfl
    refine ⟨_, [c0, .va .pen, s2, s3, s4, T3 u0 u1 u2 u3 a0 a1 a2, M3 A u0 u1 u2 u3 a0 a1 a2, s7, s8, s9, s10, .un, .va (MD A t.1 t.2.1 t.2.2)], rfl, ?_, rfl⟩
    apply ev
    repeat' (first | exact e_ret | exact e_nil | exact e_nx | exact e_yes | exact e_var rfl | exact e_pen rfl rfl | apply e_cons | apply e_lft | apply e_bin | apply e_mret | apply e_set | apply e_own | apply e_not | apply e_notV | apply e_drop | apply e_call | apply e_callK | apply e_meth | apply e_make | apply e_makeK | apply e_andV_t | apply e_chain_t | apply e_eqO | exact fld_before | exact fld_behind | exact fld_rows | exact rfl)
  unfold m_law_1_3
  refine e_iff (z1 := (ZZ c0 s2 s3 s4 (T3 u0 u1 u2 u3 a0 a1 a2) (M3 A u0 u1 u2 u3 a0 a1 a2) s7 s8 s9 s10 P)) (e_or_f (z1 := (ZZ c0 s2 s3 s4 (T3 u0 u1 u2 u3 a0 a1 a2) (M3 A u0 u1 u2 u3 a0 a1 a2) s7 s8 s9 s10 P)) ?_ (e_or_f (z1 := (ZZ c0 s2 s3 s4 (T3 u0 u1 u2 u3 a0 a1 a2) (M3 A u0 u1 u2 u3 a0 a1 a2) s7 s8 s9 s10 P)) ?_ ?_)) e_nx
  all_goals apply ev
  repeat' (first | exact e_ret | exact e_nil | exact e_nx | exact e_yes | exact e_var rfl | exact e_pen rfl rfl | apply e_cons | apply e_lft | apply e_bin | apply e_mret | apply e_set | apply e_own | apply e_not | apply e_notV | apply e_drop | apply e_call | apply e_callK | apply e_meth | apply e_make | apply e_makeK | apply e_andV_t | apply e_chain_t | apply e_eqO | exact q1 | exact q2 | exact neD_refl sh_T3 (by decide) | exact ty_M | exact eq_MM eq_refl | exact init_k (b := true) g0 h0.1 h1.1 (le400 h0) (le400 h1) k0 k1 | exact rfl)
theorem st4 : m_law_1_4 A (ZZ c0 s2 s3 s4 (T3 u0 u1 u2 u3 a0 a1 a2) s6 s7 s8 s9 s10 P) = some (.ok .nx, ZZ c0 s2 s3 s4 (T3 u0 u1 u2 u3 a0 a1 a2) s6 (.va (tD3 u0 u2 (mm a0 a1))) s8 s9 s10 P) := by
  have q : (mCall (f__law_b_product A) [] (mCons (mBin ixD (mVar 5) (ret (.int 0))) (mCons (mBin ixD (mVar 5) (ret (.int 1))) mNil))) (ZZ c0 s2 s3 s4 (T3 u0 u1 u2 u3 a0 a1 a2) s6 s7 s8 s9 s10 P) = some (.ok (tD3 u0 u2 (mm a0 a1)), ZZ c0 s2 s3 s4 (T3 u0 u1 u2 u3 a0 a1 a2) s6 s7 s8 s9 s10 P) := by
    apply ev
    repeat' (first | exact e_ret | exact e_nil | exact e_nx | exact e_yes | exact e_var rfl | exact e_pen rfl rfl | apply e_cons | apply e_lft | apply e_bin | apply e_mret | apply e_set | apply e_own | apply e_not | apply e_notV | apply e_drop | apply e_call | apply e_callK | apply e_meth | apply e_make | apply e_makeK | apply e_andV_t | apply e_chain_t | apply e_eqO | exact bproduct_k g0 g1 h1.1 h2.1 (le400 h0) (le400 h1) (le400 h2) | exact rfl)
  exact e_set q
theorem st5 : m_law_1_5 A (ZZ c0 s2 s3 s4 s5 (M3 A u0 u1 u2 u3 a0 a1 a2) (.va (tD3 u0 u2 (mm a0 a1))) s8 s9 s10 P) = some (.ok .nx, ZZ c0 s2 s3 s4 s5 (M3 A u0 u1 u2 u3 a0 a1 a2) (.va (tD3 u0 u2 (mm a0 a1))) s8 s9 s10 P) := by
  have gm := mm_good g0 g1 h1.1
  have pk : ∀ Q, f_product A [MD A u0 u1 a0, MD A u1 u2 a1] Q = some (.ok (MD A u0 u2 (mm a0 a1)), Q) := fun Q => product_k g0 g1 h0.1 h1.1 h2.1 (le400 h0) (le400 h1) (le400 h2) k0 k2
  unfold m_law_1_5
  refine e_iff (z1 := (ZZ c0 s2 s3 s4 s5 (M3 A u0 u1 u2 u3 a0 a1 a2) (.va (tD3 u0 u2 (mm a0 a1))) s8 s9 s10 P)) (e_or_f (z1 := (ZZ c0 s2 s3 s4 s5 (M3 A u0 u1 u2 u3 a0 a1 a2) (.va (tD3 u0 u2 (mm a0 a1))) s8 s9 s10 P)) ?_ ?_) e_nx
  all_goals apply ev
  repeat' (first | exact e_ret | exact e_nil | exact e_nx | exact e_yes | exact e_var rfl | exact e_pen rfl rfl | apply e_cons | apply e_lft | apply e_bin | apply e_mret | apply e_set | apply e_own | apply e_not | apply e_notV | apply e_drop | apply e_call | apply e_callK | apply e_meth | apply e_make | apply e_makeK | apply e_andV_t | apply e_chain_t | apply e_eqO | exact pk _ | exact (by decide) | exact told_k | exact neD_refl sh_3 (by decide) | exact ty_M | exact eq_MM eq_refl | exact init_k (b := true) gm h0.1 h2.1 (le400 h0) (le400 h2) k0 k2 | exact rfl)
theorem st6 : m_law_1_6 A (ZZ c0 s2 s3 s4 s5 (M3 A u0 u1 u2 u3 a0 a1 a2) s7 s8 s9 s10 P) = some (.ok .nx, ZZ c0 s2 s3 s4 s5 (M3 A u0 u1 u2 u3 a0 a1 a2) s7 s8 s9 s10 P) := by
  have gm := mm_good g0 g1 h1.1
  have gn := mm_good g1 g2 h2.1
  have p1 : ∀ Q, f_product A [MD A u0 u1 a0, MD A u1 u2 a1] Q = some (.ok (MD A u0 u2 (mm a0 a1)), Q) := fun Q => product_k g0 g1 h0.1 h1.1 h2.1 (le400 h0) (le400 h1) (le400 h2) k0 k2
  have p2 : ∀ Q, f_product A [MD A u0 u2 (mm a0 a1), MD A u2 u3 a2] Q = some (.ok (MD A u0 u3 (mm (mm a0 a1) a2)), Q) := fun Q => product_k gm g2 h0.1 h2.1 h3.1 (le400 h0) (le400 h2) (le400 h3) k0 k3
  have p3 : ∀ Q, f_product A [MD A u1 u2 a1, MD A u2 u3 a2] Q = some (.ok (MD A u1 u3 (mm a1 a2)), Q) := fun Q => product_k g1 g2 h1.1 h2.1 h3.1 (le400 h1) (le400 h2) (le400 h3) k1 k3
  have p4 : ∀ Q, f_product A [MD A u0 u1 a0, MD A u1 u3 (mm a1 a2)] Q = some (.ok (MD A u0 u3 (mm a0 (mm a1 a2))), Q) := fun Q => product_k g0 gn h0.1 h1.1 h3.1 (le400 h0) (le400 h1) (le400 h3) k0 k3
  have as := mm_assoc g0 g1 g2 h1.1 h2.1
  have eqa : eqB (tD3 u0 u3 (mm (mm a0 a1) a2)) (tD3 u0 u3 (mm a0 (mm a1 a2))) = some true := by rw [as]; exact eq_refl
  unfold m_law_1_6
  refine e_iff (z1 := (ZZ c0 s2 s3 s4 s5 (M3 A u0 u1 u2 u3 a0 a1 a2) s7 s8 s9 s10 P)) ?_ e_nx
  apply ev
  repeat' (first | exact e_ret | exact e_nil | exact e_nx | exact e_yes | exact e_var rfl | exact e_pen rfl rfl | apply e_cons | apply e_lft | apply e_bin | apply e_mret | apply e_set | apply e_own | apply e_not | apply e_notV | apply e_drop | apply e_call | apply e_callK | apply e_meth | apply e_make | apply e_makeK | apply e_andV_t | apply e_chain_t | apply e_eqO | exact p1 _ | exact p2 _ | exact p3 _ | exact p4 _ | exact ty_M | exact eq_MM eqa | exact rfl)
end
theorem st7 {n0 n1 n2 n3 : Nat} {u0 u1 u2 u3 : Int} (h0 : B5 n0) (h1 : B5 n1) (h : PG (26 + n) P) : ∃ (ao : Rw) (P' : Pen), m_law_1_7 A (ZZ c0 s2 (SZ n0 n1 n2 n3) (ST u0 u1 u2 u3) s5 s6 s7 s8 s9 s10 P) = some (.ok .nx, ZZ c0 s2 (SZ n0 n1 n2 n3) (ST u0 u1 u2 u3) s5 s6 s7 (.va (tD3 u0 u1 ao)) s9 s10 P') ∧ GR n0 n1 ao ∧ PG n P' := by
  obtain ⟨a0, P1, e0, g0, p1⟩ := mx_ok (A := A) (many := n0) (wide := n1) (b := .int u0) (c := .int u1) (n := n) (le400 h0) (le400 h1) (cost h0 h1 h)
  refine ⟨a0, P1, ?_, g0, p1⟩
  have q : (mCall (f__law_mx A) [] (mCons (mVar 1) (mCons (mBin ixD (mVar 4) (ret (.int 0))) (mCons (mBin ixD (mVar 4) (ret (.int 1))) (mCons (mBin ixD (mVar 3) (ret (.int 0))) (mCons (mBin ixD (mVar 3) (ret (.int 1))) mNil)))))) (ZZ c0 s2 (SZ n0 n1 n2 n3) (ST u0 u1 u2 u3) s5 s6 s7 s8 s9 s10 P) = some (.ok (tD3 u0 u1 a0), ZZ c0 s2 (SZ n0 n1 n2 n3) (ST u0 u1 u2 u3) s5 s6 s7 s8 s9 s10 P1) := by
    apply ev
    repeat' (first | exact e_ret | exact e_nil | exact e_nx | exact e_yes | exact e_var rfl | exact e_pen rfl rfl | apply e_cons | apply e_lft | apply e_bin | apply e_mret | apply e_set | apply e_own | apply e_not | apply e_notV | apply e_drop | apply e_call | apply e_callK | apply e_meth | apply e_make | apply e_makeK | apply e_andV_t | apply e_chain_t | apply e_eqO | exact e0 | exact rfl)
  exact e_set q
section
variable {n0 n1 n2 n3 : Nat} {u0 u1 u2 u3 : Int} {a0 a1 a2 ao : Rw} (h0 : B5 n0) (h1 : B5 n1) (h2 : B5 n2) (h3 : B5 n3) (k0 : BS u0) (k1 : BS u1) (k2 : BS u2) (k3 : BS u3) (g0 : GR n0 n1 a0) (g1 : GR n1 n2 a1) (g2 : GR n2 n3 a2)
include h0 h1 h2 h3 k0 k1 k2 k3 g0 g1 g2
theorem st8 (go : GR n0 n1 ao) : m_law_1_8 A (ZZ c0 s2 s3 (ST u0 u1 u2 u3) (T3 u0 u1 u2 u3 a0 a1 a2) (M3 A u0 u1 u2 u3 a0 a1 a2) s7 (.va (tD3 u0 u1 ao)) s9 s10 P) = some (.ok .nx, ZZ c0 s2 s3 (ST u0 u1 u2 u3) (T3 u0 u1 u2 u3 a0 a1 a2) (M3 A u0 u1 u2 u3 a0 a1 a2) s7 (.va (tD3 u0 u1 ao)) s9 s10 P) := by
  obtain ⟨e, he⟩ := eqB_tot (sh_3 (u := u0) (v := u1) (a := a0)) (sh_3 (u := u0) (v := u1) (a := ao)) (by decide) (by decide)
  have he1 : eqD (tD3 u0 u1 a0) (tD3 u0 u1 ao) = some (.bl e) := by unfold eqD; rw [he]; rfl
  have he2 : neD (tD3 u0 u1 a0) (tD3 u0 u1 ao) = some (.bl (!e)) := by unfold neD; rw [he]; rfl
  have x1 : neD (.bl (false ^^ e)) (.bl e) = some (.bl false) := neD_same (n := 3) sh_bl (by cases e <;> rfl) (by decide)
  have x2 : neD (.bl (true ^^ e)) (.bl (!e)) = some (.bl false) := neD_same (n := 3) sh_bl (by cases e <;> rfl) (by decide)
  have mk : ∀ Q, f_Matrix_init A [.int u0, .int u1, tR ao] Q = some (.ok (["before", "behind", "rows"], [.int u0, .int u1, tR ao]), Q) := fun Q => init_k (b := true) go h0.1 h1.1 (le400 h0) (le400 h1) k0 k1
  unfold m_law_1_8
  refine e_iff (z1 := (ZZ c0 s2 s3 (ST u0 u1 u2 u3) (T3 u0 u1 u2 u3 a0 a1 a2) (M3 A u0 u1 u2 u3 a0 a1 a2) s7 (.va (tD3 u0 u1 ao)) s9 s10 P)) (e_or_f (z1 := (ZZ c0 s2 s3 (ST u0 u1 u2 u3) (T3 u0 u1 u2 u3 a0 a1 a2) (M3 A u0 u1 u2 u3 a0 a1 a2) s7 (.va (tD3 u0 u1 ao)) s9 s10 P)) ?_ (e_or_f (z1 := (ZZ c0 s2 s3 (ST u0 u1 u2 u3) (T3 u0 u1 u2 u3 a0 a1 a2) (M3 A u0 u1 u2 u3 a0 a1 a2) s7 (.va (tD3 u0 u1 ao)) s9 s10 P)) ?_ ?_)) e_nx
  all_goals apply ev
  repeat' (first | exact e_ret | exact e_nil | exact e_nx | exact e_yes | exact e_var rfl | exact e_pen rfl rfl | apply e_cons | apply e_lft | apply e_bin | apply e_mret | apply e_set | apply e_own | apply e_not | apply e_notV | apply e_drop | apply e_call | apply e_callK | apply e_meth | apply e_make | apply e_makeK | apply e_andV_t | apply e_chain_t | apply e_eqO | exact mk _ | exact ty_M | exact eq_MM he | exact eq_MT | exact he1 | exact he2 | exact x1 | exact x2 | exact rfl)
end
end
end K25

-- L25f
set_option maxHeartbeats 1000000
/-! L25f: the plain law of k25 -/
namespace K25
open PySem PySem.Spec PyProof.Rows L2 DL
section
variable {A : Ad} {P : Pen} {n : Nat} {c0 s2 s3 s4 s5 s6 s7 s8 s9 s10 : Sl}
theorem gr_more {k m : Nat} {a : Rw} (g : GR k m a) (hk : 0 < k) : GR (k + 1) m (a ++ [a.headD []]) := by
  have hm := head_mem g hk
  refine ⟨by simp [g.n], fun r hr => ?_, fun r hr => ?_⟩
  · rcases List.mem_append.mp hr with q | q
    · exact g.k r q
    · rw [List.mem_singleton.mp q]; exact g.k _ hm
  · rcases List.mem_append.mp hr with q | q
    · exact g.e r q
    · rw [List.mem_singleton.mp q]; exact g.e _ hm
theorem add_more {k m : Nat} {a : Rw} (g : GR k m a) (hk : B5 k) : addD (tR a) (.tup [rT (a.headD [])]) = some (tR (a ++ [a.headD []])) := by
  show (if (a.map rT).length + 1 ≤ lim then some (D.tup (a.map rT ++ [rT (a.headD [])])) else none) = _
  rw [if_pos (by rw [List.length_map, g.n]; exact Nat.le_trans (Nat.add_le_add_right hk.2 1) (by decide))]
  unfold tR
  rw [List.map_append]
  rfl
theorem lt_t {i j : Int} (h : i < j) : ltD (.int i) (.int j) = some (.bl true) := by
  show some (D.bl (decide (i < j))) = _
  rw [decide_eq_true h]
theorem lt_f {i j : Int} (h : j ≤ i) : ltD (.int i) (.int j) = some (.bl false) := by
  show some (D.bl (decide (i < j))) = _
  rw [decide_eq_false (by omega)]
section
variable {n0 n1 n2 n3 : Nat} {u0 u1 u2 u3 : Int} {a0 a1 a2 ao : Rw} (h0 : B5 n0) (h1 : B5 n1) (h2 : B5 n2) (h3 : B5 n3) (k0 : BS u0) (k1 : BS u1) (k2 : BS u2) (k3 : BS u3) (g0 : GR n0 n1 a0) (g1 : GR n1 n2 a1) (g2 : GR n2 n3 a2)
include h0 h1 h2 h3 k0 k1 k2 k3 g0 g1 g2
theorem st9 : ∃ w : Int, u1 ≠ w ∧ m_law_1_9 A (ZZ c0 s2 s3 (ST u0 u1 u2 u3) (T3 u0 u1 u2 u3 a0 a1 a2) s6 s7 s8 s9 s10 P) = some (.ok .nx, ZZ c0 s2 s3 (ST u0 u1 u2 u3) (T3 u0 u1 u2 u3 a0 a1 a2) s6 s7 s8 (.va (.lst [MD A w 2 a1, MD A u1 2 (a1 ++ [a1.headD []])])) s10 P) := by
  have state : ∃ w : Int, u1 ≠ w ∧ BS w ∧ (mIf (mLft (mBin ltD (mBin ixD (mVar 4) (ret (.int 1))) (ret (.int 399))) asB) (mBin addD (mBin ixD (mVar 4) (ret (.int 1))) (ret (.int 1))) (ret (.int 0))) (ZZ c0 s2 s3 (ST u0 u1 u2 u3) (T3 u0 u1 u2 u3 a0 a1 a2) s6 s7 s8 s9 s10 P) = some (.ok (.int w), ZZ c0 s2 s3 (ST u0 u1 u2 u3) (T3 u0 u1 u2 u3 a0 a1 a2) s6 s7 s8 s9 s10 P) := by
    by_cases hu : u1 < 399
    · refine ⟨u1 + 1, by omega, ⟨by omega, by omega⟩, e_ift (z1 := (ZZ c0 s2 s3 (ST u0 u1 u2 u3) (T3 u0 u1 u2 u3 a0 a1 a2) s6 s7 s8 s9 s10 P)) ?_ ?_⟩
      all_goals apply ev
      repeat' (first | exact e_ret | exact e_nil | exact e_nx | exact e_yes | exact e_var rfl | exact e_pen rfl rfl | apply e_cons | apply e_lft | apply e_bin | apply e_mret | apply e_set | apply e_own | apply e_not | apply e_notV | apply e_drop | apply e_call | apply e_callK | apply e_meth | apply e_make | apply e_makeK | apply e_andV_t | apply e_chain_t | apply e_eqO | exact lt_t hu | exact decide_eq_true hu | exact rfl)
    · refine ⟨0, by omega, ⟨by omega, by omega⟩, e_iff (z1 := (ZZ c0 s2 s3 (ST u0 u1 u2 u3) (T3 u0 u1 u2 u3 a0 a1 a2) s6 s7 s8 s9 s10 P)) ?_ e_ret⟩
      apply ev
      repeat' (first | exact e_ret | exact e_nil | exact e_nx | exact e_yes | exact e_var rfl | exact e_pen rfl rfl | apply e_cons | apply e_lft | apply e_bin | apply e_mret | apply e_set | apply e_own | apply e_not | apply e_notV | apply e_drop | apply e_call | apply e_callK | apply e_meth | apply e_make | apply e_makeK | apply e_andV_t | apply e_chain_t | apply e_eqO | exact lt_f (by omega) | exact decide_eq_false hu | exact rfl)
  obtain ⟨w, hw, bw, e⟩ := state
  have i1 : ∀ Q, f_Matrix_init A [.int w, .int 2, tR a1] Q = some (.ok (["before", "behind", "rows"], [.int w, .int 2, tR a1]), Q) := fun Q => init_k (b := true) g1 h1.1 h2.1 (le400 h1) (le400 h2) bw ⟨by decide, by decide⟩
  have i2 : ∀ Q, f_Matrix_init A [.int u1, .int 2, tR (a1 ++ [a1.headD []])] Q = some (.ok (["before", "behind", "rows"], [.int u1, .int 2, tR (a1 ++ [a1.headD []])]), Q) := fun Q => init_k (b := true) (gr_more g1 h1.1) (Nat.succ_pos _) h2.1 (Nat.le_trans (Nat.add_le_add_right h1.2 1) (by decide)) (le400 h2) k1 ⟨by decide, by decide⟩
  refine ⟨w, hw, ?_⟩
  have q : (mLft (mCons (mMake A.c_Matrix (f_Matrix_init A) [] (mCons (mIf (mLft (mBin ltD (mBin ixD (mVar 4) (ret (.int 1))) (ret (.int 399))) asB) (mBin addD (mBin ixD (mVar 4) (ret (.int 1))) (ret (.int 1))) (ret (.int 0))) (mCons (ret (.int 2)) (mCons (mBin ixD (mBin ixD (mVar 5) (ret (.int 1))) (ret (.int 2))) mNil)))) (mCons (mMake A.c_Matrix (f_Matrix_init A) [] (mCons (mBin ixD (mVar 4) (ret (.int 1))) (mCons (ret (.int 2)) (mCons (mBin addD (mBin ixD (mBin ixD (mVar 5) (ret (.int 1))) (ret (.int 2))) (mLft (mCons (mBin ixD (mBin ixD (mBin ixD (mVar 5) (ret (.int 1))) (ret (.int 2))) (ret (.int 0))) mNil) mkTup)) mNil)))) mNil)) mkLst)
      (ZZ c0 s2 s3 (ST u0 u1 u2 u3) (T3 u0 u1 u2 u3 a0 a1 a2) s6 s7 s8 s9 s10 P) = some (.ok (.lst [MD A w 2 a1, MD A u1 2 (a1 ++ [a1.headD []])]), ZZ c0 s2 s3 (ST u0 u1 u2 u3) (T3 u0 u1 u2 u3 a0 a1 a2) s6 s7 s8 s9 s10 P) := by
    apply ev
    repeat' (first | exact e_ret | exact e_nil | exact e_nx | exact e_yes | exact e_var rfl | exact e_pen rfl rfl | apply e_cons | apply e_lft | apply e_bin | apply e_mret | apply e_set | apply e_own | apply e_not | apply e_notV | apply e_drop | apply e_call | apply e_callK | apply e_meth | apply e_make | apply e_makeK | apply e_andV_t | apply e_chain_t | apply e_eqO | exact e | exact rows0 g1 h1.1 | exact add_more g1 h1 | exact i1 _ | exact i2 _ | exact rfl)
  exact e_set q
theorem st10 {P' : Program} {K : PySem.W.Frag} {mg : Str → Option Value} (T : Tx P' K mg A) {w : Int} (hw : u1 ≠ w) : m_law_1_10 A (ZZ c0 s2 s3 s4 s5 (M3 A u0 u1 u2 u3 a0 a1 a2) s7 s8 (.va (.lst [MD A w 2 a1, MD A u1 2 (a1 ++ [a1.headD []])])) s10 P) = some (.ok .nx, ZZ c0 s2 s3 s4 s5 (M3 A u0 u1 u2 u3 a0 a1 a2) s7 s8 (.va (.lst [MD A w 2 a1, MD A u1 2 (a1 ++ [a1.headD []])])) s10 P) := by
  have m1 : ∀ Q, f_product A [MD A u0 u1 a0, MD A w 2 a1] Q = some (.error ⟨A.c_Misfit, ["part"], [.str "other"]⟩, Q) := fun Q => product_mis (k2 := n1) (m := 0) g0 h0.1 g1.n (.inl hw)
  have m2 : ∀ Q, f_product A [MD A u0 u1 a0, MD A u1 2 (a1 ++ [a1.headD []])] Q = some (.error ⟨A.c_Misfit, ["part"], [.str "other"]⟩, Q) := fun Q => product_mis (k2 := n1 + 1) (m := 0) g0 h0.1 (gr_more g1 h1.1).n (.inr (by omega))
  have sh : Shp 3 (.lst [.tup [.str "misfit", .str "other"], .tup [.str "misfit", .str "other"]]) := sh_lst (shs_cons (sh_tup (n := 1) (shs_cons (sh_str (by decide +kernel)) (shs_cons (sh_str (by decide +kernel)) shs_nil))) (shs_cons (sh_tup (shs_cons (sh_str (by decide +kernel)) (shs_cons (sh_str (by decide +kernel)) shs_nil))) shs_nil))
  have mul : mulD (.lst [.tup [.str "misfit", .str "other"]]) (.int 2) = some (.lst [.tup [.str "misfit", .str "other"], .tup [.str "misfit", .str "other"]]) := rfl
  unfold m_law_1_10
  refine e_iff (z1 := (ZZ c0 s2 s3 s4 s5 (M3 A u0 u1 u2 u3 a0 a1 a2) s7 s8 (.va (.lst [MD A w 2 a1, MD A u1 2 (a1 ++ [a1.headD []])])) s10 P)) ?_ e_nx
  apply ev
  repeat' (first | exact e_ret | exact e_nil | exact e_nx | exact e_yes | exact e_var rfl | exact e_pen rfl rfl | apply e_cons | apply e_lft | apply e_bin | apply e_mret | apply e_set | apply e_own | apply e_not | apply e_notV | apply e_drop | apply e_call | apply e_callK | apply e_meth | apply e_make | apply e_makeK | apply e_andV_t | apply e_chain_t | apply e_eqO | apply heard_Misfit T | exact m1 _ | exact m2 _ | exact mul | exact neD_refl sh (by decide) | exact rfl)
theorem st11 (h : PG (n + 1) P) : ∃ (d : D) (P' : Pen), isiD tt_Matrix (to_Matrix A) d = some (.bl false) ∧ m_law_1_11 A (ZZ c0 s2 s3 s4 (T3 u0 u1 u2 u3 a0 a1 a2) s6 s7 s8 s9 s10 P) = some (.ok .nx, ZZ c0 s2 s3 s4 (T3 u0 u1 u2 u3 a0 a1 a2) s6 s7 s8 s9 (.va d) P') ∧ PG n P' := by
  obtain ⟨d, hd, P', e, g⟩ := pick_mem (A := A) (xs := [.non, .int 5, tD3 u0 u1 a0, tR a0, .str "matrix"]) (by show 0 < 5; decide) (by show 5 ≤ 400; decide) h
  refine ⟨d, P', ?_, ?_, g⟩
  · simp only [List.mem_cons, List.not_mem_nil, or_false] at hd
    rcases hd with rfl | rfl | rfl | rfl | rfl <;> rfl
  · have q : (mCall (f__law_pick A) [] (mCons (mVar 1) (mCons (mLft (mCons (ret .non) (mCons (ret (.int 5)) (mCons (mBin ixD (mVar 5) (ret (.int 0))) (mCons (mBin ixD (mBin ixD (mVar 5) (ret (.int 0))) (ret (.int 2))) (mCons (ret (.str "matrix")) mNil))))) mkLst) mNil))) (ZZ c0 s2 s3 s4 (T3 u0 u1 u2 u3 a0 a1 a2) s6 s7 s8 s9 s10 P) = some (.ok d, ZZ c0 s2 s3 s4 (T3 u0 u1 u2 u3 a0 a1 a2) s6 s7 s8 s9 s10 P') := by
      apply ev
      repeat' (first | exact e_ret | exact e_nil | exact e_nx | exact e_yes | exact e_var rfl | exact e_pen rfl rfl | apply e_cons | apply e_lft | apply e_bin | apply e_mret | apply e_set | apply e_own | apply e_not | apply e_notV | apply e_drop | apply e_call | apply e_callK | apply e_meth | apply e_make | apply e_makeK | apply e_andV_t | apply e_chain_t | apply e_eqO | exact e | exact rfl)
    exact e_set q
theorem st12 {P' : Program} {K : PySem.W.Frag} {mg : Str → Option Value} (T : Tx P' K mg A) {d : D} (hd : isiD tt_Matrix (to_Matrix A) d = some (.bl false)) : m_law_1_12 A (ZZ c0 s2 s3 s4 s5 (M3 A u0 u1 u2 u3 a0 a1 a2) s7 s8 s9 (.va d) P) = some (.ok .nx, ZZ c0 s2 s3 s4 s5 (M3 A u0 u1 u2 u3 a0 a1 a2) s7 s8 s9 (.va d) P) := by
  have m1 : ∀ Q, f_product A [d, d] Q = some (.error ⟨A.c_BadValue, ["part"], [.str "one"]⟩, Q) := fun Q => product_no1 hd
  have m2 : ∀ Q, f_product A [MD A u0 u1 a0, d] Q = some (.error ⟨A.c_BadValue, ["part"], [.str "other"]⟩, Q) := fun Q => product_no2 hd
  have sh : Shp 3 (.lst [.tup [.str "value", .str "one"], .tup [.str "value", .str "other"]]) := sh_lst (shs_cons (sh_tup (n := 1) (shs_cons (sh_str (by decide +kernel)) (shs_cons (sh_str (by decide +kernel)) shs_nil))) (shs_cons (sh_tup (shs_cons (sh_str (by decide +kernel)) (shs_cons (sh_str (by decide +kernel)) shs_nil))) shs_nil))
  unfold m_law_1_12
  refine e_iff (z1 := (ZZ c0 s2 s3 s4 s5 (M3 A u0 u1 u2 u3 a0 a1 a2) s7 s8 s9 (.va d) P)) ?_ e_nx
  apply ev
  repeat' (first | exact e_ret | exact e_nil | exact e_nx | exact e_yes | exact e_var rfl | exact e_pen rfl rfl | apply e_cons | apply e_lft | apply e_bin | apply e_mret | apply e_set | apply e_own | apply e_not | apply e_notV | apply e_drop | apply e_call | apply e_callK | apply e_meth | apply e_make | apply e_makeK | apply e_andV_t | apply e_chain_t | apply e_eqO | apply heard_BadValue T | exact m1 _ | exact m2 _ | exact neD_refl sh (by decide) | exact rfl)
end
def roundM (A : Ad) : M Fl := (mSeq (m_law_1_0 A)
    (mSeq (m_law_1_1 A)
    (mSeq (m_law_1_2 A)
    (mSeq (m_law_1_3 A)
    (mSeq (m_law_1_4 A)
    (mSeq (m_law_1_5 A)
    (mSeq (m_law_1_6 A)
    (mSeq (m_law_1_7 A)
    (mSeq (m_law_1_8 A)
    (mSeq (m_law_1_9 A)
    (mSeq (m_law_1_10 A)
    (mSeq (m_law_1_11 A)
    (m_law_1_12 A)))))))))))))
theorem round_ok {P' : Program} {K : PySem.W.Frag} {mg : Str → Option Value} (T : Tx P' K mg A) (h : PG (200 + n) P) : ∃ (t3 t4 t5 t6 t7 t8 t9 t10 : Sl) (Q : Pen), roundM A (ZZ c0 s2 s3 s4 s5 s6 s7 s8 s9 s10 P) = some (.ok .nx, ZZ c0 s2 t3 t4 t5 t6 t7 t8 t9 t10 Q) ∧ PG n Q := by
  obtain ⟨n0, n1, n2, n3, u0, u1, u2, u3, P0, e0, ⟨h0, h1, h2, h3⟩, ⟨k0, k1, k2, k3⟩, p0⟩ := st0' (A := A) (c0 := c0) (s2 := s2) (s3 := s3) (s4 := s4) (s5 := s5) (s6 := s6) (s7 := s7) (s8 := s8) (s9 := s9) (s10 := s10) (n := 192 + n) (h.le (by omega))
  obtain ⟨a0, a1, a2, P1, e1, g0, g1, g2, p1⟩ := st1 (A := A) (c0 := c0) (s2 := s2) (s5 := s5) (s6 := s6) (s7 := s7) (s8 := s8) (s9 := s9) (s10 := s10) (u0 := u0) (u1 := u1) (u2 := u2) (u3 := u3) (n := 114 + n) h0 h1 h2 h3 (p0.le (by omega))
  obtain ⟨P2, e2, p2⟩ := st2 (A := A) (c0 := c0) (s2 := s2) (s3 := SZ n0 n1 n2 n3) (s4 := ST u0 u1 u2 u3) (s6 := s6) (s7 := s7) (s8 := s8) (s9 := s9) (s10 := s10) (n := 111 + n) h0 h1 h2 h3 k0 k1 k2 k3 g0 g1 g2 (p1.le (by omega))
  obtain ⟨ao, P7, e7, go, p7⟩ := st7 (A := A) (c0 := c0) (s2 := s2) (s5 := T3 u0 u1 u2 u3 a0 a1 a2) (s6 := M3 A u0 u1 u2 u3 a0 a1 a2) (s7 := .va (tD3 u0 u2 (mm a0 a1))) (s8 := s8) (s9 := s9) (s10 := s10) (n0 := n0) (n1 := n1) (n2 := n2) (n3 := n3) (u0 := u0) (u1 := u1) (u2 := u2) (u3 := u3) (n := 85 + n) h0 h1 (p2.le (by omega))
  obtain ⟨w, hw, e9⟩ := st9 (A := A) (P := P7) (c0 := c0) (s2 := s2) (s3 := SZ n0 n1 n2 n3) (s6 := M3 A u0 u1 u2 u3 a0 a1 a2) (s7 := .va (tD3 u0 u2 (mm a0 a1))) (s8 := .va (tD3 u0 u1 ao)) (s9 := s9) (s10 := s10) h0 h1 h2 h3 k0 k1 k2 k3 g0 g1 g2
  obtain ⟨d, P11, hd, e11, p11⟩ := st11 (A := A) (c0 := c0) (s2 := s2) (s3 := SZ n0 n1 n2 n3) (s4 := ST u0 u1 u2 u3) (s6 := M3 A u0 u1 u2 u3 a0 a1 a2) (s7 := .va (tD3 u0 u2 (mm a0 a1))) (s8 := .va (tD3 u0 u1 ao)) (s9 := .va (.lst [MD A w 2 a1, MD A u1 2 (a1 ++ [a1.headD []])])) (s10 := s10) (n := 84 + n) h0 h1 h2 h3 k0 k1 k2 k3 g0 g1 g2 (p7.le (by omega))
  refine ⟨SZ n0 n1 n2 n3, ST u0 u1 u2 u3, T3 u0 u1 u2 u3 a0 a1 a2, M3 A u0 u1 u2 u3 a0 a1 a2, .va (tD3 u0 u2 (mm a0 a1)), .va (tD3 u0 u1 ao), .va (.lst [MD A w 2 a1, MD A u1 2 (a1 ++ [a1.headD []])]), .va d, P11, ?_, p11.le (by omega)⟩
  unfold roundM
  refine e_seq e0 (e_seq e1 (e_seq e2 ?_))
  refine e_seq (st3 h0 h1 h2 h3 k0 k1 k2 k3 g0 g1 g2) ?_
  refine e_seq (st4 h0 h1 h2 h3 k0 k1 k2 k3 g0 g1 g2) ?_
  refine e_seq (st5 h0 h1 h2 h3 k0 k1 k2 k3 g0 g1 g2) ?_
  refine e_seq (st6 h0 h1 h2 h3 k0 k1 k2 k3 g0 g1 g2) ?_
  refine e_seq e7 ?_
  refine e_seq (st8 h0 h1 h2 h3 k0 k1 k2 k3 g0 g1 g2 go) ?_
  refine e_seq e9 ?_
  refine e_seq (st10 h0 h1 h2 h3 k0 k1 k2 k3 g0 g1 g2 T hw) ?_
  refine e_seq e11 ?_
  exact st12 h0 h1 h2 h3 k0 k1 k2 k3 g0 g1 g2 T hd
theorem rounds {P' : Program} {K : PySem.W.Frag} {mg : Str → Option Value} (T : Tx P' K mg A) : ∀ (ds : List D) (P : Pen) (s2 s3 s4 s5 s6 s7 s8 s9 s10 : Sl), PG (200 * ds.length + n) P → ∃ z', forGo (setV 2) (roundM A) ds (ZZ c0 s2 s3 s4 s5 s6 s7 s8 s9 s10 P) = some (.ok .nx, z')
  | [], P, s2, s3, s4, s5, s6, s7, s8, s9, s10, h => ⟨_, rfl⟩
  | d :: ds, P, s2, s3, s4, s5, s6, s7, s8, s9, s10, h => by
    obtain ⟨t3, t4, t5, t6, t7, t8, t9, t10, Q, e, g⟩ := round_ok (A := A) (c0 := c0) (s2 := .va d) (s3 := s3) (s4 := s4) (s5 := s5) (s6 := s6) (s7 := s7) (s8 := s8) (s9 := s9) (s10 := s10) (n := 200 * ds.length + n) T (h.le (by simp only [List.length_cons]; omega))
    obtain ⟨z', ih⟩ := rounds T ds Q (.va d) t3 t4 t5 t6 t7 t8 t9 t10 g
    refine ⟨z', ?_⟩
    show (match roundM A (ZZ c0 (.va d) s3 s4 s5 s6 s7 s8 s9 s10 P) with
      | some (.ok .nx, z2) => forGo (setV 2) (roundM A) ds z2
      | some (.ok .ct, z2) => forGo (setV 2) (roundM A) ds z2
      | some (.ok .bk, z2) => some (.ok .nx, z2)
      | some (.ok (.rt d), z2) => some (.ok (.rt d), z2)
      | some (.error x, z2) => some (.error x, z2)
      | none => none) = _
    rw [e]
    exact ih
theorem plain {P' : Program} {K : PySem.W.Frag} {mg : Str → Option Value} (T : Tx P' K mg A) (ns : List Int) (_ : ns.length ≤ 63) (_ : ∀ z ∈ ns, Builtin.Int.intBits z ≤ 1048576) : ∃ z', b_law A (zLaw N_law.length ns) = some (.ok (.rt (.bl true)), z') := by
  obtain ⟨z', e⟩ := rounds (A := A) (n := 0) (c0 := .va (.scr (ns.map D.int))) T (rngL 0 (8 : Nat)) ⟨ns, 0, 0⟩ .un .un .un .un .un .un .un .un .un (by rw [rngL_len]; exact ⟨show (0 : Int) ≤ 0 by decide, show (0 : Int) + ((200 * 8 + 0 : Nat) : Int) ≤ 1048576 by decide⟩)
  refine ⟨z', ?_⟩
  show mSeq (mFor (mLft (mCons (ret (.int (8 : Nat))) mNil) rng1) (setV 2) (roundM A)) (mRet (ret (.bl true))) (ZZ (.va (.scr (ns.map D.int))) .un .un .un .un .un .un .un .un .un ⟨ns, 0, 0⟩) = _
  exact e_seq (e_for (rg_c (m := 8) (by decide)) e) (e_mret e_ret)
end
end K25

-- E25
set_option pp.deepTerms false
set_option pp.deepTerms.threshold 3
set_option pp.maxSteps 600
namespace K25
open PySem PySem.Spec PyProof.Rows L2 DL
/-- what is known of law itself -/
def LawX (K : PySem.W.Frag) (h : Heap) (f : Addr) : Prop := ∃ (oc : Value) (od : Option Addr) (kV doc pm ct : Value) (an : Option Addr) (osl : Array (Option Value)) (cl Pt : Addr) (o2 : Value) (d2 : Option Addr) (vs : Array Value) (s2 : Array (Option Value)),
  PySem.W.nsIn K mainGlobals "law" = some (some (.ref f)) ∧ K.lookup f = some ⟨oc, od, .func (PySem.W.fnOf "law" "law" (defArgs s_law) (defBody s_law) (defScope s_law) .none kV doc pm an (.ref cl) ct), osl⟩ ∧ PySem.W.codeIn K (.ref cl) "law" = true ∧
  K.lookup cl = some ⟨o2, d2, .fields vs, s2⟩ ∧ vs[11]? = some (.ref Pt) ∧ PySem.W.codeHdIn K cl Pt = true ∧ K.lookup Pt = none ∧ h.get? Pt = some { cls := .none, data := .fields #[] }
theorem law_at {l : PySem.W.OpenLaw} {w : World} {K : PySem.W.Frag} {mg : Str → Option Value} {fa : Addr} {h : Heap} {A : Ad} (T : Tx l.prog K mg A) (hfa : mg "law" = some (.ref fa)) (L : ∃ f, LawX K h f) (KX : K.In h) (G : h.Ns mainGlobals mg)
    (hm : ∀ ns : List Int, ns.length ≤ 63 → (∀ z ∈ ns, Builtin.Int.intBits z ≤ 1048576) → ∃ z', b_law A (zLaw N_law.length ns) = some (.ok (.rt (.bl true)), z')) : LamX.LawAtS l w K (L2.CX l.prog w) 21 63 "script" mg fa h := by
  obtain ⟨f, oc, od, kV, doc, pm, ct, an, osl, cl, Pt, o2, d2, vs, s2, ns, lk, hcd, lc, h11, hd, nT, ht⟩ := L
  have e : fa = A.f_law := by
    have q := T.g_law
    rw [hfa] at q
    exact Value.ref.inj (Option.some.inj q)
  have e2 : f = A.f_law := by
    have q := PySem.W.mg_of KX G ns
    rw [T.g_law] at q
    exact (Value.ref.inj (Option.some.inj q)).symm
  rw [e2] at lk
  refine ⟨PySem.W.fnOf "law" "law" (defArgs s_law) (defBody s_law) (defScope s_law) .none kV doc pm an (.ref cl) ct, [(cl, Pt)], spLaw K [(Pt, qLam)], fun p hp => ?_, fun p hp => ?_, fun p hp => ?_, fun s u => BindsTo.of_eq rfl, fun H a ns hl hb hT hS => ?_, fun base KB G hTB => ?_⟩
  · rw [List.mem_singleton.mp hp]; exact ht
  · rw [List.mem_singleton.mp hp]; exact nT
  · rw [List.mem_singleton.mp hp]; exact PySem.W.codeHd_of_K KX hd
  · exact ⟨a, ns, rfl, hS, hl, hb, fun p hp => by rw [List.mem_singleton.mp hp]; exact hT (cl, Pt) (List.mem_singleton.mpr rfl), fun _ => rfl⟩
  · rw [e]
    exact ok_law T lk hcd (hTB (cl, Pt) (List.mem_singleton.mpr rfl)) hm
theorem tx_with {P : Program} {K : PySem.W.Frag} {mg : Str → Option Value} {h : Heap} {R : Prop} (_ : K.In h) (p : ∃ A, Tx P K mg A) (p2 : ∃ f, LawX K h f) (q : ∀ A, Tx P K mg A → (∃ f, LawX K h f) → R) : R := by
  obtain ⟨A, T⟩ := p
  exact q A T p2
theorem cx_no {P : Program} (w : World) (H : Hp) (s : Shared) (e : Value) (s' : Shared) (h : L2.CX P w [] H s (fun _ _ _ => False) e s') : False := by
  obtain ⟨_, _, _, _, _, _, _, _, _, _, _, _, h⟩ := h
  exact h
end K25
open PySem PySem.W PyProof.Rows
set_option maxHeartbeats 0 in
theorem PySem.Challenge.cw_howfaroff_k25_matrices_and_products_holds : PySem.Challenge.rw_howfaroff_k25_matrices_and_products.Holds := by
  w_on; o_law; k_head; (case hw => w_witness2)
  k_fill
  refine LamX.walk_ofTs (l := PySem.Challenge.rw_howfaroff_k25_matrices_and_products) (n := 63) (k := 21) (x := "script") (CX := fun w => L2.CX PySem.Challenge.rw_howfaroff_k25_matrices_and_products.prog w) rfl (by decide) rfl ⟨rfl, by decide, by decide⟩ (fun w h Y => PySem.W.km_in_of Y) ?FF (K25.cx_no)
  case FF =>
    intro w mg fa h Y KX G hmg
    refine K25.tx_with (P := PySem.Challenge.rw_howfaroff_k25_matrices_and_products.prog) (mg := mg) (h := h) KX ?ptx ?plw ?qtx
    case ptx =>
      refine' ⟨_, K25.tx_mk KX G ?l_Matrix_init ?cd_Matrix_initx ?kp_Matrix_init ?l_Matrix_eq ?cd_Matrix_eqx ?kp_Matrix_eq ?m_Matrix_eq_at ?m_Matrix_eq_fn ?l_Matrix_told ?cd_Matrix_toldx ?kp_Matrix_told ?m_Matrix_told_at ?m_Matrix_told_fn ?l_is_integer ?cd_is_integerx ?kp_is_integer ?a_is_integer ?l_is_between ?cd_is_betweenx ?kp_is_between ?a_is_between ?l_is_listed ?cd_is_listedx ?kp_is_listed ?a_is_listed ?l_are_entries ?cd_are_entriesx ?kp_are_entries ?a_are_entries ?l_times ?cd_timesx ?kp_times ?a_times ?l_behind_both ?cd_behind_bothx ?kp_behind_both ?a_behind_both ?l_need_matrix ?cd_need_matrixx ?kp_need_matrix ?dt_need_matrix ?a_need_matrix ?l_product ?cd_productx ?kp_product ?a_product ?l__law_pen ?cd__law_penx ?kp__law_pen ?a__law_pen ?l__law_draw ?cd__law_drawx ?kp__law_draw ?a__law_draw ?l__law_pick ?cd__law_pickx ?kp__law_pick ?a__law_pick ?l__law_ho_heard ?cd__law_ho_heardx ?kp__law_ho_heard ?a__law_ho_heard ?l__law_b_times ?cd__law_b_timesx ?kp__law_b_times ?a__law_b_times ?l__law_b_product ?cd__law_b_productx ?kp__law_b_product ?a__law_b_product ?l__law_b_lists ?cd__law_b_listsx ?kp__law_b_lists ?a__law_b_lists ?l__law_mx ?cd__law_mxx ?kp__law_mx ?a__law_mx ?l_law ?cd_lawx ?kp_law ?a_law ?a_Matrix ?cl_Matrix_pg ?cl_Matrix_hd ?cl_Matrix_po ?cl_Matrix_sa ?is_Matrix_ha ?is_Matrix_hn ?is_Matrix_ht ?is_Matrix_hm ?M_Matrix_mk ?M_Matrix_in ?M_Matrix_fn ?M_Matrix_kp ?r_na_Matrix_before ?r_na_Matrix_behind ?r_na_Matrix_rows ?q_Matrix_ne ?r_kc_Matrix_Matrix ?r_kb_Matrix_bool ?r_kb_Matrix_int ?r_kb_Matrix_list ?r_kb_Matrix_tuple ?r_nf_Matrix_NoneType ?r_nf_Matrix_bool ?r_nf_Matrix_int ?r_nf_Matrix_str ?r_nf_Matrix_list ?r_nf_Matrix_tuple ?r_nf_Matrix_Matrix ?r_kt_NoneType_Matrix ?r_kt_bool_Matrix ?r_kt_int_Matrix ?r_kt_str_Matrix ?r_kt_list_Matrix ?r_kt_tuple_Matrix ?X_BadValue_cl ?X_BadValue_sa ?X_BadValue_ex ?X_BadValue_ty ?X_BadValue_kC ?X_BadValue_ow ?X_BadValue_su ?X_BadValue_sb ?X_BadValue_ce ?X_BadValue_co ?X_BadValue_c2 ?X_BadValue_c3 ?X_BadValue_an ?X_BadValue_tp ?l_fx_BadValue ?cd_fx_BadValuex ?r_iC_BadValue ?r_tI_BadValue ?a_BadValue ?ix_BadValue_hcl ?ix_BadValue_hg ?ix_BadValue_hk ?ix_BadValue_hs ?ix_BadValue_hd ?ix_BadValue_ha ?ix_BadValue_hn ?ix_BadValue_ht ?ix_BadValue_hm ?r_xm_BadValue ?r_nx_BadValue_part ?r_kx_BadValue_BadGrowth ?r_kx_BadValue_BadLine ?r_kx_BadValue_BadName ?r_kx_BadValue_BadNumber ?r_kx_BadValue_BadPaper ?r_kx_BadValue_BadPrices ?r_kx_BadValue_BadText ?r_kx_BadValue_BadValue ?r_kx_BadValue_BadWish ?r_kx_BadValue_BadWorld ?r_kx_BadValue_Misfit ?r_kx_BadValue_NoName ?r_kx_BadValue_Nothing ?r_kx_BadValue_TooMany ?X_Misfit_cl ?X_Misfit_sa ?X_Misfit_ex ?X_Misfit_ty ?X_Misfit_kC ?X_Misfit_ow ?X_Misfit_su ?X_Misfit_sb ?X_Misfit_ce ?X_Misfit_co ?X_Misfit_c2 ?X_Misfit_c3 ?X_Misfit_an ?X_Misfit_tp ?l_fx_Misfit ?cd_fx_Misfitx ?r_iC_Misfit ?r_tI_Misfit ?a_Misfit ?ix_Misfit_hcl ?ix_Misfit_hg ?ix_Misfit_hk ?ix_Misfit_hs ?ix_Misfit_hd ?ix_Misfit_ha ?ix_Misfit_hn ?ix_Misfit_ht ?ix_Misfit_hm ?r_xm_Misfit ?r_nx_Misfit_part ?r_kx_Misfit_BadGrowth ?r_kx_Misfit_BadLine ?r_kx_Misfit_BadName ?r_kx_Misfit_BadNumber ?r_kx_Misfit_BadPaper ?r_kx_Misfit_BadPrices ?r_kx_Misfit_BadText ?r_kx_Misfit_BadValue ?r_kx_Misfit_BadWish ?r_kx_Misfit_BadWorld ?r_kx_Misfit_Misfit ?r_kx_Misfit_NoName ?r_kx_Misfit_Nothing ?r_kx_Misfit_TooMany ?X_BadNumber_cl ?X_BadNumber_sa ?X_BadNumber_ex ?X_BadNumber_ty ?X_BadNumber_kC ?X_BadNumber_ow ?X_BadNumber_su ?X_BadNumber_sb ?X_BadNumber_ce ?X_BadNumber_co ?X_BadNumber_c2 ?X_BadNumber_c3 ?X_BadNumber_an ?X_BadNumber_tp ?l_fx_BadNumber ?cd_fx_BadNumberx ?r_iC_BadNumber ?r_tI_BadNumber ?a_BadNumber ?ix_BadNumber_hcl ?ix_BadNumber_hg ?ix_BadNumber_hk ?ix_BadNumber_hs ?ix_BadNumber_hd ?ix_BadNumber_ha ?ix_BadNumber_hn ?ix_BadNumber_ht ?ix_BadNumber_hm ?r_xm_BadNumber ?r_nx_BadNumber_part ?r_kx_BadNumber_BadGrowth ?r_kx_BadNumber_BadLine ?r_kx_BadNumber_BadName ?r_kx_BadNumber_BadNumber ?r_kx_BadNumber_BadPaper ?r_kx_BadNumber_BadPrices ?r_kx_BadNumber_BadText ?r_kx_BadNumber_BadValue ?r_kx_BadNumber_BadWish ?r_kx_BadNumber_BadWorld ?r_kx_BadNumber_Misfit ?r_kx_BadNumber_NoName ?r_kx_BadNumber_Nothing ?r_kx_BadNumber_TooMany ?a_BadGrowth ?a_BadLine ?a_BadName ?a_BadPaper ?a_BadPrices ?a_BadText ?a_BadWish ?a_BadWorld ?a_NoName ?a_Nothing ?a_TooMany ?a_WebError ?a_NONE ?a_NEVER ?a_MOST_STATE ?zz_len ?zz_abs ?zz_max ?zz_min ?zz_all ?zz_any ?zz_sum ?zz_isinstance ?zz_repr ?zz_sorted ?zz_enumerate ?zz_zip ?zz_range ?zz_int ?zz_tuple ?zz_list ?zz_bool ?zz_str ?zz_dict ?zz_set ?zz_super⟩
      (case a_is_integer => first | k_is | rfl | (trace "BAD a_is_integer"; trace_state; fail))
      (case a_is_between => first | k_is | rfl | (trace "BAD a_is_between"; trace_state; fail))
      (case a_is_listed => first | k_is | rfl | (trace "BAD a_is_listed"; trace_state; fail))
      (case a_are_entries => first | k_is | rfl | (trace "BAD a_are_entries"; trace_state; fail))
      (case a_times => first | k_is | rfl | (trace "BAD a_times"; trace_state; fail))
      (case a_behind_both => first | k_is | rfl | (trace "BAD a_behind_both"; trace_state; fail))
      (case a_need_matrix => first | k_is | rfl | (trace "BAD a_need_matrix"; trace_state; fail))
      (case a_product => first | k_is | rfl | (trace "BAD a_product"; trace_state; fail))
      (case a__law_pen => first | k_is | rfl | (trace "BAD a__law_pen"; trace_state; fail))
      (case a__law_draw => first | k_is | rfl | (trace "BAD a__law_draw"; trace_state; fail))
      (case a__law_pick => first | k_is | rfl | (trace "BAD a__law_pick"; trace_state; fail))
      (case a__law_ho_heard => first | k_is | rfl | (trace "BAD a__law_ho_heard"; trace_state; fail))
      (case a__law_b_times => first | k_is | rfl | (trace "BAD a__law_b_times"; trace_state; fail))
      (case a__law_b_product => first | k_is | rfl | (trace "BAD a__law_b_product"; trace_state; fail))
      (case a__law_b_lists => first | k_is | rfl | (trace "BAD a__law_b_lists"; trace_state; fail))
      (case a__law_mx => first | k_is | rfl | (trace "BAD a__law_mx"; trace_state; fail))
      (case a_law => first | k_is | rfl | (trace "BAD a_law"; trace_state; fail))
      (case a_Matrix => first | k_is | rfl | (trace "BAD a_Matrix"; trace_state; fail))
      (case a_BadValue => first | k_is | rfl | (trace "BAD a_BadValue"; trace_state; fail))
      (case a_Misfit => first | k_is | rfl | (trace "BAD a_Misfit"; trace_state; fail))
      (case a_BadNumber => first | k_is | rfl | (trace "BAD a_BadNumber"; trace_state; fail))
      (case a_BadGrowth => first | k_is | rfl | (trace "BAD a_BadGrowth"; trace_state; fail))
      (case a_BadLine => first | k_is | rfl | (trace "BAD a_BadLine"; trace_state; fail))
      (case a_BadName => first | k_is | rfl | (trace "BAD a_BadName"; trace_state; fail))
      (case a_BadPaper => first | k_is | rfl | (trace "BAD a_BadPaper"; trace_state; fail))
      (case a_BadPrices => first | k_is | rfl | (trace "BAD a_BadPrices"; trace_state; fail))
      (case a_BadText => first | k_is | rfl | (trace "BAD a_BadText"; trace_state; fail))
      (case a_BadWish => first | k_is | rfl | (trace "BAD a_BadWish"; trace_state; fail))
      (case a_BadWorld => first | k_is | rfl | (trace "BAD a_BadWorld"; trace_state; fail))
      (case a_NoName => first | k_is | rfl | (trace "BAD a_NoName"; trace_state; fail))
      (case a_Nothing => first | k_is | rfl | (trace "BAD a_Nothing"; trace_state; fail))
      (case a_TooMany => first | k_is | rfl | (trace "BAD a_TooMany"; trace_state; fail))
      (case a_WebError => first | k_is | rfl | (trace "BAD a_WebError"; trace_state; fail))
      (case a_NONE => first | k_is | rfl | (trace "BAD a_NONE"; trace_state; fail))
      (case a_NEVER => first | k_is | rfl | (trace "BAD a_NEVER"; trace_state; fail))
      (case a_MOST_STATE => first | k_is | rfl | (trace "BAD a_MOST_STATE"; trace_state; fail))
      (case m_Matrix_eq_at => first | k_is | rfl | (trace "BAD m_Matrix_eq_at"; trace_state; fail))
      (case m_Matrix_told_at => first | k_is | rfl | (trace "BAD m_Matrix_told_at"; trace_state; fail))
      (case M_Matrix_in => first | k_is | rfl | (trace "BAD M_Matrix_in"; trace_state; fail))
      (case r_iC_BadValue => first | k_is | rfl | (trace "BAD r_iC_BadValue"; trace_state; fail))
      (case r_iC_Misfit => first | k_is | rfl | (trace "BAD r_iC_Misfit"; trace_state; fail))
      (case r_iC_BadNumber => first | k_is | rfl | (trace "BAD r_iC_BadNumber"; trace_state; fail))
      (case l_Matrix_init => first | k_is | rfl | (trace "BAD l_Matrix_init"; trace_state; fail))
      (case l_Matrix_eq => first | k_is | rfl | (trace "BAD l_Matrix_eq"; trace_state; fail))
      (case l_Matrix_told => first | k_is | rfl | (trace "BAD l_Matrix_told"; trace_state; fail))
      (case l_is_integer => first | k_is | rfl | (trace "BAD l_is_integer"; trace_state; fail))
      (case l_is_between => first | k_is | rfl | (trace "BAD l_is_between"; trace_state; fail))
      (case l_is_listed => first | k_is | rfl | (trace "BAD l_is_listed"; trace_state; fail))
      (case l_are_entries => first | k_is | rfl | (trace "BAD l_are_entries"; trace_state; fail))
      (case l_times => first | k_is | rfl | (trace "BAD l_times"; trace_state; fail))
      (case l_behind_both => first | k_is | rfl | (trace "BAD l_behind_both"; trace_state; fail))
      (case l_need_matrix => first | k_is | rfl | (trace "BAD l_need_matrix"; trace_state; fail))
      (case l_product => first | k_is | rfl | (trace "BAD l_product"; trace_state; fail))
      (case l__law_pen => first | k_is | rfl | (trace "BAD l__law_pen"; trace_state; fail))
      (case l__law_draw => first | k_is | rfl | (trace "BAD l__law_draw"; trace_state; fail))
      (case l__law_pick => first | k_is | rfl | (trace "BAD l__law_pick"; trace_state; fail))
      (case l__law_ho_heard => first | k_is | rfl | (trace "BAD l__law_ho_heard"; trace_state; fail))
      (case l__law_b_times => first | k_is | rfl | (trace "BAD l__law_b_times"; trace_state; fail))
      (case l__law_b_product => first | k_is | rfl | (trace "BAD l__law_b_product"; trace_state; fail))
      (case l__law_b_lists => first | k_is | rfl | (trace "BAD l__law_b_lists"; trace_state; fail))
      (case l__law_mx => first | k_is | rfl | (trace "BAD l__law_mx"; trace_state; fail))
      (case l_law => first | k_is | rfl | (trace "BAD l_law"; trace_state; fail))
      (case l_fx_BadValue => first | k_is | rfl | (trace "BAD l_fx_BadValue"; trace_state; fail))
      (case l_fx_Misfit => first | k_is | rfl | (trace "BAD l_fx_Misfit"; trace_state; fail))
      (case l_fx_BadNumber => first | k_is | rfl | (trace "BAD l_fx_BadNumber"; trace_state; fail))
      (case dt_need_matrix => first | k_is | rfl | (trace "BAD dt_need_matrix"; trace_state; fail))
      (case X_BadValue_cl => first | k_is | rfl | (trace "BAD X_BadValue_cl"; trace_state; fail))
      (case X_BadValue_ce => first | k_is | rfl | (trace "BAD X_BadValue_ce"; trace_state; fail))
      (case X_BadValue_co => first | k_is | rfl | (trace "BAD X_BadValue_co"; trace_state; fail))
      (case X_Misfit_cl => first | k_is | rfl | (trace "BAD X_Misfit_cl"; trace_state; fail))
      (case X_Misfit_ce => first | k_is | rfl | (trace "BAD X_Misfit_ce"; trace_state; fail))
      (case X_Misfit_co => first | k_is | rfl | (trace "BAD X_Misfit_co"; trace_state; fail))
      (case X_BadNumber_cl => first | k_is | rfl | (trace "BAD X_BadNumber_cl"; trace_state; fail))
      (case X_BadNumber_ce => first | k_is | rfl | (trace "BAD X_BadNumber_ce"; trace_state; fail))
      (case X_BadNumber_co => first | k_is | rfl | (trace "BAD X_BadNumber_co"; trace_state; fail))
      (case cd_Matrix_initx => first | k_is | rfl | (trace "BAD cd_Matrix_initx"; trace_state; fail))
      (case kp_Matrix_init => first | k_is | rfl | (trace "BAD kp_Matrix_init"; trace_state; fail))
      (case cd_Matrix_eqx => first | k_is | rfl | (trace "BAD cd_Matrix_eqx"; trace_state; fail))
      (case kp_Matrix_eq => first | k_is | rfl | (trace "BAD kp_Matrix_eq"; trace_state; fail))
      (case m_Matrix_eq_fn => first | k_is | rfl | (trace "BAD m_Matrix_eq_fn"; trace_state; fail))
      (case cd_Matrix_toldx => first | k_is | rfl | (trace "BAD cd_Matrix_toldx"; trace_state; fail))
      (case kp_Matrix_told => first | k_is | rfl | (trace "BAD kp_Matrix_told"; trace_state; fail))
      (case m_Matrix_told_fn => first | k_is | rfl | (trace "BAD m_Matrix_told_fn"; trace_state; fail))
      (case cd_is_integerx => first | k_is | rfl | (trace "BAD cd_is_integerx"; trace_state; fail))
      (case kp_is_integer => first | k_is | rfl | (trace "BAD kp_is_integer"; trace_state; fail))
      (case cd_is_betweenx => first | k_is | rfl | (trace "BAD cd_is_betweenx"; trace_state; fail))
      (case kp_is_between => first | k_is | rfl | (trace "BAD kp_is_between"; trace_state; fail))
      (case cd_is_listedx => first | k_is | rfl | (trace "BAD cd_is_listedx"; trace_state; fail))
      (case kp_is_listed => first | k_is | rfl | (trace "BAD kp_is_listed"; trace_state; fail))
      (case cd_are_entriesx => first | k_is | rfl | (trace "BAD cd_are_entriesx"; trace_state; fail))
      (case kp_are_entries => first | k_is | rfl | (trace "BAD kp_are_entries"; trace_state; fail))
      (case cd_timesx => first | k_is | rfl | (trace "BAD cd_timesx"; trace_state; fail))
      (case kp_times => first | k_is | rfl | (trace "BAD kp_times"; trace_state; fail))
      (case cd_behind_bothx => first | k_is | rfl | (trace "BAD cd_behind_bothx"; trace_state; fail))
      (case kp_behind_both => first | k_is | rfl | (trace "BAD kp_behind_both"; trace_state; fail))
      (case cd_need_matrixx => first | k_is | rfl | (trace "BAD cd_need_matrixx"; trace_state; fail))
      (case kp_need_matrix => first | k_is | rfl | (trace "BAD kp_need_matrix"; trace_state; fail))
      (case cd_productx => first | k_is | rfl | (trace "BAD cd_productx"; trace_state; fail))
      (case kp_product => first | k_is | rfl | (trace "BAD kp_product"; trace_state; fail))
      (case cd__law_penx => first | k_is | rfl | (trace "BAD cd__law_penx"; trace_state; fail))
      (case kp__law_pen => first | k_is | rfl | (trace "BAD kp__law_pen"; trace_state; fail))
      (case cd__law_drawx => first | k_is | rfl | (trace "BAD cd__law_drawx"; trace_state; fail))
      (case kp__law_draw => first | k_is | rfl | (trace "BAD kp__law_draw"; trace_state; fail))
      (case cd__law_pickx => first | k_is | rfl | (trace "BAD cd__law_pickx"; trace_state; fail))
      (case kp__law_pick => first | k_is | rfl | (trace "BAD kp__law_pick"; trace_state; fail))
      (case cd__law_ho_heardx => first | k_is | rfl | (trace "BAD cd__law_ho_heardx"; trace_state; fail))
      (case kp__law_ho_heard => first | k_is | rfl | (trace "BAD kp__law_ho_heard"; trace_state; fail))
      (case cd__law_b_timesx => first | k_is | rfl | (trace "BAD cd__law_b_timesx"; trace_state; fail))
      (case kp__law_b_times => first | k_is | rfl | (trace "BAD kp__law_b_times"; trace_state; fail))
      (case cd__law_b_productx => first | k_is | rfl | (trace "BAD cd__law_b_productx"; trace_state; fail))
      (case kp__law_b_product => first | k_is | rfl | (trace "BAD kp__law_b_product"; trace_state; fail))
      (case cd__law_b_listsx => first | k_is | rfl | (trace "BAD cd__law_b_listsx"; trace_state; fail))
      (case kp__law_b_lists => first | k_is | rfl | (trace "BAD kp__law_b_lists"; trace_state; fail))
      (case cd__law_mxx => first | k_is | rfl | (trace "BAD cd__law_mxx"; trace_state; fail))
      (case kp__law_mx => first | k_is | rfl | (trace "BAD kp__law_mx"; trace_state; fail))
      (case cd_lawx => first | k_is | rfl | (trace "BAD cd_lawx"; trace_state; fail))
      (case kp_law => first | k_is | rfl | (trace "BAD kp_law"; trace_state; fail))
      (case cl_Matrix_pg => first | k_is | rfl | (trace "BAD cl_Matrix_pg"; trace_state; fail))
      (case cl_Matrix_hd => first | k_is | rfl | (trace "BAD cl_Matrix_hd"; trace_state; fail))
      (case cl_Matrix_po => first | k_is | rfl | (trace "BAD cl_Matrix_po"; trace_state; fail))
      (case cl_Matrix_sa => first | k_is | rfl | (trace "BAD cl_Matrix_sa"; trace_state; fail))
      (case is_Matrix_ha => first | k_is | rfl | (trace "BAD is_Matrix_ha"; trace_state; fail))
      (case is_Matrix_hn => first | k_is | rfl | (trace "BAD is_Matrix_hn"; trace_state; fail))
      (case is_Matrix_ht => first | k_is | rfl | (trace "BAD is_Matrix_ht"; trace_state; fail))
      (case is_Matrix_hm => first | k_is | rfl | (trace "BAD is_Matrix_hm"; trace_state; fail))
      (case M_Matrix_mk => first | k_is | rfl | (trace "BAD M_Matrix_mk"; trace_state; fail))
      (case M_Matrix_fn => first | k_is | rfl | (trace "BAD M_Matrix_fn"; trace_state; fail))
      (case M_Matrix_kp => first | k_is | rfl | (trace "BAD M_Matrix_kp"; trace_state; fail))
      (case r_na_Matrix_before => first | k_is | rfl | (trace "BAD r_na_Matrix_before"; trace_state; fail))
      (case r_na_Matrix_behind => first | k_is | rfl | (trace "BAD r_na_Matrix_behind"; trace_state; fail))
      (case r_na_Matrix_rows => first | k_is | rfl | (trace "BAD r_na_Matrix_rows"; trace_state; fail))
      (case q_Matrix_ne => first | k_is | rfl | (trace "BAD q_Matrix_ne"; trace_state; fail))
      (case r_kc_Matrix_Matrix => first | k_is | rfl | (trace "BAD r_kc_Matrix_Matrix"; trace_state; fail))
      (case r_kb_Matrix_bool => first | k_is | rfl | (trace "BAD r_kb_Matrix_bool"; trace_state; fail))
      (case r_kb_Matrix_int => first | k_is | rfl | (trace "BAD r_kb_Matrix_int"; trace_state; fail))
      (case r_kb_Matrix_list => first | k_is | rfl | (trace "BAD r_kb_Matrix_list"; trace_state; fail))
      (case r_kb_Matrix_tuple => first | k_is | rfl | (trace "BAD r_kb_Matrix_tuple"; trace_state; fail))
      (case r_nf_Matrix_NoneType => first | k_is | rfl | (trace "BAD r_nf_Matrix_NoneType"; trace_state; fail))
      (case r_nf_Matrix_bool => first | k_is | rfl | (trace "BAD r_nf_Matrix_bool"; trace_state; fail))
      (case r_nf_Matrix_int => first | k_is | rfl | (trace "BAD r_nf_Matrix_int"; trace_state; fail))
      (case r_nf_Matrix_str => first | k_is | rfl | (trace "BAD r_nf_Matrix_str"; trace_state; fail))
      (case r_nf_Matrix_list => first | k_is | rfl | (trace "BAD r_nf_Matrix_list"; trace_state; fail))
      (case r_nf_Matrix_tuple => first | k_is | rfl | (trace "BAD r_nf_Matrix_tuple"; trace_state; fail))
      (case r_nf_Matrix_Matrix => first | k_is | rfl | (trace "BAD r_nf_Matrix_Matrix"; trace_state; fail))
      (case r_kt_NoneType_Matrix => first | k_is | rfl | (trace "BAD r_kt_NoneType_Matrix"; trace_state; fail))
      (case r_kt_bool_Matrix => first | k_is | rfl | (trace "BAD r_kt_bool_Matrix"; trace_state; fail))
      (case r_kt_int_Matrix => first | k_is | rfl | (trace "BAD r_kt_int_Matrix"; trace_state; fail))
      (case r_kt_str_Matrix => first | k_is | rfl | (trace "BAD r_kt_str_Matrix"; trace_state; fail))
      (case r_kt_list_Matrix => first | k_is | rfl | (trace "BAD r_kt_list_Matrix"; trace_state; fail))
      (case r_kt_tuple_Matrix => first | k_is | rfl | (trace "BAD r_kt_tuple_Matrix"; trace_state; fail))
      (case X_BadValue_sa => first | k_is | rfl | (trace "BAD X_BadValue_sa"; trace_state; fail))
      (case X_BadValue_ex => first | k_is | rfl | (trace "BAD X_BadValue_ex"; trace_state; fail))
      (case X_BadValue_ty => first | k_is | rfl | (trace "BAD X_BadValue_ty"; trace_state; fail))
      (case X_BadValue_kC => first | k_is | rfl | (trace "BAD X_BadValue_kC"; trace_state; fail))
      (case X_BadValue_ow => first | k_is | rfl | (trace "BAD X_BadValue_ow"; trace_state; fail))
      (case X_BadValue_su => first | k_is | rfl | (trace "BAD X_BadValue_su"; trace_state; fail))
      (case X_BadValue_sb => first | k_is | rfl | (trace "BAD X_BadValue_sb"; trace_state; fail))
      (case X_BadValue_c2 => first | k_is | rfl | (trace "BAD X_BadValue_c2"; trace_state; fail))
      (case X_BadValue_c3 => first | k_is | rfl | (trace "BAD X_BadValue_c3"; trace_state; fail))
      (case X_BadValue_an => first | k_is | rfl | (trace "BAD X_BadValue_an"; trace_state; fail))
      (case X_BadValue_tp => first | k_is | rfl | (trace "BAD X_BadValue_tp"; trace_state; fail))
      (case cd_fx_BadValuex => first | k_is | rfl | (trace "BAD cd_fx_BadValuex"; trace_state; fail))
      (case r_tI_BadValue => first | k_is | rfl | (trace "BAD r_tI_BadValue"; trace_state; fail))
      (case ix_BadValue_hcl => first | k_is | rfl | (trace "BAD ix_BadValue_hcl"; trace_state; fail))
      (case ix_BadValue_hg => first | k_is | rfl | (trace "BAD ix_BadValue_hg"; trace_state; fail))
      (case ix_BadValue_hk => first | k_is | rfl | (trace "BAD ix_BadValue_hk"; trace_state; fail))
      (case ix_BadValue_hs => first | k_is | rfl | (trace "BAD ix_BadValue_hs"; trace_state; fail))
      (case ix_BadValue_hd => first | k_is | rfl | (trace "BAD ix_BadValue_hd"; trace_state; fail))
      (case ix_BadValue_ha => first | k_is | rfl | (trace "BAD ix_BadValue_ha"; trace_state; fail))
      (case ix_BadValue_hn => first | k_is | rfl | (trace "BAD ix_BadValue_hn"; trace_state; fail))
      (case ix_BadValue_ht => first | k_is | rfl | (trace "BAD ix_BadValue_ht"; trace_state; fail))
      (case ix_BadValue_hm => first | k_is | rfl | (trace "BAD ix_BadValue_hm"; trace_state; fail))
      (case r_xm_BadValue => first | k_is | rfl | (trace "BAD r_xm_BadValue"; trace_state; fail))
      (case r_nx_BadValue_part => first | k_is | rfl | (trace "BAD r_nx_BadValue_part"; trace_state; fail))
      (case r_kx_BadValue_BadGrowth => first | k_is | rfl | (trace "BAD r_kx_BadValue_BadGrowth"; trace_state; fail))
      (case r_kx_BadValue_BadLine => first | k_is | rfl | (trace "BAD r_kx_BadValue_BadLine"; trace_state; fail))
      (case r_kx_BadValue_BadName => first | k_is | rfl | (trace "BAD r_kx_BadValue_BadName"; trace_state; fail))
      (case r_kx_BadValue_BadNumber => first | k_is | rfl | (trace "BAD r_kx_BadValue_BadNumber"; trace_state; fail))
      (case r_kx_BadValue_BadPaper => first | k_is | rfl | (trace "BAD r_kx_BadValue_BadPaper"; trace_state; fail))
      (case r_kx_BadValue_BadPrices => first | k_is | rfl | (trace "BAD r_kx_BadValue_BadPrices"; trace_state; fail))
      (case r_kx_BadValue_BadText => first | k_is | rfl | (trace "BAD r_kx_BadValue_BadText"; trace_state; fail))
      (case r_kx_BadValue_BadValue => first | k_is | rfl | (trace "BAD r_kx_BadValue_BadValue"; trace_state; fail))
      (case r_kx_BadValue_BadWish => first | k_is | rfl | (trace "BAD r_kx_BadValue_BadWish"; trace_state; fail))
      (case r_kx_BadValue_BadWorld => first | k_is | rfl | (trace "BAD r_kx_BadValue_BadWorld"; trace_state; fail))
      (case r_kx_BadValue_Misfit => first | k_is | rfl | (trace "BAD r_kx_BadValue_Misfit"; trace_state; fail))
      (case r_kx_BadValue_NoName => first | k_is | rfl | (trace "BAD r_kx_BadValue_NoName"; trace_state; fail))
      (case r_kx_BadValue_Nothing => first | k_is | rfl | (trace "BAD r_kx_BadValue_Nothing"; trace_state; fail))
      (case r_kx_BadValue_TooMany => first | k_is | rfl | (trace "BAD r_kx_BadValue_TooMany"; trace_state; fail))
      (case X_Misfit_sa => first | k_is | rfl | (trace "BAD X_Misfit_sa"; trace_state; fail))
      (case X_Misfit_ex => first | k_is | rfl | (trace "BAD X_Misfit_ex"; trace_state; fail))
      (case X_Misfit_ty => first | k_is | rfl | (trace "BAD X_Misfit_ty"; trace_state; fail))
      (case X_Misfit_kC => first | k_is | rfl | (trace "BAD X_Misfit_kC"; trace_state; fail))
      (case X_Misfit_ow => first | k_is | rfl | (trace "BAD X_Misfit_ow"; trace_state; fail))
      (case X_Misfit_su => first | k_is | rfl | (trace "BAD X_Misfit_su"; trace_state; fail))
      (case X_Misfit_sb => first | k_is | rfl | (trace "BAD X_Misfit_sb"; trace_state; fail))
      (case X_Misfit_c2 => first | k_is | rfl | (trace "BAD X_Misfit_c2"; trace_state; fail))
      (case X_Misfit_c3 => first | k_is | rfl | (trace "BAD X_Misfit_c3"; trace_state; fail))
      (case X_Misfit_an => first | k_is | rfl | (trace "BAD X_Misfit_an"; trace_state; fail))
      (case X_Misfit_tp => first | k_is | rfl | (trace "BAD X_Misfit_tp"; trace_state; fail))
      (case cd_fx_Misfitx => first | k_is | rfl | (trace "BAD cd_fx_Misfitx"; trace_state; fail))
      (case r_tI_Misfit => first | k_is | rfl | (trace "BAD r_tI_Misfit"; trace_state; fail))
      (case ix_Misfit_hcl => first | k_is | rfl | (trace "BAD ix_Misfit_hcl"; trace_state; fail))
      (case ix_Misfit_hg => first | k_is | rfl | (trace "BAD ix_Misfit_hg"; trace_state; fail))
      (case ix_Misfit_hk => first | k_is | rfl | (trace "BAD ix_Misfit_hk"; trace_state; fail))
      (case ix_Misfit_hs => first | k_is | rfl | (trace "BAD ix_Misfit_hs"; trace_state; fail))
      (case ix_Misfit_hd => first | k_is | rfl | (trace "BAD ix_Misfit_hd"; trace_state; fail))
      (case ix_Misfit_ha => first | k_is | rfl | (trace "BAD ix_Misfit_ha"; trace_state; fail))
      (case ix_Misfit_hn => first | k_is | rfl | (trace "BAD ix_Misfit_hn"; trace_state; fail))
      (case ix_Misfit_ht => first | k_is | rfl | (trace "BAD ix_Misfit_ht"; trace_state; fail))
      (case ix_Misfit_hm => first | k_is | rfl | (trace "BAD ix_Misfit_hm"; trace_state; fail))
      (case r_xm_Misfit => first | k_is | rfl | (trace "BAD r_xm_Misfit"; trace_state; fail))
      (case r_nx_Misfit_part => first | k_is | rfl | (trace "BAD r_nx_Misfit_part"; trace_state; fail))
      (case r_kx_Misfit_BadGrowth => first | k_is | rfl | (trace "BAD r_kx_Misfit_BadGrowth"; trace_state; fail))
      (case r_kx_Misfit_BadLine => first | k_is | rfl | (trace "BAD r_kx_Misfit_BadLine"; trace_state; fail))
      (case r_kx_Misfit_BadName => first | k_is | rfl | (trace "BAD r_kx_Misfit_BadName"; trace_state; fail))
      (case r_kx_Misfit_BadNumber => first | k_is | rfl | (trace "BAD r_kx_Misfit_BadNumber"; trace_state; fail))
      (case r_kx_Misfit_BadPaper => first | k_is | rfl | (trace "BAD r_kx_Misfit_BadPaper"; trace_state; fail))
      (case r_kx_Misfit_BadPrices => first | k_is | rfl | (trace "BAD r_kx_Misfit_BadPrices"; trace_state; fail))
      (case r_kx_Misfit_BadText => first | k_is | rfl | (trace "BAD r_kx_Misfit_BadText"; trace_state; fail))
      (case r_kx_Misfit_BadValue => first | k_is | rfl | (trace "BAD r_kx_Misfit_BadValue"; trace_state; fail))
      (case r_kx_Misfit_BadWish => first | k_is | rfl | (trace "BAD r_kx_Misfit_BadWish"; trace_state; fail))
      (case r_kx_Misfit_BadWorld => first | k_is | rfl | (trace "BAD r_kx_Misfit_BadWorld"; trace_state; fail))
      (case r_kx_Misfit_Misfit => first | k_is | rfl | (trace "BAD r_kx_Misfit_Misfit"; trace_state; fail))
      (case r_kx_Misfit_NoName => first | k_is | rfl | (trace "BAD r_kx_Misfit_NoName"; trace_state; fail))
      (case r_kx_Misfit_Nothing => first | k_is | rfl | (trace "BAD r_kx_Misfit_Nothing"; trace_state; fail))
      (case r_kx_Misfit_TooMany => first | k_is | rfl | (trace "BAD r_kx_Misfit_TooMany"; trace_state; fail))
      (case X_BadNumber_sa => first | k_is | rfl | (trace "BAD X_BadNumber_sa"; trace_state; fail))
      (case X_BadNumber_ex => first | k_is | rfl | (trace "BAD X_BadNumber_ex"; trace_state; fail))
      (case X_BadNumber_ty => first | k_is | rfl | (trace "BAD X_BadNumber_ty"; trace_state; fail))
      (case X_BadNumber_kC => first | k_is | rfl | (trace "BAD X_BadNumber_kC"; trace_state; fail))
      (case X_BadNumber_ow => first | k_is | rfl | (trace "BAD X_BadNumber_ow"; trace_state; fail))
      (case X_BadNumber_su => first | k_is | rfl | (trace "BAD X_BadNumber_su"; trace_state; fail))
      (case X_BadNumber_sb => first | k_is | rfl | (trace "BAD X_BadNumber_sb"; trace_state; fail))
      (case X_BadNumber_c2 => first | k_is | rfl | (trace "BAD X_BadNumber_c2"; trace_state; fail))
      (case X_BadNumber_c3 => first | k_is | rfl | (trace "BAD X_BadNumber_c3"; trace_state; fail))
      (case X_BadNumber_an => first | k_is | rfl | (trace "BAD X_BadNumber_an"; trace_state; fail))
      (case X_BadNumber_tp => first | k_is | rfl | (trace "BAD X_BadNumber_tp"; trace_state; fail))
      (case cd_fx_BadNumberx => first | k_is | rfl | (trace "BAD cd_fx_BadNumberx"; trace_state; fail))
      (case r_tI_BadNumber => first | k_is | rfl | (trace "BAD r_tI_BadNumber"; trace_state; fail))
      (case ix_BadNumber_hcl => first | k_is | rfl | (trace "BAD ix_BadNumber_hcl"; trace_state; fail))
      (case ix_BadNumber_hg => first | k_is | rfl | (trace "BAD ix_BadNumber_hg"; trace_state; fail))
      (case ix_BadNumber_hk => first | k_is | rfl | (trace "BAD ix_BadNumber_hk"; trace_state; fail))
      (case ix_BadNumber_hs => first | k_is | rfl | (trace "BAD ix_BadNumber_hs"; trace_state; fail))
      (case ix_BadNumber_hd => first | k_is | rfl | (trace "BAD ix_BadNumber_hd"; trace_state; fail))
      (case ix_BadNumber_ha => first | k_is | rfl | (trace "BAD ix_BadNumber_ha"; trace_state; fail))
      (case ix_BadNumber_hn => first | k_is | rfl | (trace "BAD ix_BadNumber_hn"; trace_state; fail))
      (case ix_BadNumber_ht => first | k_is | rfl | (trace "BAD ix_BadNumber_ht"; trace_state; fail))
      (case ix_BadNumber_hm => first | k_is | rfl | (trace "BAD ix_BadNumber_hm"; trace_state; fail))
      (case r_xm_BadNumber => first | k_is | rfl | (trace "BAD r_xm_BadNumber"; trace_state; fail))
      (case r_nx_BadNumber_part => first | k_is | rfl | (trace "BAD r_nx_BadNumber_part"; trace_state; fail))
      (case r_kx_BadNumber_BadGrowth => first | k_is | rfl | (trace "BAD r_kx_BadNumber_BadGrowth"; trace_state; fail))
      (case r_kx_BadNumber_BadLine => first | k_is | rfl | (trace "BAD r_kx_BadNumber_BadLine"; trace_state; fail))
      (case r_kx_BadNumber_BadName => first | k_is | rfl | (trace "BAD r_kx_BadNumber_BadName"; trace_state; fail))
      (case r_kx_BadNumber_BadNumber => first | k_is | rfl | (trace "BAD r_kx_BadNumber_BadNumber"; trace_state; fail))
      (case r_kx_BadNumber_BadPaper => first | k_is | rfl | (trace "BAD r_kx_BadNumber_BadPaper"; trace_state; fail))
      (case r_kx_BadNumber_BadPrices => first | k_is | rfl | (trace "BAD r_kx_BadNumber_BadPrices"; trace_state; fail))
      (case r_kx_BadNumber_BadText => first | k_is | rfl | (trace "BAD r_kx_BadNumber_BadText"; trace_state; fail))
      (case r_kx_BadNumber_BadValue => first | k_is | rfl | (trace "BAD r_kx_BadNumber_BadValue"; trace_state; fail))
      (case r_kx_BadNumber_BadWish => first | k_is | rfl | (trace "BAD r_kx_BadNumber_BadWish"; trace_state; fail))
      (case r_kx_BadNumber_BadWorld => first | k_is | rfl | (trace "BAD r_kx_BadNumber_BadWorld"; trace_state; fail))
      (case r_kx_BadNumber_Misfit => first | k_is | rfl | (trace "BAD r_kx_BadNumber_Misfit"; trace_state; fail))
      (case r_kx_BadNumber_NoName => first | k_is | rfl | (trace "BAD r_kx_BadNumber_NoName"; trace_state; fail))
      (case r_kx_BadNumber_Nothing => first | k_is | rfl | (trace "BAD r_kx_BadNumber_Nothing"; trace_state; fail))
      (case r_kx_BadNumber_TooMany => first | k_is | rfl | (trace "BAD r_kx_BadNumber_TooMany"; trace_state; fail))
      (case zz_len => first | k_is | rfl | (trace "BAD zz_len"; trace_state; fail))
      (case zz_abs => first | k_is | rfl | (trace "BAD zz_abs"; trace_state; fail))
      (case zz_max => first | k_is | rfl | (trace "BAD zz_max"; trace_state; fail))
      (case zz_min => first | k_is | rfl | (trace "BAD zz_min"; trace_state; fail))
      (case zz_all => first | k_is | rfl | (trace "BAD zz_all"; trace_state; fail))
      (case zz_any => first | k_is | rfl | (trace "BAD zz_any"; trace_state; fail))
      (case zz_sum => first | k_is | rfl | (trace "BAD zz_sum"; trace_state; fail))
      (case zz_isinstance => first | k_is | rfl | (trace "BAD zz_isinstance"; trace_state; fail))
      (case zz_repr => first | k_is | rfl | (trace "BAD zz_repr"; trace_state; fail))
      (case zz_sorted => first | k_is | rfl | (trace "BAD zz_sorted"; trace_state; fail))
      (case zz_enumerate => first | k_is | rfl | (trace "BAD zz_enumerate"; trace_state; fail))
      (case zz_zip => first | k_is | rfl | (trace "BAD zz_zip"; trace_state; fail))
      (case zz_range => first | k_is | rfl | (trace "BAD zz_range"; trace_state; fail))
      (case zz_int => first | k_is | rfl | (trace "BAD zz_int"; trace_state; fail))
      (case zz_tuple => first | k_is | rfl | (trace "BAD zz_tuple"; trace_state; fail))
      (case zz_list => first | k_is | rfl | (trace "BAD zz_list"; trace_state; fail))
      (case zz_bool => first | k_is | rfl | (trace "BAD zz_bool"; trace_state; fail))
      (case zz_str => first | k_is | rfl | (trace "BAD zz_str"; trace_state; fail))
      (case zz_dict => first | k_is | rfl | (trace "BAD zz_dict"; trace_state; fail))
      (case zz_set => first | k_is | rfl | (trace "BAD zz_set"; trace_state; fail))
      (case zz_super => first | k_is | rfl | (trace "BAD zz_super"; trace_state; fail))
      all_goals exact PySem.Value.none
    case plw =>
      refine' ⟨_, _, _, _, _, _, _, _, _, _, _, _, _, _, _, ?lw0, ?lw1, ?lw2, ?lw3, ?lw4, ?lw5, ?lw6, ?lw7⟩
      (case lw0 => first | k_is | rfl | kernel_rfl | (trace "BAD lw0"; trace_state; fail))
      (case lw1 => first | k_is | rfl | kernel_rfl | (trace "BAD lw1"; trace_state; fail))
      (case lw2 => first | k_is | rfl | kernel_rfl | (trace "BAD lw2"; trace_state; fail))
      (case lw3 => first | k_is | rfl | kernel_rfl | (trace "BAD lw3"; trace_state; fail))
      (case lw4 => first | rfl | (trace "BAD lw4"; trace_state; fail))
      (case lw5 => first | k_is | rfl | kernel_rfl | (trace "BAD lw5"; trace_state; fail))
      (case lw6 => first | k_is | rfl | kernel_rfl | (trace "BAD lw6"; trace_state; fail))
      (case lw7 => exact PySem.W.km_tabs_of Y _ (by k_mem))
    case qtx =>
      intro A T L
      exact K25.law_at T hmg L KX G (K25.plain T)
