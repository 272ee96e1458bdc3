import PyProof.Rows.All
import Wide.All
import OpenK.AllK
import Wide.FinOn
import HandS.ForMost
import HandS.Evl
import HandS.Steps
import HandS.Wide
import HandS.Defaults
import HandS.IsInst
import HandS.SetFor
import HandS.Walk
import PyProof.ListStr
import HandS.TupLe
import HandS.Zip
import HandS.Text
import HandS.Star
import HandS.More
import HandS.SortInts
import HandS.Set
import HandS.Strs
import KE.GoesMore
import HandS.Conv
import KE.KStateDown
import Lean
import HandS.WordsExc
import HandS.Head0
import HandS.Head1
import HandS.Head2
import HandS.HeadEnd
import HandS.HeadHook1
import HandS.HeadHook2
import PySem.Challenge.RW_stepfields_k05_whole_wide_fields_alike
set_option Elab.async false
set_option linter.all false
set_option maxRecDepth 100000
set_option maxHeartbeats 4000000
namespace Sf
open PySem PySem.Spec PyProof.Rows L2 Evl

/-! things that change in place: a list that is being built (MutO: its content is told by the object alone), dicts, sets, instances -/
def MutO (a : Addr) (ws : List V) : HO := .ext fun h => ws.length ≤ sizeLine ∧ ∃ (its : List Value) (n : Nat), Vals ws its ∧ h.get? a = some { cls := .type "list", data := .seq its.toArray n }
def SrcO (S : Addr) : HO := .ext fun h => ∃ (x y : Int) (its : List Value) (n : Nat), 0 ≤ y ∧ y < 2147483647 ∧ Vals [.int x, .int y] its ∧ h.get? S = some { cls := .type "list", data := .seq its.toArray n }
inductive IsM (a : Addr) : HO → Prop
  | m (ws : List V) : IsM a (MutO a ws)
  | dK (k : List (Key × V)) : IsM a (.dK k)
  | dT (k : List (List Key × V)) : IsM a (.dT k)
  | set (S : Int → Bool) (n : Nat) : IsM a (.set S n)
  | ins (C dx : Addr) (fs : List (Str × V)) : IsM a (.ins C dx fs)
/-- all but such things is kept -/
def Ey (H H' : Hp) : Prop := ∀ a o, H a = some o → IsM a o ∨ H' a = some o
theorem Ey.refl (H : Hp) : Ey H H := fun _ _ h => .inr h
theorem _root_.Evl.Ex.y {H H' : Hp} (e : Ex H H') : Ey H H' := fun a o h => .inr (e a o h)
theorem Ey.trans {H H1 H2 : Hp} (a : Ey H H1) (b : Ey H1 H2) : Ey H H2 := fun x o h => by
  rcases a x o h with z | z
  · exact .inl z
  · exact b x o z
theorem ey_lst {H H' : Hp} {a : Addr} {xs : List V} (e : Ey H H') (h : H a = some (.lst xs)) : H' a = some (.lst xs) := by
  rcases e _ _ h with z | z
  · cases z
  · exact z
theorem ey_tup {H H' : Hp} {a : Addr} {xs : List V} (e : Ey H H') (h : H a = some (.tup xs)) : H' a = some (.tup xs) := by
  rcases e _ _ h with z | z
  · cases z
  · exact z
theorem ey_frz {H H' : Hp} {a : Addr} {o : Obj} {u : HO} (e : Ey H H') (h : H a = some (.frz o u)) : H' a = some (.frz o u) := by
  rcases e _ _ h with z | z
  · cases z
  · exact z
theorem ey_l {K : PySem.W.Frag} {H H' : Hp} {a : Addr} {xs : List V} (e : Ey H H') (h : SqL K H a xs) : SqL K H' a xs := by
  rcases h with (h | ⟨o, h⟩) | h
  · exact .inl (.inl (ey_lst e h))
  · exact .inl (.inr ⟨o, ey_frz e h⟩)
  · exact .inr h
theorem ey_t {K : PySem.W.Frag} {H H' : Hp} {a : Addr} {xs : List V} (e : Ey H H') (h : SqT K H a xs) : SqT K H' a xs := by
  rcases h with (h | ⟨o, h⟩) | h
  · exact .inl (.inl (ey_tup e h))
  · exact .inl (.inr ⟨o, ey_frz e h⟩)
  · exact .inr h
def heapAt (a : Addr) (o : Obj) : Heap := { objs := Array.replicate (a + 1) o }
theorem heapAt_get (a : Addr) (x y : Int) : (heapAt a { cls := .type "list", data := .seq #[Value.int x 0, Value.int y 0] 0 }).get? a = some { cls := .type "list", data := .seq #[Value.int x 0, Value.int y 0] 0 } := by
  unfold heapAt Heap.get?
  rw [Array.getElem?_replicate, if_pos (Nat.lt_succ_self a)]
theorem src_ne {S : Addr} {ws : List V} : SrcO S ≠ MutO S ws := by
  intro e
  unfold SrcO MutO at e
  have ef := HO.ext.inj e
  have go : ∀ x : Int, ∃ u, ws[0]? = some u ∧ ∃ t, RelV u (Value.int x t) := by
    intro x
    have e1 := congrFun ef (heapAt S { cls := .type "list", data := .seq #[Value.int x 0, Value.int 0 0] 0 })
    have p : (∃ (x' y' : Int) (its : List Value) (n : Nat), 0 ≤ y' ∧ y' < 2147483647 ∧ Vals [.int x', .int y'] its ∧ (heapAt S { cls := .type "list", data := .seq #[Value.int x 0, Value.int 0 0] 0 }).get? S = some { cls := .type "list", data := .seq its.toArray n }) :=
      ⟨x, 0, [Value.int x 0, Value.int 0 0], 0, by decide, by decide, .cons ⟨0, rfl⟩ (.cons ⟨0, rfl⟩ .nil), heapAt_get S x 0⟩
    have p2 : ws.length ≤ sizeLine ∧ ∃ (its : List Value) (n : Nat), Vals ws its ∧ (heapAt S { cls := .type "list", data := .seq #[Value.int x 0, Value.int 0 0] 0 }).get? S = some { cls := .type "list", data := .seq its.toArray n } := Eq.mp e1 p
    rw [heapAt_get] at p2
    obtain ⟨_, its, n, r, e2⟩ := p2
    have e3 : [Value.int x 0, Value.int 0 0] = its := by
      have e4 := Option.some.inj e2
      injection e4 with _ _ e5
      injection e5 with e6
      exact congrArg Array.toList e6
    subst e3
    cases r with
    | cons r0 _ => exact ⟨_, rfl, 0, r0⟩
  obtain ⟨u, h1, t1, r1⟩ := go 0
  obtain ⟨v, h2, t2, r2⟩ := go 1
  rw [h1] at h2
  cases h2
  cases u with
  | int i =>
    obtain ⟨t, e1⟩ := r1
    obtain ⟨t', e2⟩ := r2
    injection e1 with e1 _
    injection e2 with e2 _
    omega
  | _ => first | (obtain ⟨_, e1⟩ := r1; cases e1) | (have e1 : Value.int 0 t1 = _ := r1; cases e1)
theorem ey_src {H H' : Hp} {S : Addr} (e : Ey H H') (h : H S = some (SrcO S)) : H' S = some (SrcO S) := by
  rcases e _ _ h with z | z
  · have g : ∀ o, IsM S o → o = SrcO S → False := by
      intro o z e
      cases z with
      | m ws => exact src_ne e.symm
      | _ => unfold SrcO at e; cases e
    exact (g _ z rfl).elim
  · exact z
/-- a list that is known to the object: the script -/
def SqF (K : PySem.W.Frag) (H : Hp) (a : Addr) (xs : List V) : Prop := (∃ o, H a = some (.frz o (.lst xs))) ∨ ((∀ H', SqL K H' a xs))
theorem SqF.l {K : PySem.W.Frag} {H : Hp} {a : Addr} {xs : List V} (h : SqF K H a xs) : SqL K H a xs := by
  rcases h with ⟨o, h⟩ | h
  · exact .inl (.inr ⟨o, h⟩)
  · exact h H
theorem SqF.of {K : PySem.W.Frag} {H : Hp} {a : Addr} {xs : List V} (o : Only H) (h : SqL K H a xs) : SqF K H a xs := by
  rcases h with (h | ⟨ob, h⟩) | h
  · rcases o a with z | ⟨_, _, z⟩
    · rw [z] at h
      cases h
    · rw [z] at h
      cases h
  · exact .inl ⟨ob, h⟩
  · exact .inr fun _ => .inr h
theorem eyF {K : PySem.W.Frag} {H H' : Hp} {a : Addr} {xs : List V} (e : Ey H H') (h : SqF K H a xs) : SqF K H' a xs := by
  rcases h with ⟨o, h⟩ | h
  · exact .inl ⟨o, ey_frz e h⟩
  · exact .inr h
theorem exF {K : PySem.W.Frag} {H H' : Hp} {a : Addr} {xs : List V} (e : Ex H H') (h : SqF K H a xs) : SqF K H' a xs := eyF e.y h
theorem zF {K : PySem.W.Frag} {H : Hp} {a l : Addr} {xs ws : List V} {o : HO} (hl : H l = some (.lst ws)) (h : SqF K H a xs) : SqF K (upd H l o) a xs := by
  rcases h with ⟨ob, h⟩ | h
  · exact .inl ⟨ob, by rw [upd_ne (ne_of h hl (by intro z; cases z))]; exact h⟩
  · exact .inr h
/-! typed data over the abstract heap -/
class Rep (α : Type) where
  rel : PySem.W.Frag → Hp → V → α → Prop
  moY : ∀ {K : PySem.W.Frag} {H H' : Hp} {v : V} {x : α}, Ey H H' → rel K H v x → rel K H' v x
theorem Rep.mono {α : Type} [Rep α] {K : PySem.W.Frag} {H H' : Hp} {v : V} {x : α} (e : Ex H H') (h : Rep.rel K H v x) : Rep.rel K H' v x := Rep.moY e.y h
instance : Rep Int := ⟨fun _ _ v x => v = .int x, fun _ h => h⟩
instance : Rep Bool := ⟨fun _ _ v x => v = .bl x, fun _ h => h⟩
instance : Rep Str := ⟨fun _ _ v x => v = .str x, fun _ h => h⟩
instance : Rep Unit := ⟨fun _ _ v _ => v = .non, fun _ h => h⟩
instance : Rep V := ⟨fun _ _ v x => v = x, fun _ h => h⟩
/-- a text of one sign -/
structure Sg where
  c : Nat
deriving DecidableEq
instance : Rep Sg := ⟨fun _ _ v x => v = .str ⟨#[x.c]⟩, fun _ h => h⟩
/-- a field's seven parts -/
structure Fld where
  low : Int
  high : Int
  step : Int
  base : Int
  off : Str
  ends : Str
  big : Int
deriving DecidableEq
def Fld.vs (f : Fld) : List V := [.int f.low, .int f.high, .int f.step, .int f.base, .str f.off, .str f.ends, .int f.big]
instance : Rep Fld := ⟨fun K H v f => ∃ a, v = .ref a ∧ SqT K H a f.vs, fun e ⟨a, h1, h2⟩ => ⟨a, h1, ey_t e h2⟩⟩
instance {α β : Type} [Rep α] [Rep β] : Rep (α × β) := ⟨fun K H v x => ∃ a v1 v2, v = .ref a ∧ SqT K H a [v1, v2] ∧ Rep.rel K H v1 x.1 ∧ Rep.rel K H v2 x.2,
  fun e ⟨a, v1, v2, h, h1, h2, h3⟩ => ⟨a, v1, v2, h, ey_t e h1, Rep.moY e h2, Rep.moY e h3⟩⟩
structure Tri (α β γ : Type) where
  a : α
  b : β
  c : γ
deriving DecidableEq
instance {α β γ : Type} [Rep α] [Rep β] [Rep γ] : Rep (Tri α β γ) := ⟨fun K H v x => ∃ a v1 v2 v3, v = .ref a ∧ SqT K H a [v1, v2, v3] ∧ Rep.rel K H v1 x.a ∧ Rep.rel K H v2 x.b ∧ Rep.rel K H v3 x.c,
  fun e ⟨a, v1, v2, v3, h, h1, h2, h3, h4⟩ => ⟨a, v1, v2, v3, h, ey_t e h1, Rep.moY e h2, Rep.moY e h3, Rep.moY e h4⟩⟩
def rels {α : Type} [Rep α] (K : PySem.W.Frag) (H : Hp) : List V → List α → Prop := Paired (fun v x => Rep.rel K H v x)
theorem rels_moY {α : Type} [Rep α] {K : PySem.W.Frag} {H H' : Hp} {vs : List V} {xs : List α} (e : Ey H H') (h : rels K H vs xs) : rels K H' vs xs := Paired.mapP h fun _ _ => Rep.moY e
theorem rels_mono {α : Type} [Rep α] {K : PySem.W.Frag} {H H' : Hp} {vs : List V} {xs : List α} (e : Ex H H') (h : rels K H vs xs) : rels K H' vs xs := rels_moY e.y h
instance {α : Type} [Rep α] : Rep (List α) := ⟨fun K H v xs => ∃ a vs, v = .ref a ∧ H a = some (.lst vs) ∧ rels K H vs xs, fun e ⟨a, vs, h, h1, h2⟩ => ⟨a, vs, h, ey_lst e h1, rels_moY e h2⟩⟩
/-- a tuple of things of one kind -/
structure Tpl (α : Type) where
  l : List α
deriving DecidableEq
instance {α : Type} [Rep α] : Rep (Tpl α) := ⟨fun K H v xs => ∃ a vs, v = .ref a ∧ SqT K H a vs ∧ rels K H vs xs.l, fun e ⟨a, vs, h, h1, h2⟩ => ⟨a, vs, h, ey_t e h1, rels_moY e h2⟩⟩
/-- None or a thing -/
instance {α : Type} [Rep α] : Rep (Option α) := ⟨fun K H v x => match x with
  | none => v = .non
  | some y => Rep.rel K H v y, fun {K H H' v x} e h => by
    cases x with
    | none => exact h
    | some y => exact Rep.moY e h⟩

/-- data that no change of a list touches -/
class Imm (α : Type) [Rep α] : Prop where
  imm : ∀ {K : PySem.W.Frag} {H : Hp} {v : V} {x : α} {l : Addr} {ws ws' : List V}, H l = some (.lst ws) → Rep.rel K H v x → Rep.rel K (upd H l (.lst ws')) v x
theorem sqT_imm {K : PySem.W.Frag} {H : Hp} {a l : Addr} {xs ws ws' : List V} (hl : H l = some (.lst ws)) (h : SqT K H a xs) : SqT K (upd H l (.lst ws')) a xs := by
  rcases h with (h | ⟨o, h⟩) | h
  · exact .inl (.inl (by rw [upd_ne (ne_of h hl (by intro z; cases z))]; exact h))
  · exact .inl (.inr ⟨o, by rw [upd_ne (ne_of h hl (by intro z; cases z))]; exact h⟩)
  · exact .inr h
instance : Imm Int := ⟨fun _ h => h⟩
instance : Imm Bool := ⟨fun _ h => h⟩
instance : Imm Str := ⟨fun _ h => h⟩
instance : Imm Unit := ⟨fun _ h => h⟩
instance : Imm V := ⟨fun _ h => h⟩
instance : Imm Sg := ⟨fun _ h => h⟩
instance : Imm Fld := ⟨fun hl ⟨a, h, hs⟩ => ⟨a, h, sqT_imm hl hs⟩⟩
instance {α β : Type} [Rep α] [Rep β] [Imm α] [Imm β] : Imm (α × β) := ⟨fun hl ⟨a, v1, v2, h, hs, h1, h2⟩ => ⟨a, v1, v2, h, sqT_imm hl hs, Imm.imm hl h1, Imm.imm hl h2⟩⟩
instance {α β γ : Type} [Rep α] [Rep β] [Rep γ] [Imm α] [Imm β] [Imm γ] : Imm (Tri α β γ) := ⟨fun hl ⟨a, v1, v2, v3, h, hs, h1, h2, h3⟩ => ⟨a, v1, v2, v3, h, sqT_imm hl hs, Imm.imm hl h1, Imm.imm hl h2, Imm.imm hl h3⟩⟩
theorem rels_imm {α : Type} [Rep α] [Imm α] {K : PySem.W.Frag} {H : Hp} {vs : List V} {xs : List α} {l : Addr} {ws ws' : List V} (hl : H l = some (.lst ws)) (h : rels K H vs xs) : rels K (upd H l (.lst ws')) vs xs := Paired.mapP h fun _ _ => Imm.imm hl
instance {α : Type} [Rep α] [Imm α] : Imm (Tpl α) := ⟨fun hl ⟨a, vs, h, hs, hr⟩ => ⟨a, vs, h, sqT_imm hl hs, rels_imm hl hr⟩⟩
instance {α : Type} [Rep α] [Imm α] : Imm (Option α) := ⟨fun {K H v x l ws ws'} hl h => by
  cases x with
  | none => exact h
  | some y => exact Imm.imm (x := y) hl h⟩

/-! what evaluates to what -/
def ER {α : Type} [Rep α] (K : PySem.W.Frag) (te : TE) (σ : L2.St) (H : Hp) (x : α) : Prop := ∀ H1, Ex H H1 → ∀ Q : VK, (∀ v H2, Ex H1 H2 → Rep.rel K H2 v x → Q v H2) → te σ H1 Q
def ET (_ : PySem.W.Frag) (tt : TT) (σ : L2.St) (H : Hp) (b : Bool) : Prop := EvT tt σ H b

section
variable {K : PySem.W.Frag} {σ : L2.St} {H H' : Hp} {ta tb te tc tx : TE} {t u : TT} {i j : Int} {v : V} {a b : Bool}
theorem er_var {α : Type} [Rep α] {x : α} {n : Nat} (h : σ[n]? = some (some v)) (r : Rep.rel K H v x) : ER K (tVar n) σ H x := fun H1 e _ q => ⟨v, h, q v H1 (Ex.refl H1) (Rep.mono e r)⟩
theorem er_varI {n : Nat} (h : σ[n]? = some (some (.int i))) : ER K (tVar n) σ H i := er_var h rfl
theorem er_varB {n : Nat} (h : σ[n]? = some (some (.bl a))) : ER K (tVar n) σ H a := er_var h rfl
theorem er_varS {n : Nat} {x : Str} (h : σ[n]? = some (some (.str x))) : ER K (tVar n) σ H x := er_var h rfl
theorem er_int : ER K (tC (.int i)) σ H i := fun H1 _ _ q => q _ H1 (Ex.refl H1) rfl
theorem er_bl : ER K (tC (.bl a)) σ H a := fun H1 _ _ q => q _ H1 (Ex.refl H1) rfl
theorem er_str {x : Str} : ER K (tC (.str x)) σ H x := fun H1 _ _ q => q _ H1 (Ex.refl H1) rfl
theorem er_ref {α : Type} [Rep α] {x : α} {p : Addr} (r : Rep.rel K H (.ref p) x) : ER K (tC (.ref p)) σ H x := fun H1 e _ q => q _ H1 (Ex.refl H1) (Rep.mono e r)
/-- two rng by a rule -/
theorem er_II {β : Type} [Rep β] {r : R2} {z : β} (ha : ER K ta σ H i) (hb : ER K tb σ H j) (hr : ∀ H1 (Q : VK), (∀ v, Rep.rel K H1 v z → Q v H1) → r (.int i) (.int j) H1 Q) : ER K (tOp r ta tb) σ H z := fun H1 e Q q =>
  ha H1 e _ fun v1 H2 e2 r1 => hb H2 (e.trans e2) _ fun v2 H3 e3 r2 => by
    cases r1
    cases r2
    exact hr H3 Q fun v rv => q v H3 (e2.trans e3) rv
theorem er_add (ha : ER K ta σ H i) (hb : ER K tb σ H j) : ER K (tOp (rI0 fun i j => .int (i + j)) ta tb) σ H (i + j) := er_II ha hb fun H1 Q q => ⟨i, j, rfl, rfl, q _ rfl⟩
theorem er_sub (ha : ER K ta σ H i) (hb : ER K tb σ H j) : ER K (tOp (rI0 fun i j => .int (i - j)) ta tb) σ H (i - j) := er_II ha hb fun H1 Q q => ⟨i, j, rfl, rfl, q _ rfl⟩
theorem er_mul (ha : ER K ta σ H i) (hb : ER K tb σ H j) (c : CMul i j) : ER K (tOp (rI CMul fun i j => .int (i * j)) ta tb) σ H (i * j) := er_II ha hb fun H1 Q q => ⟨i, j, rfl, rfl, c, q _ rfl⟩
theorem er_div (ha : ER K ta σ H i) (hb : ER K tb σ H j) (c : CDivW i j) : ER K (tOp (rI CDivW fun i j => .int (i / j)) ta tb) σ H (i / j) := er_II ha hb fun H1 Q q => ⟨i, j, rfl, rfl, c, q _ rfl⟩
theorem er_mod (ha : ER K ta σ H i) (hb : ER K tb σ H j) (c : 0 < j) : ER K (tOp (rI (fun _ j => 0 < j) fun i j => .int (i % j)) ta tb) σ H (i % j) := er_II ha hb fun H1 Q q => ⟨i, j, rfl, rfl, c, q _ rfl⟩
theorem er_pow (ha : ER K ta σ H i) (hb : ER K tb σ H j) (c : CPow i j) : ER K (tOp (rI CPow fun i j => .int (i ^ j.toNat)) ta tb) σ H (i ^ j.toNat) := er_II ha hb fun H1 Q q => ⟨i, j, rfl, rfl, c, q _ rfl⟩
theorem er_lt (ha : ER K ta σ H i) (hb : ER K tb σ H j) : ER K (tOp (rI0 fun i j => .bl (decide (i < j))) ta tb) σ H (decide (i < j)) := er_II ha hb fun H1 Q q => ⟨i, j, rfl, rfl, q _ rfl⟩
theorem er_le (ha : ER K ta σ H i) (hb : ER K tb σ H j) : ER K (tOp (rI0 fun i j => .bl (decide (i ≤ j))) ta tb) σ H (decide (i ≤ j)) := er_II ha hb fun H1 Q q => ⟨i, j, rfl, rfl, q _ rfl⟩
theorem er_gt (ha : ER K ta σ H i) (hb : ER K tb σ H j) : ER K (tOp (rI0 fun i j => .bl (decide (j < i))) ta tb) σ H (decide (j < i)) := er_II ha hb fun H1 Q q => ⟨i, j, rfl, rfl, q _ rfl⟩
theorem er_ge (ha : ER K ta σ H i) (hb : ER K tb σ H j) : ER K (tOp (rI0 fun i j => .bl (decide (j ≤ i))) ta tb) σ H (decide (j ≤ i)) := er_II ha hb fun H1 Q q => ⟨i, j, rfl, rfl, q _ rfl⟩
theorem er_eqI (ha : ER K ta σ H i) (hb : ER K tb σ H j) : ER K (tOp rEq ta tb) σ H (decide (i = j)) := er_II ha hb fun H1 Q q => ⟨rfl, q _ (by
  show V.bl (decide (V.int i = V.int j)) = V.bl (decide (i = j))
  simp only [V.int.injEq])⟩
theorem er_neI (ha : ER K ta σ H i) (hb : ER K tb σ H j) : ER K (tOp rNe ta tb) σ H (!decide (i = j)) := er_II ha hb fun H1 Q q => ⟨rfl, q _ (by
  show V.bl (!decide (V.int i = V.int j)) = V.bl (!decide (i = j))
  simp only [V.int.injEq])⟩
theorem er_SS {β : Type} [Rep β] {r : R2} {z : β} {x y : Str} (ha : ER K ta σ H x) (hb : ER K tb σ H y) (hr : ∀ H1 (Q : VK), (∀ v, Rep.rel K H1 v z → Q v H1) → r (.str x) (.str y) H1 Q) : ER K (tOp r ta tb) σ H z := fun H1 e Q q =>
  ha H1 e _ fun v1 H2 e2 r1 => hb H2 (e.trans e2) _ fun v2 H3 e3 r2 => by
    cases r1
    cases r2
    exact hr H3 Q fun v rv => q v H3 (e2.trans e3) rv
theorem er_eqS {x y : Str} (ha : ER K ta σ H x) (hb : ER K tb σ H y) : ER K (tOp rEq ta tb) σ H (decide (x = y)) := er_SS ha hb fun H1 Q q => ⟨rfl, q _ (by
  show V.bl (decide (V.str x = V.str y)) = V.bl (decide (x = y))
  simp only [V.str.injEq])⟩
theorem er_neS {x y : Str} (ha : ER K ta σ H x) (hb : ER K tb σ H y) : ER K (tOp rNe ta tb) σ H (!decide (x = y)) := er_SS ha hb fun H1 Q q => ⟨rfl, q _ (by
  show V.bl (!decide (V.str x = V.str y)) = V.bl (!decide (x = y))
  simp only [V.str.injEq])⟩
theorem er_neg (ha : ER K ta σ H i) : ER K (tUn (rU fun i => .int (-i)) ta) σ H (-i) := fun H1 e Q q => ha H1 e _ fun v1 H2 e2 r1 => by
  cases r1
  exact ⟨i, rfl, q _ H2 e2 rfl⟩
/-- one sign in a text -/
theorem er_inS {c : Sg} {z : Str} (ha : ER K ta σ H c) (hb : ER K tb σ H z) : ER K (tOp rInS ta tb) σ H (decide (c.c ∈ z.cps.toList)) := fun H1 e Q q =>
  ha H1 e _ fun v1 H2 e2 r1 => hb H2 (e.trans e2) _ fun v2 H3 e3 r2 => by
    cases r1
    cases r2
    exact ⟨c.c, z, rfl, rfl, q _ H3 (e2.trans e3) rfl⟩
/-- a < b < c -/
theorem er_chain {r1 r2 : Int → Int → Bool} {k : Int} (ha : ER K ta σ H i) (hb : ER K tb σ H j) (hc : ER K tc σ H k) : ER K (tChain (rI0 fun i j => .bl (r1 i j)) (rI0 fun i j => .bl (r2 i j)) ta tb tc) σ H (r1 i j && r2 j k) := fun H1 e Q q =>
  ha H1 e _ fun v1 H2 e2 q1 => hb H2 (e.trans e2) _ fun v2 H3 e3 q2 => by
    cases q1
    cases q2
    refine ⟨i, j, rfl, rfl, r1 i j, rfl, ?_⟩
    cases h : r1 i j with
    | false =>
      rw [if_neg Bool.false_ne_true]
      exact q _ H3 (e2.trans e3) (by rw [h]; rfl)
    | true =>
      rw [if_pos rfl]
      exact hc H3 ((e.trans e2).trans e3) _ fun v3 H4 e4 q3 => by
        cases q3
        exact ⟨j, k, rfl, rfl, q _ H4 ((e2.trans e3).trans e4) (by rw [h]; rfl)⟩
/-! tests -/
theorem et_t (h : ER K te σ H a) : ET K (tTest te) σ H a := fun H1 e _ q => h H1 e _ fun v H2 e2 r => ⟨a, r, q H2 e2⟩
theorem et_b (h : ER K te σ H a) : ET K (tB te) σ H a := fun H1 e _ q => h H1 e _ fun v H2 e2 r => ⟨a, r, q H2 e2⟩
theorem ett_and (h1 : ET K t σ H a) (h2 : a = true → ET K u σ H b) : ET K (tAnd t u) σ H (a && b) := et_and h1 h2
theorem ett_or (h1 : ET K t σ H a) (h2 : a = false → ET K u σ H b) : ET K (tOr t u) σ H (a || b) := et_or h1 h2
theorem ett_not (h1 : ET K t σ H a) : ET K (tNot t) σ H (!a) := et_not h1
theorem er_and (h1 : ER K ta σ H a) (h2 : a = true → ER K tb σ H b) : ER K (tAndV ta tb) σ H (a && b) := fun H1 e Q q => h1 H1 e _ fun v H2 e2 r => ⟨a, r, by
  cases a with
  | true =>
    show tb σ H2 Q
    exact h2 rfl H2 (e.trans e2) Q fun w H3 e3 => q w H3 (e2.trans e3)
  | false =>
    show Q (.bl false) H2
    exact q _ H2 e2 rfl⟩
theorem er_or (h1 : ER K ta σ H a) (h2 : a = false → ER K tb σ H b) : ER K (tOrV ta tb) σ H (a || b) := fun H1 e Q q => h1 H1 e _ fun v H2 e2 r => ⟨a, r, by
  cases a with
  | true =>
    show Q (.bl true) H2
    exact q _ H2 e2 rfl
  | false =>
    show tb σ H2 Q
    exact h2 rfl H2 (e.trans e2) Q fun w H3 e3 => q w H3 (e2.trans e3)⟩
theorem er_not (h1 : ER K ta σ H a) : ER K (tNotV ta) σ H (!a) := fun H1 e _ q => h1 H1 e _ fun v H2 e2 r => ⟨a, r, q _ H2 e2 rfl⟩
theorem er_if {α : Type} [Rep α] {x y : α} (h : ET K t σ H a) (h1 : a = true → ER K ta σ H x) (h2 : a = false → ER K tb σ H y) : ER K (tIf t ta tb) σ H (if a = true then x else y) := fun H1 e Q q => h H1 e _ fun H2 e2 => by
  cases a with
  | true =>
    show ta σ H2 Q
    exact h1 rfl H2 (e.trans e2) Q fun w H3 e3 r => q w H3 (e2.trans e3) r
  | false =>
    show tb σ H2 Q
    exact h2 rfl H2 (e.trans e2) Q fun w H3 e3 r => q w H3 (e2.trans e3) r
theorem er_is {α : Type} [Rep α] {x y : α} (h : ER K te σ H x) (e : x = y) : ER K te σ H y := e ▸ h
theorem ER.mono {α : Type} [Rep α] {x : α} (e : Ex H H') (h : ER K te σ H x) : ER K te σ H' x := fun H1 e1 Q q => h H1 (e.trans e1) Q q
/-! tuples -/
theorem er_fld {α : Type} [Rep α] {x : α} {f : Fld} {n : Int} {w : V} (ha : ER K ta σ H f) (h : atI f.vs n = some w) (hx : ∀ H, Rep.rel K H w x) : ER K (tOp (rIxT K) ta (tC (.int n))) σ H x := fun H1 e Q q =>
  ha H1 e _ fun v H2 e2 ⟨p, hv, hs⟩ => ⟨p, f.vs, n, w, hv, rfl, hs, h, q w H2 e2 (hx H2)⟩
theorem er_f0 {f : Fld} (ha : ER K ta σ H f) : ER K (tOp (rIxT K) ta (tC (.int 0))) σ H f.low := er_fld ha rfl fun _ => rfl
theorem er_f1 {f : Fld} (ha : ER K ta σ H f) : ER K (tOp (rIxT K) ta (tC (.int 1))) σ H f.high := er_fld ha rfl fun _ => rfl
theorem er_f2 {f : Fld} (ha : ER K ta σ H f) : ER K (tOp (rIxT K) ta (tC (.int 2))) σ H f.step := er_fld ha rfl fun _ => rfl
theorem er_f3 {f : Fld} (ha : ER K ta σ H f) : ER K (tOp (rIxT K) ta (tC (.int 3))) σ H f.base := er_fld ha rfl fun _ => rfl
theorem er_f4 {f : Fld} (ha : ER K ta σ H f) : ER K (tOp (rIxT K) ta (tC (.int 4))) σ H f.off := er_fld ha rfl fun _ => rfl
theorem er_f5 {f : Fld} (ha : ER K ta σ H f) : ER K (tOp (rIxT K) ta (tC (.int 5))) σ H f.ends := er_fld ha rfl fun _ => rfl
theorem er_f6 {f : Fld} (ha : ER K ta σ H f) : ER K (tOp (rIxT K) ta (tC (.int 6))) σ H f.big := er_fld ha rfl fun _ => rfl
theorem er_p0 {α β : Type} [Rep α] [Rep β] {x : α × β} (ha : ER K ta σ H x) : ER K (tOp (rIxT K) ta (tC (.int 0))) σ H x.1 := fun H1 e Q q =>
  ha H1 e _ fun v H2 e2 ⟨p, v1, v2, hv, hs, r1, r2⟩ => ⟨p, [v1, v2], 0, v1, hv, rfl, hs, rfl, q v1 H2 e2 r1⟩
theorem er_p1 {α β : Type} [Rep α] [Rep β] {x : α × β} (ha : ER K ta σ H x) : ER K (tOp (rIxT K) ta (tC (.int 1))) σ H x.2 := fun H1 e Q q =>
  ha H1 e _ fun v H2 e2 ⟨p, v1, v2, hv, hs, r1, r2⟩ => ⟨p, [v1, v2], 1, v2, hv, rfl, hs, rfl, q v2 H2 e2 r2⟩
theorem er_tup2 {α β : Type} [Rep α] [Rep β] {x : α} {y : β} (ha : ER K ta σ H x) (hb : ER K tb σ H y) : ER K (tTup (tCons ta (tCons tb tNil))) σ H (x, y) := fun H1 e Q q =>
  ha H1 e _ fun v1 H2 e2 r1 => hb H2 (e.trans e2) _ fun v2 H3 e3 r2 => ⟨sz_of (by show 2 ≤ 100000; decide), fun p hp =>
    have n := Ex.new (o := .tup [v1, v2]) hp
    q (.ref p) _ ((e2.trans e3).trans n) ⟨p, v1, v2, rfl, st_of upd_same, Rep.mono (e3.trans n) r1, Rep.mono n r2⟩⟩
theorem er_tup3 {α β γ : Type} [Rep α] [Rep β] [Rep γ] {x : α} {y : β} {z : γ} (ha : ER K ta σ H x) (hb : ER K tb σ H y) (hc : ER K tc σ H z) : ER K (tTup (tCons ta (tCons tb (tCons tc tNil)))) σ H (Tri.mk x y z) := fun H1 e Q q =>
  ha H1 e _ fun v1 H2 e2 r1 => hb H2 (e.trans e2) _ fun v2 H3 e3 r2 => hc H3 ((e.trans e2).trans e3) _ fun v3 H4 e4 r3 => ⟨sz_of (by show 3 ≤ 100000; decide), fun p hp =>
    have n := Ex.new (o := .tup [v1, v2, v3]) hp
    q (.ref p) _ (((e2.trans e3).trans e4).trans n) ⟨p, v1, v2, v3, rfl, st_of upd_same, Rep.mono ((e3.trans e4).trans n) r1, Rep.mono (e4.trans n) r2, Rep.mono n r3⟩⟩
end

/-! slots -/
inductive SetAt : L2.St → Nat → V → L2.St → Prop
  | z {o : Option V} {r : L2.St} {v : V} : SetAt (o :: r) 0 v (some v :: r)
  | s {o : Option V} {r r' : L2.St} {n : Nat} {v : V} : SetAt r n v r' → SetAt (o :: r) (n + 1) v (o :: r')
theorem SetAt.eq {σ σ' : L2.St} {n : Nat} {v : V} (h : SetAt σ n v σ') : σ.set n (some v) = σ' := by
  induction h with
  | z => rfl
  | s _ ih => rw [List.set_cons_succ, ih]

/-! what a def promises -/
section
variable {α β γ ε δ : Type} [Rep α] [Rep β] [Rep γ] [Rep ε] [Rep δ]
def sp1 (K : PySem.W.Frag) (pre : α → Prop) (g : α → δ) : Sp := fun vs H Q _ => ∃ x a, vs = [x] ∧ Rep.rel K H x a ∧ pre a ∧ ∀ v H', Ex H H' → Rep.rel K H' v (g a) → Q v H'
def sp2 (K : PySem.W.Frag) (pre : α → β → Prop) (g : α → β → δ) : Sp := fun vs H Q _ => ∃ x y a b, vs = [x, y] ∧ Rep.rel K H x a ∧ Rep.rel K H y b ∧ pre a b ∧ ∀ v H', Ex H H' → Rep.rel K H' v (g a b) → Q v H'
def sp3 (K : PySem.W.Frag) (pre : α → β → γ → Prop) (g : α → β → γ → δ) : Sp := fun vs H Q _ => ∃ x y z a b c, vs = [x, y, z] ∧ Rep.rel K H x a ∧ Rep.rel K H y b ∧ Rep.rel K H z c ∧ pre a b c ∧ ∀ v H', Ex H H' → Rep.rel K H' v (g a b c) → Q v H'
def sp4 (K : PySem.W.Frag) (pre : α → β → γ → ε → Prop) (g : α → β → γ → ε → δ) : Sp := fun vs H Q _ => ∃ x y z u a b c d, vs = [x, y, z, u] ∧ Rep.rel K H x a ∧ Rep.rel K H y b ∧ Rep.rel K H z c ∧ Rep.rel K H u d ∧ pre a b c d ∧ ∀ v H', Ex H H' → Rep.rel K H' v (g a b c d) → Q v H'
variable {K : PySem.W.Frag} {σ : L2.St} {H : Hp} {ta tb tc td : TE} {E : XK} {a : α} {b : β} {c : γ} {d : ε}
theorem er_call1 {pre : α → Prop} {g : α → δ} (ha : ER K ta σ H a) (hp : pre a) : ER K (tCall (sp1 K pre g) [] E (tCons ta tNil)) σ H (g a) := fun H1 e Q q =>
  ha H1 e _ fun v1 H2 e2 r1 => ⟨v1, a, rfl, r1, hp, fun v H' e' r => q v H' (e2.trans e') r⟩
theorem er_call2 {pre : α → β → Prop} {g : α → β → δ} (ha : ER K ta σ H a) (hb : ER K tb σ H b) (hp : pre a b) : ER K (tCall (sp2 K pre g) [] E (tCons ta (tCons tb tNil))) σ H (g a b) := fun H1 e Q q =>
  ha H1 e _ fun v1 H2 e2 r1 => hb H2 (e.trans e2) _ fun v2 H3 e3 r2 => ⟨v1, v2, a, b, rfl, Rep.mono e3 r1, r2, hp, fun v H' e' r => q v H' ((e2.trans e3).trans e') r⟩
theorem er_call3 {pre : α → β → γ → Prop} {g : α → β → γ → δ} (ha : ER K ta σ H a) (hb : ER K tb σ H b) (hc : ER K tc σ H c) (hp : pre a b c) : ER K (tCall (sp3 K pre g) [] E (tCons ta (tCons tb (tCons tc tNil)))) σ H (g a b c) := fun H1 e Q q =>
  ha H1 e _ fun v1 H2 e2 r1 => hb H2 (e.trans e2) _ fun v2 H3 e3 r2 => hc H3 ((e.trans e2).trans e3) _ fun v3 H4 e4 r3 =>
    ⟨v1, v2, v3, a, b, c, rfl, Rep.mono (e3.trans e4) r1, Rep.mono e4 r2, r3, hp, fun v H' e' r => q v H' (((e2.trans e3).trans e4).trans e') r⟩
theorem er_call4 {pre : α → β → γ → ε → Prop} {g : α → β → γ → ε → δ} (ha : ER K ta σ H a) (hb : ER K tb σ H b) (hc : ER K tc σ H c) (hd : ER K td σ H d) (hp : pre a b c d) :
    ER K (tCall (sp4 K pre g) [] E (tCons ta (tCons tb (tCons tc (tCons td tNil))))) σ H (g a b c d) := fun H1 e Q q =>
  ha H1 e _ fun v1 H2 e2 r1 => hb H2 (e.trans e2) _ fun v2 H3 e3 r2 => hc H3 ((e.trans e2).trans e3) _ fun v3 H4 e4 r3 => hd H4 (((e.trans e2).trans e3).trans e4) _ fun v4 H5 e5 r4 =>
    ⟨v1, v2, v3, v4, a, b, c, d, rfl, Rep.mono ((e3.trans e4).trans e5) r1, Rep.mono (e4.trans e5) r2, Rep.mono e5 r3, r4, hp, fun v H' e' r => q v H' ((((e2.trans e3).trans e4).trans e5).trans e') r⟩
variable {P : Program} {w : World} {mg : Str → Option Value} {base : Heap} {x qual : Str} {params : Arguments} {body : List Stmt} {scope : Scope} {dvs : List V} {kws : List (Str × V)} {f : Addr} {fd : FuncData} {N ps : List Str} {k : Nat} {CX : CXT}
/-- the def's body: a derivation, and its reading from the slots σ0 -/
def Body (CX : CXT) (P : Program) (w : World) (K : PySem.W.Frag) (mg : Str → Option Value) (base : Heap) (k : Nat) (f : Addr) (N : List Str) (qual : Str) (scope : Scope) (body : List Stmt) (H : Hp) (Q : VK) (σ0 : L2.St) : Prop :=
  ∀ (cdv : Value) (A : Around) (outer : List Env) (s : Shared) (E : XK), Room k (A.deeper (envOfC qual scope s.heap.objs.size f cdv)) →
    ∃ t, PSs (cxOf CX P w K mg base N qual scope f cdv A outer s H E) body t ∧ t { nx := fun _ H' => Q .non H', rt := Q } σ0 H
theorem ok1 {pre : α → Prop} {g : α → δ} (F : FunD K x qual params body scope dvs kws f fd) (S : FnScope N ps scope) (hl : ps.length = 1) (σ0 : V → L2.St) (h0 : ∀ x, start N [x] = σ0 x)
    (h : ∀ (H : Hp) (Q : VK) (x : V) (a : α), Rep.rel K H x a → pre a → (∀ v H', Ex H H' → Rep.rel K H' v (g a) → Q v H') → Body CX P w K mg base k f N qual scope body H Q (σ0 x)) : FnOk P w K mg base CX (k + 1) f fd ps (sp1 K pre g) := by
  refine F.ok S (fun vs H Q E hs => ?_) (fun cdv A outer s H vs Q E hr hs => ?_)
  · obtain ⟨x, a, rfl, _⟩ := hs
    exact hl.symm
  · obtain ⟨x, a, rfl, h1, hp, q⟩ := hs
    rw [h0]
    exact h H Q x a h1 hp q cdv A outer s E hr
theorem ok2 {pre : α → β → Prop} {g : α → β → δ} (F : FunD K x qual params body scope dvs kws f fd) (S : FnScope N ps scope) (hl : ps.length = 2) (σ0 : V → V → L2.St) (h0 : ∀ x y, start N [x, y] = σ0 x y)
    (h : ∀ (H : Hp) (Q : VK) (x y : V) (a : α) (b : β), Rep.rel K H x a → Rep.rel K H y b → pre a b → (∀ v H', Ex H H' → Rep.rel K H' v (g a b) → Q v H') → Body CX P w K mg base k f N qual scope body H Q (σ0 x y)) : FnOk P w K mg base CX (k + 1) f fd ps (sp2 K pre g) := by
  refine F.ok S (fun vs H Q E hs => ?_) (fun cdv A outer s H vs Q E hr hs => ?_)
  · obtain ⟨x, y, a, b, rfl, _⟩ := hs
    exact hl.symm
  · obtain ⟨x, y, a, b, rfl, h1, h2, hp, q⟩ := hs
    rw [h0]
    exact h H Q x y a b h1 h2 hp q cdv A outer s E hr
theorem ok3 {pre : α → β → γ → Prop} {g : α → β → γ → δ} (F : FunD K x qual params body scope dvs kws f fd) (S : FnScope N ps scope) (hl : ps.length = 3) (σ0 : V → V → V → L2.St) (h0 : ∀ x y z, start N [x, y, z] = σ0 x y z)
    (h : ∀ (H : Hp) (Q : VK) (x y z : V) (a : α) (b : β) (c : γ), Rep.rel K H x a → Rep.rel K H y b → Rep.rel K H z c → pre a b c → (∀ v H', Ex H H' → Rep.rel K H' v (g a b c) → Q v H') → Body CX P w K mg base k f N qual scope body H Q (σ0 x y z)) : FnOk P w K mg base CX (k + 1) f fd ps (sp3 K pre g) := by
  refine F.ok S (fun vs H Q E hs => ?_) (fun cdv A outer s H vs Q E hr hs => ?_)
  · obtain ⟨x, y, z, a, b, c, rfl, _⟩ := hs
    exact hl.symm
  · obtain ⟨x, y, z, a, b, c, rfl, h1, h2, h3, hp, q⟩ := hs
    rw [h0]
    exact h H Q x y z a b c h1 h2 h3 hp q cdv A outer s E hr
theorem ok4 {pre : α → β → γ → ε → Prop} {g : α → β → γ → ε → δ} (F : FunD K x qual params body scope dvs kws f fd) (S : FnScope N ps scope) (hl : ps.length = 4) (σ0 : V → V → V → V → L2.St) (h0 : ∀ x y z u, start N [x, y, z, u] = σ0 x y z u)
    (h : ∀ (H : Hp) (Q : VK) (x y z u : V) (a : α) (b : β) (c : γ) (d : ε), Rep.rel K H x a → Rep.rel K H y b → Rep.rel K H z c → Rep.rel K H u d → pre a b c d → (∀ v H', Ex H H' → Rep.rel K H' v (g a b c d) → Q v H') → Body CX P w K mg base k f N qual scope body H Q (σ0 x y z u)) : FnOk P w K mg base CX (k + 1) f fd ps (sp4 K pre g) := by
  refine F.ok S (fun vs H Q E hs => ?_) (fun cdv A outer s H vs Q E hr hs => ?_)
  · obtain ⟨x, y, z, u, a, b, c, d, rfl, _⟩ := hs
    exact hl.symm
  · obtain ⟨x, y, z, u, a, b, c, d, rfl, h1, h2, h3, h4, hp, q⟩ := hs
    rw [h0]
    exact h H Q x y z u a b c d h1 h2 h3 h4 hp q cdv A outer s E hr
end
/-- a def of the module, to be called -/
structure Cal (P : Program) (w : World) (K : PySem.W.Frag) (mg : Str → Option Value) (base : Heap) (CX : CXT) (k : Nat) (x : Str) (ps : List Str) (sp : Sp) (f : Addr) (fd : FuncData) : Prop where
  ok : FnOk P w K mg base CX k f fd ps sp
  mg : mg x = some (.ref f)
  kp : PySem.W.keepIn K (.ref f) = true
  bd : Binds K fd ps []

/-! statements -/
section
variable {α : Type} [Rep α] {σ σ' : L2.St} {H : Hp} {te : TE} {tt : TT} {x : α} {D : Ends} {u t1 t2 : TS} {n : Nat} {b : Bool} {i : Int}
theorem q_set (K : PySem.W.Frag) {s' : V → L2.St} (h : ER K te σ H x) (s : ∀ v, SetAt σ n v (s' v)) (k : ∀ v H1, Ex H H1 → Rep.rel K H1 v x → u D (s' v) H1) : tSeq (tAsg te (gName n)) u D σ H := h H (Ex.refl H) _ fun v H1 e r => by
  show u D (σ.set n (some v)) H1
  rw [(s v).eq]
  exact k v H1 e r
theorem q_setI (K : PySem.W.Frag) {s' : V → L2.St} (h : ER K te σ H i) (s : ∀ v, SetAt σ n v (s' v)) (k : ∀ H1, Ex H H1 → u D (s' (.int i)) H1) : tSeq (tAsg te (gName n)) u D σ H := q_set K h s fun v H1 e r => by
  cases r
  exact k H1 e
theorem q_setB (K : PySem.W.Frag) {s' : V → L2.St} (h : ER K te σ H b) (s : ∀ v, SetAt σ n v (s' v)) (k : ∀ H1, Ex H H1 → u D (s' (.bl b)) H1) : tSeq (tAsg te (gName n)) u D σ H := q_set K h s fun v H1 e r => by
  cases r
  exact k H1 e
theorem q_drop (K : PySem.W.Frag) (h : ER K te σ H x) (k : ∀ H1, Ex H H1 → u D σ H1) : tSeq (tDrop te) u D σ H := h H (Ex.refl H) _ fun _ H1 e _ => k H1 e
theorem l_drop (K : PySem.W.Frag) (h : ER K te σ H x) (k : ∀ H1, Ex H H1 → D.nx σ H1) : tDrop te D σ H := h H (Ex.refl H) _ fun _ H1 e _ => k H1 e
theorem l_set (K : PySem.W.Frag) {s' : V → L2.St} (h : ER K te σ H x) (s : ∀ v, SetAt σ n v (s' v)) (k : ∀ v H1, Ex H H1 → Rep.rel K H1 v x → D.nx (s' v) H1) : tAsg te (gName n) D σ H := h H (Ex.refl H) _ fun v H1 e r => by
  show D.nx (σ.set n (some v)) H1
  rw [(s v).eq]
  exact k v H1 e r
theorem l_ret (K : PySem.W.Frag) {Q : VK} {nx bk ct} (h : ER K te σ H x) (k : ∀ v H1, Ex H H1 → Rep.rel K H1 v x → Q v H1) : tRet te ⟨nx, Q, bk, ct⟩ σ H := h H (Ex.refl H) _ k
theorem q_ret (K : PySem.W.Frag) {Q : VK} {nx bk ct} (h : ER K te σ H x) (k : ∀ v H1, Ex H H1 → Rep.rel K H1 v x → Q v H1) : tSeq (tRet te) u ⟨nx, Q, bk, ct⟩ σ H := h H (Ex.refl H) _ k
theorem l_if (K : PySem.W.Frag) (h : ET K tt σ H b) (h1 : b = true → ∀ H1, Ex H H1 → t1 D σ H1) (h2 : b = false → ∀ H1, Ex H H1 → t2 D σ H1) : tIfS tt t1 t2 D σ H := s_if h h1 h2
theorem q_if (K : PySem.W.Frag) (h : ET K tt σ H b) (h1 : b = true → ∀ H1, Ex H H1 → t1 { D with nx := u D } σ H1) (h2 : b = false → ∀ H1, Ex H H1 → t2 { D with nx := u D } σ H1) : tSeq (tIfS tt t1 t2) u D σ H := s_if (D := { D with nx := u D }) h h1 h2
theorem l_if0 (K : PySem.W.Frag) (h : ET K tt σ H b) (h1 : b = true → ∀ H1, Ex H H1 → t1 D σ H1) (h2 : b = false → ∀ H1, Ex H H1 → D.nx σ H1) : tIfS tt t1 tNext D σ H := s_if h h1 h2
theorem q_if0 (K : PySem.W.Frag) (h : ET K tt σ H b) (h1 : b = true → ∀ H1, Ex H H1 → t1 { D with nx := u D } σ H1) (h2 : b = false → ∀ H1, Ex H H1 → u D σ H1) : tSeq (tIfS tt t1 tNext) u D σ H := s_if (D := { D with nx := u D }) h h1 h2
theorem l_next (h : D.nx σ H) : tNext D σ H := h
end

theorem cdivw {i j : Int} (h : 0 < j) (h1 : j < 1267650600228229401496703205376) : CDivW i j := wide_div h (b := 100) (by omega) (by decide) (by decide)
/-! a slice of a field, unpacked -/
section
variable {K : PySem.W.Frag} {σ : L2.St} {H : Hp} {te : TE} {u : TS} {D : Ends} {f : Fld}
theorem q_unp {lo hi : Option Int} {tl th : TO} {n : Nat} {g : TGs} {ys : List V} (h : ER K te σ H f) (hl : ∀ (Q : Option Int → Hp → Prop) H1, Q lo H1 → tl σ H1 Q) (hh : ∀ (Q : Option Int → Hp → Prop) H1, Q hi H1 → th σ H1 Q)
    (hn : ¬ (HT.sIx 7 0 lo = 0 ∧ HT.sIx 7 7 hi = 7)) (hc : cutV f.vs lo hi = ys) (hy : ys.length = n) (k : ∀ H1, Ex H H1 → g ys σ H1 fun σ' H' => u D σ' H') :
    tSeq (tAsg (tSl (rSlT K) te tl th) (gTup K n g)) u D σ H := h H (Ex.refl H) _ fun v H1 e r => by
  obtain ⟨a, rfl, hs⟩ := r
  refine hl _ _ (hh _ _ ⟨a, f.vs, rfl, hs, hn, fun p hp => ?_⟩)
  refine ⟨p, cutV f.vs lo hi, rfl, st_of upd_same, ?_, ?_⟩
  · rw [hc, hy]
  · rw [hc]
    exact k _ (e.trans (Ex.new hp))
theorem g_cons {i : Nat} {v : V} {vs : List V} {σ' : L2.St} {g : TGs} {Q : L2.St → Hp → Prop} (s : SetAt σ i v σ') (k : g vs σ' H Q) : gCons (gName i) g (v :: vs) σ H Q := ⟨v, vs, rfl, by
  show g vs (σ.set i (some v)) H Q
  rw [s.eq]
  exact k⟩
theorem g_nil {Q : L2.St → Hp → Prop} (k : Q σ H) : gNil [] σ H Q := ⟨rfl, k⟩
end

/-! ### what is walked -/
section
variable {α β γ : Type} [Rep α] [Rep β] [Rep γ] {K : PySem.W.Frag} {σ : L2.St} {H H' : Hp} {te tl ta tb : TE} {u : TS} {D : Ends} {tt : TT} {tA : TA}
theorem rels_len {vs : List V} {xs : List α} (h : rels K H vs xs) : vs.length = xs.length := by
  induction h with
  | nil => rfl
  | cons _ _ ih => simp only [List.length_cons, ih]
theorem rels_get {vs : List V} {xs : List α} (h : rels K H vs xs) {i : Nat} {v : V} (e : vs[i]? = some v) : ∃ x, xs[i]? = some x ∧ Rep.rel K H v x := by
  induction h generalizing i with
  | nil => simp at e
  | @cons a b l1 l2 r _ ih =>
    cases i with
    | zero =>
      have e1 : a = v := Option.some.inj e
      subst e1
      exact ⟨b, rfl, r⟩
    | succ n =>
      rw [List.getElem?_cons_succ] at e
      obtain ⟨x, h1, h2⟩ := ih e
      exact ⟨x, by rw [List.getElem?_cons_succ]; exact h1, h2⟩
theorem rels_at {vs : List V} {xs : List α} (h : rels K H vs xs) {i : Nat} {x : α} (e : xs[i]? = some x) : ∃ v, vs[i]? = some v ∧ Rep.rel K H v x := by
  induction h generalizing i with
  | nil => simp at e
  | @cons a b l1 l2 r _ ih =>
    cases i with
    | zero =>
      have e1 : b = x := Option.some.inj e
      subst e1
      exact ⟨a, rfl, r⟩
    | succ n =>
      rw [List.getElem?_cons_succ] at e
      obtain ⟨v, h1, h2⟩ := ih e
      exact ⟨v, by rw [List.getElem?_cons_succ]; exact h1, h2⟩
theorem rels_snoc {vs : List V} {xs : List α} {v : V} {x : α} (h : rels K H vs xs) (r : Rep.rel K H v x) : rels K H (vs ++ [v]) (xs ++ [x]) := Paired.snoc h r
theorem rels_app {vs ws : List V} {xs ys : List α} (h : rels K H vs xs) (h2 : rels K H ws ys) : rels K H (vs ++ ws) (xs ++ ys) := by
  induction h with
  | nil => exact h2
  | cons r _ ih => exact .cons r ih
theorem rels_ints {vs : List V} {xs : List Int} (h : rels K H vs xs) : vs = xs.map V.int := by
  induction h with
  | nil => rfl
  | cons r _ ih =>
    cases r
    rw [ih]
    rfl
theorem ints_rels {xs : List Int} : rels K H (xs.map V.int) xs := by
  induction xs with
  | nil => exact .nil
  | cons x r ih => exact .cons rfl ih
theorem rels_bls {vs : List V} {xs : List Bool} (h : rels K H vs xs) : vs = xs.map V.bl := by
  induction h with
  | nil => rfl
  | cons r _ ih =>
    cases r
    rw [ih]
    rfl
theorem rels_strs {vs : List V} {xs : List Str} (h : rels K H vs xs) : vs = xs.map V.str := by
  induction h with
  | nil => rfl
  | cons r _ ih =>
    cases r
    rw [ih]
    rfl
/-- a walk gives the data xs -/
def Wk (K : PySem.W.Frag) (wi : TI) (σ : L2.St) (H : Hp) (xs : List α) : Prop := ∀ H1, Ex H H1 → ∀ R : It → Hp → Prop, (∀ J H2 G Y, Ex H1 H2 → Walk J xs.length G Y → (∀ H3, Ey H2 H3 → G H3) →
  (∀ i Ha v Hb, i < xs.length → Ey H2 Ha → Y i Ha v Hb → Ex Ha Hb ∧ ∃ x, xs[i]? = some x ∧ Rep.rel K Hb v x) → R J H2) → wi σ H1 R
theorem wk_list {xs : List α} (h : ER K tl σ H xs) : Wk K (iList K tl) σ H xs := fun H1 e R k => h H1 e _ fun v H2 e2 ⟨a, vs, hv, hs, hr⟩ => ⟨a, hv, ⟨vs, sq_of hs⟩, by
  refine k _ H2 _ _ e2 (rels_len hr ▸ walk_list (xs := vs)) (fun H3 e3 => ey_l e3 (sq_of hs)) fun i Ha v Hb hi ea y => ?_
  obtain ⟨rfl, hy⟩ := y
  obtain ⟨x, h1, h2⟩ := rels_get hr hy
  exact ⟨Ex.refl _, x, h1, Rep.moY ea h2⟩⟩
theorem wk_tup {xs : List α} (h : ER K tl σ H (Tpl.mk xs)) : Wk K (iTup K tl) σ H xs := fun H1 e R k => h H1 e _ fun v H2 e2 ⟨a, vs, hv, hs, hr⟩ => ⟨a, hv, ⟨vs, hs⟩, by
  refine k _ H2 _ _ e2 (rels_len hr ▸ walk_tup (xs := vs)) (fun H3 e3 => ey_t e3 hs) fun i Ha v Hb hi ea y => ?_
  obtain ⟨rfl, hy⟩ := y
  obtain ⟨x, h1, h2⟩ := rels_get hr hy
  exact ⟨Ex.refl _, x, h1, Rep.moY ea h2⟩⟩
def sgs (z : Str) : List Sg := z.cps.toList.map Sg.mk
theorem wk_str {z : Str} (h : ER K tl σ H z) : Wk K (iStr tl) σ H (sgs z) := fun H1 e R k => h H1 e _ fun v H2 e2 r => ⟨z, r, by
  have hl : (sgs z).length = z.cps.size := by simp [sgs]
  refine k _ H2 _ _ e2 (hl ▸ walk_str (z := z)) (fun _ _ => trivial) fun i Ha v Hb hi ea y => ?_
  obtain ⟨rfl, c, hc, rfl⟩ := y
  refine ⟨Ex.refl _, ⟨c⟩, ?_, rfl⟩
  simp only [sgs, List.getElem?_map, Array.getElem?_toList, hc, Option.map_some]⟩
/-- 0, 1, .., n - 1; lo, lo + 1, .. -/
def rng (lo : Int) (n : Nat) : List Int := (List.range n).map fun i => lo + ((i : Nat) : Int)
theorem rng_len {lo : Int} {n : Nat} : (rng lo n).length = n := by simp [rng]
theorem rng_get {lo : Int} {n i : Nat} (h : i < n) : (rng lo n)[i]? = some (lo + (i : Int)) := by
  simp only [rng, List.getElem?_map, List.getElem?_range h, Option.map_some]
theorem rng_mem {lo : Int} {n : Nat} {z : Int} : z ∈ rng lo n ↔ lo ≤ z ∧ z < lo + n := by
  simp only [rng, List.mem_map, List.mem_range]
  constructor
  · rintro ⟨a, h, rfl⟩
    omega
  · intro h
    exact ⟨(z - lo).toNat, by omega, by omega⟩
theorem walk_rng {lo : Int} {n : Nat} : Walk (Itr lo n) (rng lo n).length (fun _ => True) (YFn fun i => .int (lo + i)) := by
  rw [rng_len]
  exact walk_range
theorem wk_rng1 {n : Int} (h : ER K ta σ H n) (hn : -(2 ^ 62) ≤ n ∧ n < 2 ^ 62) : Wk K (iRng1 (tCons ta tNil)) σ H (rng 0 n.toNat) := fun H1 e R k => h H1 e _ fun v H2 e2 r => by
  cases r
  refine ⟨n, rfl, hn.1, hn.2, k _ H2 _ _ e2 walk_rng (fun _ _ => trivial) fun i Ha v Hb hi ea y => ?_⟩
  obtain ⟨rfl, rfl⟩ := y
  rw [rng_len] at hi
  exact ⟨Ex.refl _, _, rng_get hi, rfl⟩
theorem wk_rng2 {m n : Int} (h : ER K ta σ H m) (h2 : ER K tb σ H n) (hn : -(2 ^ 62) ≤ m ∧ m < 2 ^ 62 ∧ -(2 ^ 62) ≤ n ∧ n < 2 ^ 62) : Wk K (iRng2 (tCons ta (tCons tb tNil))) σ H (rng m (n - m).toNat) := fun H1 e R k => h H1 e _ fun v H2 e2 r =>
  h2 H2 (e.trans e2) _ fun v3 H3 e3 r3 => by
  cases r
  cases r3
  refine ⟨m, n, rfl, hn, k _ H3 _ _ (e2.trans e3) walk_rng (fun _ _ => trivial) fun i Ha v Hb hi ea y => ?_⟩
  obtain ⟨rfl, rfl⟩ := y
  rw [rng_len] at hi
  exact ⟨Ex.refl _, _, rng_get hi, rfl⟩
/-- enumerate -/
def enum (xs : List α) : List (Int × α) := (xs.zipIdx 0).map fun p => ((p.2 : Int), p.1)
theorem enum_get {xs : List α} {i : Nat} {x : α} (h : xs[i]? = some x) : (enum xs)[i]? = some ((i : Int), x) := by
  simp [enum, h]
theorem wk_enum {xs : List α} (h : ER K ta σ H xs) : Wk K (iEnum K (tCons ta tNil)) σ H (enum xs) := fun H1 e R k => h H1 e _ fun v H2 e2 ⟨a, vs, hv, hs, hr⟩ => by
  subst hv
  have hl : (enum xs).length = vs.length := by simp [enum, rels_len hr]
  refine ⟨a, vs, rfl, sq_of hs, k _ H2 _ _ e2 (hl ▸ walk_enum (xs := vs)) (fun H3 e3 => ey_l e3 (sq_of hs)) fun i Ha v Hb hi ea y => ?_⟩
  obtain ⟨T, x1, y1, rfl, hT, rfl, h1, h2⟩ := y
  cases h1
  obtain ⟨x, h3, h4⟩ := rels_get hr h2
  have n := Ex.new (o := .tup [.int (i : Nat), y1]) hT
  exact ⟨n, _, enum_get h3, T, _, _, rfl, st_of upd_same, rfl, Rep.moY (ea.trans n.y) h4⟩
theorem wk_zip {xs : List α} {ys : List β} (h : ER K ta σ H xs) (h' : ER K tb σ H ys) : Wk K (iZip K (tCons ta (tCons tb tNil))) σ H (xs.zip ys) := fun H1 e R k => h H1 e _ fun v H2 e2 ⟨a, vs, hv, hs, hr⟩ =>
  h' H2 (e.trans e2) _ fun v' H3 e3 ⟨b, ws, hw, hs', hr'⟩ => by
  subst hv
  subst hw
  refine ⟨a, b, vs, ws, rfl, sq_of (e3 _ _ hs), sq_of hs', k _ H3 _ _ (e2.trans e3) (walk_zip (xs := vs) (ys := ws) (by rw [List.length_zip, rels_len hr, rels_len hr'])) (fun H4 e4 => ⟨sq_of (ey_lst e4 (e3 _ _ hs)), sq_of (ey_lst e4 hs')⟩) fun i Ha v Hb hi ea y => ?_⟩
  obtain ⟨T, x1, y1, rfl, hT, rfl, h1, h2⟩ := y
  obtain ⟨x, h3, h4⟩ := rels_get hr h1
  obtain ⟨z, h5, h6⟩ := rels_get hr' h2
  have n := Ex.new (o := .tup [x1, y1]) hT
  refine ⟨n, (x, z), ?_, T, _, _, rfl, st_of upd_same, Rep.moY ((e3.y.trans ea).trans n.y) h4, Rep.moY (ea.trans n.y) h6⟩
  rw [List.getElem?_zip_eq_some]
  exact ⟨h3, h5⟩
/-! ### loops -/
theorem for_wk (K : PySem.W.Frag) {wi : TI} {xs : List α} (h : Wk K wi σ H xs) {gt : TG} {tb : TS} (Pv : List α → L2.St → Hp → Prop) (h0 : ∀ H1, Ex H H1 → Pv [] σ H1)
    (hs : ∀ H1 pre x post v σ' H' H'', Ex H H1 → xs = pre ++ x :: post → Ey H1 H' → Pv pre σ' H' → Ex H' H'' → Rep.rel K H'' v x →
      gt v σ' H'' fun σ2 H2 => tb { D with nx := fun σ3 H3 => Ey H1 H3 ∧ Pv (pre ++ [x]) σ3 H3, ct := fun σ3 H3 => Ey H1 H3 ∧ Pv (pre ++ [x]) σ3 H3, bk := D.nx } σ2 H2)
    (hd : ∀ σ' H', Ey H H' → Pv xs σ' H' → D.nx σ' H') : tFor wi gt tb D σ H := by
  refine h H (Ex.refl H) _ fun J H2 G Y e2 w hG hY => ?_
  refine for_it w (fun i σ' H' => Ey H2 H' ∧ Pv (xs.take i) σ' H') ⟨Ey.refl _, by rw [List.take_zero]; exact h0 H2 e2⟩ (fun i σ' H' _ p => hG H' p.1) (fun i v σ' H' H'' hi p y => ?_) (fun σ' H' p => hd σ' H' (e2.y.trans p.1) (by rw [List.take_length] at p; exact p.2))
  obtain ⟨e3, x, hx, r⟩ := hY i H' v H'' hi p.1 y
  have et : xs.take (i + 1) = xs.take i ++ [x] := by
    rw [List.take_add_one, hx]
    rfl
  have ex : xs = xs.take i ++ x :: xs.drop (i + 1) := by
    have h1 := (List.take_append_drop i xs).symm
    obtain ⟨hi2, hx2⟩ := List.getElem?_eq_some_iff.mp hx
    rw [List.drop_eq_getElem_cons hi2, hx2] at h1
    exact h1
  have z := hs H2 (xs.take i) x (xs.drop (i + 1)) v σ' H' H'' e2 ex p.1 p.2 e3 r
  rw [← et] at z
  exact z
theorem q_for (K : PySem.W.Frag) {wi : TI} {xs : List α} (h : Wk K wi σ H xs) {gt : TG} {tb : TS} (Pv : List α → L2.St → Hp → Prop) (h0 : ∀ H1, Ex H H1 → Pv [] σ H1)
    (hs : ∀ H1 pre x post v σ' H' H'', Ex H H1 → xs = pre ++ x :: post → Ey H1 H' → Pv pre σ' H' → Ex H' H'' → Rep.rel K H'' v x →
      gt v σ' H'' fun σ2 H2 => tb { D with nx := fun σ3 H3 => Ey H1 H3 ∧ Pv (pre ++ [x]) σ3 H3, ct := fun σ3 H3 => Ey H1 H3 ∧ Pv (pre ++ [x]) σ3 H3, bk := u D } σ2 H2)
    (hd : ∀ σ' H', Ey H H' → Pv xs σ' H' → u D σ' H') : tSeq (tFor wi gt tb) u D σ H := for_wk K (D := { D with nx := u D }) h Pv h0 hs hd
/-! ### comprehensions -/
theorem er_lc [Imm β] {wi : TI} {xs : List α} {vs : List Nat} {gt : TG} (f : α → Bool) (g : α → β) (h : Wk K wi σ H xs) (hz : xs.length ≤ 100000)
    (ht : ∀ x v H1, x ∈ xs → Ex H H1 → Rep.rel K H1 v x → ∀ Q : L2.St → Hp → Prop, (∀ σ2 H2, Ex H1 H2 → wipe σ2 vs = wipe σ vs → ET K tt σ2 H2 (f x) → (f x = true → ER K te σ2 H2 (g x)) → Q σ2 H2) → gt v (wipe σ vs) H1 Q) :
    ER K (tLc wi gt tt te vs) σ H ((xs.filter f).map g) := fun H0 e Q q => by
  refine h H0 e _ fun J H2 G Y e2 w hG hY => ?_
  intro Dl hD
  have hx0 : ∀ i x, xs[i]? = some x → xs.take (i + 1) = xs.take i ++ [x] := fun i x hx => by
    rw [List.take_add_one, hx]
    rfl
  refine lc_it w (fun i H' => Ex H2 H' ∧ ∃ ws, H' Dl = some (.lst ws) ∧ rels K H' ws (((xs.take i).filter f).map g)) ⟨Ex.new hD, [], upd_same, by rw [List.take_zero]; exact .nil⟩ (fun i H' _ p => hG H' p.1.y) (fun i v H' H'' hi p y => ?_) (fun H' p => ?_)
  · obtain ⟨p1, ws, p2, p3⟩ := p
    obtain ⟨e3, x, hx, r⟩ := hY i H' v H'' hi p1.y y
    have hm : x ∈ xs := List.mem_of_getElem? hx
    refine ht x v H'' hm ((e.trans e2).trans (p1.trans e3)) r _ fun σ2 H3 e4 hw t1 t2 => ⟨hw, ?_⟩
    refine t1 H3 (Ex.refl _) _ fun H4 e5 => ?_
    have hl : ws.length ≤ i := by
      rw [rels_len p3, List.length_map]
      exact Nat.le_trans (List.length_filter_le ..) (by rw [List.length_take]; omega)
    have p1' : Ex H2 H4 := ((p1.trans e3).trans e4).trans e5
    have p2' : H4 Dl = some (.lst ws) := e5 _ _ (e4 _ _ (e3 _ _ p2))
    cases hf : f x with
    | true =>
      show te σ2 H4 _
      refine t2 hf H4 e5 _ fun y H5 e6 ry => ⟨ws, e6 _ _ p2', sz_lt (by omega), Ex.mut (p1'.trans e6) hD, ws ++ [y], upd_same, ?_⟩
      have fin : rels K H5 (ws ++ [y]) (((xs.take (i + 1)).filter f).map g) := by
        rw [hx0 i x hx, List.filter_append, List.map_append, List.filter_cons, if_pos hf]
        exact rels_snoc (rels_mono ((((e3.trans e4).trans e5)).trans e6) p3) ry
      exact rels_imm (e6 _ _ p2') fin
    | false =>
      show Ex H2 H4 ∧ _
      refine ⟨p1', ws, p2', ?_⟩
      rw [hx0 i x hx, List.filter_append, List.map_append, List.filter_cons, if_neg (by rw [hf]; decide)]
      show rels K H4 ws (_ ++ [])
      rw [List.append_nil]
      exact rels_mono ((e3.trans e4).trans e5) p3
  · obtain ⟨p1, ws, p2, p3⟩ := p
    rw [List.take_length] at p3
    exact q (.ref Dl) H' (e2.trans p1) ⟨Dl, ws, rfl, p2, p3⟩
end

section
variable {α β γ : Type} [Rep α] [Rep β] [Rep γ] {K : PySem.W.Frag} {σ : L2.St} {H H' : Hp} {te tl ta tb tc : TE} {u : TS} {D : Ends} {tt : TT} {tA : TA} {i j : Int}
theorem er_lcY [Imm β] {wi : TI} {xs : List α} {vs : List Nat} {gt : TG} (g : α → β) (h : Wk K wi σ H xs) (hz : xs.length ≤ 100000)
    (ht : ∀ x v H1, x ∈ xs → Ex H H1 → Rep.rel K H1 v x → ∀ Q : L2.St → Hp → Prop, (∀ σ2 H2, Ex H1 H2 → wipe σ2 vs = wipe σ vs → ER K te σ2 H2 (g x) → Q σ2 H2) → gt v (wipe σ vs) H1 Q) :
    ER K (tLc wi gt tYes te vs) σ H (xs.map g) := by
  have z := er_lc (tt := tYes) (te := te) (vs := vs) (gt := gt) (fun _ => true) g h hz fun x v H1 hx e r Q q => ht x v H1 hx e r Q fun σ2 H2 e2 hw t2 => q σ2 H2 e2 hw (fun H3 _ Q' q' => q' H3 (Ex.refl _)) (fun _ => t2)
  have ef : xs.filter (fun _ => true) = xs := List.filter_eq_self.mpr fun _ _ => rfl
  rw [ef] at z
  exact z
/-- the target is one name: its slot is set in the turn, wiped behind -/
theorem gn_ok {n : Nat} {s0 : L2.St} {s1 : V → L2.St} {v : V} {H1 : Hp} {Q : L2.St → Hp → Prop} {vs : List Nat} (h0 : wipe σ vs = s0) (hs : SetAt s0 n v (s1 v)) (hw : wipe (s1 v) vs = s0) (q : wipe (s1 v) vs = wipe σ vs → Q (s1 v) H1) : gName n v (wipe σ vs) H1 Q := by
  show Q ((wipe σ vs).set n (some v)) H1
  rw [h0, hs.eq]
  exact q (by rw [hw, h0])
/-! ### built-ins -/
theorem er_all {bs : List Bool} (h : ER K ta σ H bs) : ER K (tCB (rAll K) (tCons ta tNil)) σ H (bs.all id) := fun H1 e Q q => h H1 e _ fun v H2 e2 ⟨a, vs, hv, hs, hr⟩ => ⟨a, bs, by rw [hv], by rw [← rels_bls hr]; exact sq_of hs, q _ H2 e2 rfl⟩
theorem er_any {bs : List Bool} (h : ER K ta σ H bs) : ER K (tCB (rAny K) (tCons ta tNil)) σ H (bs.any id) := fun H1 e Q q => h H1 e _ fun v H2 e2 ⟨a, vs, hv, hs, hr⟩ => ⟨a, bs, by rw [hv], by rw [← rels_bls hr]; exact sq_of hs, q _ H2 e2 rfl⟩
theorem er_sum {ns : List Int} (h : ER K ta σ H ns) : ER K (tCB (rSum K) (tCons ta tNil)) σ H ns.sum := fun H1 e Q q => h H1 e _ fun v H2 e2 ⟨a, vs, hv, hs, hr⟩ => ⟨a, ns, by rw [hv], by rw [← rels_ints hr]; exact sq_of hs, q _ H2 e2 rfl⟩
abbrev rLenQ (K : PySem.W.Frag) : List V → Hp → VK → Prop := fun xs H Q => ∃ p ys, xs = [.ref p] ∧ (SqL K H p ys ∨ SqT K H p ys) ∧ Q (.int ys.length) H
theorem er_lenL {xs : List α} (h : ER K ta σ H xs) : ER K (tCB (rLenQ K) (tCons ta tNil)) σ H (xs.length : Int) := fun H1 e Q q => h H1 e _ fun v H2 e2 ⟨a, vs, hv, hs, hr⟩ => ⟨a, vs, by rw [hv], .inl (sq_of hs), by
  rw [rels_len hr]
  exact q _ H2 e2 rfl⟩
theorem er_lenT {xs : Tpl α} (h : ER K ta σ H xs) : ER K (tCB (rLenQ K) (tCons ta tNil)) σ H (xs.l.length : Int) := fun H1 e Q q => h H1 e _ fun v H2 e2 ⟨a, vs, hv, hs, hr⟩ => ⟨a, vs, by rw [hv], .inr hs, by
  rw [rels_len hr]
  exact q _ H2 e2 rfl⟩
abbrev rLenZ : List V → Hp → VK → Prop := fun xs H Q => ∃ z, xs = [.str z] ∧ z.length ≤ sizeLine ∧ Q (.int z.length) H
theorem er_lenS {z : Str} (h : ER K ta σ H z) (hz : z.length ≤ 100000) : ER K (tCB rLenZ (tCons ta tNil)) σ H (z.length : Int) := fun H1 e Q q => h H1 e _ fun v H2 e2 r => ⟨z, by rw [r], sz_of hz, q _ H2 e2 rfl⟩
abbrev rAbs : List V → Hp → VK → Prop := fun xs H Q => ∃ i, xs = [.int i] ∧ Q (.int (if i < 0 then -i else i)) H
theorem er_abs (h : ER K ta σ H i) : ER K (tCB rAbs (tCons ta tNil)) σ H (if i < 0 then -i else i) := fun H1 e Q q => h H1 e _ fun v H2 e2 r => ⟨i, by rw [r], q _ H2 e2 rfl⟩
abbrev rMax2' : List V → Hp → VK → Prop := fun xs H Q => ∃ i j, xs = [.int i, .int j] ∧ Q (.int (if j > i then j else i)) H
abbrev rMin2' : List V → Hp → VK → Prop := fun xs H Q => ∃ i j, xs = [.int i, .int j] ∧ Q (.int (if j < i then j else i)) H
theorem er_max2 (h : ER K ta σ H i) (h2 : ER K tb σ H j) : ER K (tCB rMax2' (tCons ta (tCons tb tNil))) σ H (max i j) := fun H1 e Q q => h H1 e _ fun v H2 e2 r => h2 H2 (e.trans e2) _ fun w H3 e3 r2 => ⟨i, j, by rw [r, r2], by
  have z : (if j > i then j else i) = max i j := by
    split <;> omega
  rw [z]
  exact q _ H3 (e2.trans e3) rfl⟩
theorem er_min2 (h : ER K ta σ H i) (h2 : ER K tb σ H j) : ER K (tCB rMin2' (tCons ta (tCons tb tNil))) σ H (min i j) := fun H1 e Q q => h H1 e _ fun v H2 e2 r => h2 H2 (e.trans e2) _ fun w H3 e3 r2 => ⟨i, j, by rw [r, r2], by
  have z : (if j < i then j else i) = min i j := by
    split <;> omega
  rw [z]
  exact q _ H3 (e2.trans e3) rfl⟩
abbrev rInt1 : List V → Hp → VK → Prop := fun xs H Q => (∃ i, xs = [.int i] ∧ Q (.int i) H) ∨ ∃ k, xs = [.bl k] ∧ Q (.int (if k then 1 else 0)) H
theorem er_int1 (h : ER K ta σ H i) : ER K (tCB rInt1 (tCons ta tNil)) σ H i := fun H1 e Q q => h H1 e _ fun v H2 e2 r => .inl ⟨i, by rw [r], q _ H2 e2 rfl⟩
theorem er_intB {b : Bool} (h : ER K ta σ H b) : ER K (tCB rInt1 (tCons ta tNil)) σ H (if b then (1 : Int) else 0) := fun H1 e Q q => h H1 e _ fun v H2 e2 r => .inr ⟨b, by rw [r], q _ H2 e2 rfl⟩
/-! ### displays -/
def EAs (K : PySem.W.Frag) (ta : TA) (σ : L2.St) (H : Hp) (xs : List α) : Prop := ∀ H1, Ex H H1 → ∀ Q : List V → Hp → Prop, (∀ vs H2, Ex H1 H2 → rels K H2 vs xs → Q vs H2) → ta σ H1 Q
theorem eas_nil : EAs (α := α) K tNil σ H [] := fun H1 _ Q q => q [] H1 (Ex.refl _) .nil
theorem eas_cons {x : α} {xs : List α} {tr : TA} (h : ER K te σ H x) (hr : EAs K tr σ H xs) : EAs K (tCons te tr) σ H (x :: xs) := fun H1 e Q q => h H1 e _ fun v H2 e2 r => hr H2 (e.trans e2) _ fun vs H3 e3 rs => q _ H3 (e2.trans e3) (.cons (Rep.mono e3 r) rs)
theorem er_lst {xs : List α} (h : EAs K tA σ H xs) (hl : xs.length ≤ 100000) : ER K (tLst tA) σ H xs := fun H1 e Q q => h H1 e _ fun vs H2 e2 rs => ⟨by rw [rels_len rs]; exact sz_of hl, fun p hp =>
  have n := Ex.new (o := .lst vs) hp
  q _ _ (e2.trans n) ⟨p, vs, rfl, upd_same, rels_mono n rs⟩⟩
theorem er_tpl {xs : List α} (h : EAs K tA σ H xs) (hl : xs.length ≤ 100000) : ER K (tTup tA) σ H (Tpl.mk xs) := fun H1 e Q q => h H1 e _ fun vs H2 e2 rs => ⟨by rw [rels_len rs]; exact sz_of hl, fun p hp =>
  have n := Ex.new (o := .tup vs) hp
  q _ _ (e2.trans n) ⟨p, vs, rfl, st_of upd_same, rels_mono n rs⟩⟩
theorem er_cat {xs ys : List α} (h : ER K ta σ H xs) (h2 : ER K tb σ H ys) (hl : xs.length + ys.length ≤ 100000) : ER K (tOp rCat ta tb) σ H (xs ++ ys) := fun H1 e Q q => h H1 e _ fun v H2 e2 ⟨a, vs, hv, hs, hr⟩ => h2 H2 (e.trans e2) _ fun w H3 e3 ⟨b, ws, hw, hs', hr'⟩ =>
  ⟨a, b, vs, ws, hv, hw, e3 _ _ hs, hs', by rw [rels_len hr, rels_len hr']; exact sz_of hl, fun p hp =>
    have n := Ex.new (o := .lst (vs ++ ws)) hp
    q _ _ ((e2.trans e3).trans n) ⟨p, vs ++ ws, rfl, upd_same, rels_mono n (rels_app (rels_mono e3 hr) hr')⟩⟩
/-- an item of a list, of a tuple -/
theorem er_ixL {xs : List α} {x : α} (h : ER K ta σ H xs) (h2 : ER K tb σ H i) (hx : atI xs i = some x) : ER K (tOp (rIxL K) ta tb) σ H x := fun H1 e Q q => h H1 e _ fun v H2 e2 ⟨a, vs, hv, hs, hr⟩ => h2 H2 (e.trans e2) _ fun w H3 e3 r2 => by
  have hl := rels_len hr
  obtain ⟨k, hk, hx2⟩ := Option.bind_eq_some_iff.mp hx
  obtain ⟨w', hw, rw'⟩ := rels_at hr hx2
  exact ⟨a, vs, i, w', hv, r2, sq_of (e3 _ _ hs), by unfold atI; rw [hl, hk]; exact hw, q w' H3 (e2.trans e3) (Rep.mono e3 rw')⟩
theorem er_ixT {xs : Tpl α} {x : α} (h : ER K ta σ H xs) (h2 : ER K tb σ H i) (hx : atI xs.l i = some x) : ER K (tOp (rIxT K) ta tb) σ H x := fun H1 e Q q => h H1 e _ fun v H2 e2 ⟨a, vs, hv, hs, hr⟩ => h2 H2 (e.trans e2) _ fun w H3 e3 r2 => by
  have hl := rels_len hr
  obtain ⟨k, hk, hx2⟩ := Option.bind_eq_some_iff.mp hx
  obtain ⟨w', hw, rw'⟩ := rels_at hr hx2
  exact ⟨a, vs, i, w', hv, r2, ex_t e3 hs, by unfold atI; rw [hl, hk]; exact hw, q w' H3 (e2.trans e3) (Rep.mono e3 rw')⟩
end

/-! ### any data -/
section
variable {K : PySem.W.Frag} {σ : L2.St} {H H' : Hp} {te tl ta tb tc : TE}
mutual
theorem dp_mono (e : Ey H H') : ∀ (d : PyData) (v : V), Dp K H v d → Dp K H' v d
  | .none, _, .non => .non
  | .bool b, _, .bl _ => .bl b
  | .int i, _, .int _ => .int i
  | .str x, _, .str _ => .str x
  | .list ds, _, .lst hs hr => .lst (ey_l e hs) (dpAll_mono e ds _ hr)
  | .tuple ds, _, .tup hs hr => .tup (ey_t e hs) (dpAll_mono e ds _ hr)
theorem dpAll_mono (e : Ey H H') : ∀ (ds : List PyData) (vs : List V), DpAll K H vs ds → DpAll K H' vs ds
  | [], _, .nil => .nil
  | d :: ds, _, .cons h hr => .cons (dp_mono e d _ h) (dpAll_mono e ds _ hr)
end
instance : Rep PyData := ⟨fun K H v d => Dp K H v d, fun e h => dp_mono e _ _ h⟩
class Enc (α : Type) [Rep α] where
  enc : α → PyData
  dp : ∀ {K : PySem.W.Frag} {H : Hp} {v : V} {x : α}, Rep.rel K H v x → Dp K H v (enc x)
instance : Enc Int := ⟨.int, fun h => by cases h; exact .int _⟩
instance : Enc Bool := ⟨.bool, fun h => by cases h; exact .bl _⟩
instance : Enc Str := ⟨.str, fun h => by cases h; exact .str _⟩
instance : Enc Sg := ⟨fun s => .str ⟨#[s.c]⟩, fun h => by cases h; exact .str _⟩
instance : Enc Unit := ⟨fun _ => .none, fun h => by cases h; exact .non⟩
instance : Enc PyData := ⟨id, id⟩
def Fld.enc (f : Fld) : PyData := .tuple [.int f.low, .int f.high, .int f.step, .int f.base, .str f.off, .str f.ends, .int f.big]
instance : Enc Fld := ⟨Fld.enc, fun ⟨a, h, hs⟩ => by
  subst h
  exact .tup hs (.cons (.int _) (.cons (.int _) (.cons (.int _) (.cons (.int _) (.cons (.str _) (.cons (.str _) (.cons (.int _) .nil)))))))⟩
instance {α β : Type} [Rep α] [Rep β] [Enc α] [Enc β] : Enc (α × β) := ⟨fun x => .tuple [Enc.enc x.1, Enc.enc x.2], fun ⟨a, v1, v2, h, hs, h1, h2⟩ => by
  subst h
  exact .tup hs (.cons (Enc.dp h1) (.cons (Enc.dp h2) .nil))⟩
instance {α β γ : Type} [Rep α] [Rep β] [Rep γ] [Enc α] [Enc β] [Enc γ] : Enc (Tri α β γ) := ⟨fun x => .tuple [Enc.enc x.a, Enc.enc x.b, Enc.enc x.c], fun ⟨a, v1, v2, v3, h, hs, h1, h2, h3⟩ => by
  subst h
  exact .tup hs (.cons (Enc.dp h1) (.cons (Enc.dp h2) (.cons (Enc.dp h3) .nil)))⟩
theorem rels_dp {α : Type} [Rep α] [Enc α] {vs : List V} {xs : List α} (h : rels K H vs xs) : DpAll K H vs (xs.map Enc.enc) := by
  induction h with
  | nil => exact .nil
  | cons r _ ih => exact .cons (Enc.dp r) ih
instance {α : Type} [Rep α] [Enc α] : Enc (List α) := ⟨fun xs => .list (xs.map Enc.enc), fun ⟨a, vs, h, hs, hr⟩ => by
  subst h
  exact .lst (sq_of hs) (rels_dp hr)⟩
instance {α : Type} [Rep α] [Enc α] : Enc (Tpl α) := ⟨fun xs => .tuple (xs.l.map Enc.enc), fun ⟨a, vs, h, hs, hr⟩ => by
  subst h
  exact .tup hs (rels_dp hr)⟩
instance {α : Type} [Rep α] [Enc α] : Enc (Option α) := ⟨fun x => match x with
  | none => .none
  | some y => Enc.enc y, fun {K H v x} h => by
    cases x with
    | none =>
      have h1 : v = .non := h
      subst h1
      exact .non
    | some y => exact Enc.dp (x := y) h⟩
theorem er_enc {α : Type} [Rep α] [Enc α] {x : α} (h : ER K te σ H x) : ER K te σ H (Enc.enc x) := fun H1 e Q q => h H1 e Q fun v H2 e2 r => q v H2 e2 (Enc.dp r)
def tyN : PyData → String
  | .none => "NoneType"
  | .bool _ => "bool"
  | .int _ => "int"
  | .str _ => "str"
  | .list _ => "list"
  | .tuple _ => "tuple"
  | .dict _ => "dict"
theorem dp_ty {v : V} : ∀ {d : PyData}, Dp K H v d → TyX K H v (.type (tyN d))
  | .none, .non => .base .non
  | .bool b, .bl _ => .base (.bl b)
  | .int i, .int _ => .base (.int i)
  | .str x, .str _ => .base (.str x)
  | .list ds, .lst hs hr => by
    rcases hs with (h | ⟨o, h⟩) | ⟨o, its, n, hk, hc, _⟩
    · exact .base (.lst h)
    · exact .base (.frz h)
    · exact .kList hk hc
  | .tuple ds, .tup hs hr => by
    rcases hs with (h | ⟨o, h⟩) | ⟨o, its, n, hk, hc, _⟩
    · exact .base (.tup h)
    · exact .fTuple h
    · exact .kTuple hk hc
theorem er_isi {d : PyData} {T : String} {b : Bool} (h : ER K ta σ H d) (hk : kitB (tyN d) T = some b) : ER K (tCB (rIsi K) (tCons ta (tCons (tC (.ty T)) tNil))) σ H b := fun H1 e Q q =>
  h H1 e _ fun v H2 e2 r => ⟨v, .ty T, _, _, b, rfl, .ty T, dp_ty r, kit_ty hk, q _ H2 e2 rfl⟩
/-- deep == -/
theorem er_eqD {x y : PyData} (ha : ER K ta σ H x) (hb : ER K tb σ H y) (h1 : SeqAt.shaped x = true) (h2 : SeqAt.shaped y = true) : ER K (tOp (rEqD K) ta tb) σ H (PyData.eqv x y) := fun H1 e Q q =>
  ha H1 e _ fun v H2 e2 r => hb H2 (e.trans e2) _ fun w H3 e3 r2 => ⟨x, y, dp_mono e3.y _ _ r, r2, h1, h2, q _ H3 (e2.trans e3) rfl⟩
theorem er_neD {x y : PyData} (ha : ER K ta σ H x) (hb : ER K tb σ H y) (h1 : SeqAt.shaped x = true) (h2 : SeqAt.shaped y = true) : ER K (tOp (rNeD K) ta tb) σ H (!PyData.eqv x y) := fun H1 e Q q =>
  ha H1 e _ fun v H2 e2 r => hb H2 (e.trans e2) _ fun w H3 e3 r2 => ⟨x, y, dp_mono e3.y _ _ r, r2, h1, h2, q _ H3 (e2.trans e3) rfl⟩
/-- a text in a tuple of texts -/
theorem in_strs {s : Str} {xs : List Str} : inV (.str s) (xs.map V.str) = decide (s ∈ xs) := by
  unfold inV
  induction xs with
  | nil => rfl
  | cons x r ih =>
    rw [List.map_cons, List.any_cons, ih]
    show (x == s || _) = _
    rw [Bool.eq_iff_iff]
    simp only [Bool.or_eq_true, beq_iff_eq, decide_eq_true_eq, List.mem_cons]
    constructor
    · rintro (h | h)
      · exact .inl h.symm
      · exact .inr h
    · rintro (h | h)
      · exact .inl h.symm
      · exact .inr h
theorem flat_strs {xs : List Str} : (xs.map V.str).all flatV = true := by
  rw [List.all_map]
  exact List.all_eq_true.mpr fun _ _ => rfl
theorem er_inT {s : Str} {xs : Tpl Str} (ha : ER K ta σ H s) (hb : ER K tb σ H xs) : ER K (tOp (rIn K false) ta tb) σ H (decide (s ∈ xs.l)) := fun H1 e Q q =>
  ha H1 e _ fun v H2 e2 r => hb H2 (e.trans e2) _ fun w H3 e3 ⟨p, vs, hw, hs, hr⟩ => by
    cases r
    have h1 := rels_strs hr
    subst h1
    exact ⟨p, _, hw, .inr hs, rfl, flat_strs, q _ H3 (e2.trans e3) (by rw [if_neg Bool.false_ne_true, in_strs]; rfl)⟩
end

/-! ### more statements -/
section
variable {α β : Type} [Rep α] [Rep β] {σ σ' : L2.St} {H : Hp} {te ta tb : TE} {D : Ends} {u : TS} {n m : Nat} {g : TGs}
theorem q_unpP (K : PySem.W.Frag) {x : α × β} (h : ER K te σ H x) (k : ∀ v1 v2 H1, Ex H H1 → Rep.rel K H1 v1 x.1 → Rep.rel K H1 v2 x.2 → g [v1, v2] σ H1 fun σ' H' => u D σ' H') : tSeq (tAsg te (gTup K 2 g)) u D σ H := h H (Ex.refl H) _ fun v H1 e ⟨a, v1, v2, hv, hs, r1, r2⟩ =>
  ⟨a, [v1, v2], hv, hs, rfl, k v1 v2 H1 e r1 r2⟩
theorem q_unpII (K : PySem.W.Frag) {x : Int × Int} (h : ER K te σ H x) (k : ∀ H1, Ex H H1 → g [.int x.1, .int x.2] σ H1 fun σ' H' => u D σ' H') : tSeq (tAsg te (gTup K 2 g)) u D σ H := q_unpP K h fun v1 v2 H1 e r1 r2 => by
  cases r1
  cases r2
  exact k H1 e
theorem q_par (K : PySem.W.Frag) {s1 s2 : V → V → L2.St} {x : α} {y : β} (h : ER K ta σ H x) (h2 : ∀ H1, Ex H H1 → ER K tb σ H1 y) (hs1 : ∀ v w, SetAt σ n v (s1 v w)) (hs2 : ∀ v w, SetAt (s1 v w) m w (s2 v w))
    (k : ∀ v w H1, Ex H H1 → Rep.rel K H1 v x → Rep.rel K H1 w y → u D (s2 v w) H1) : tSeq (tPar n m (tCons ta (tCons tb tNil))) u D σ H := h H (Ex.refl H) _ fun v H1 e r => h2 H1 e H1 (Ex.refl H1) _ fun w H2 e2 r2 => ⟨v, w, rfl, by
  show u D ((σ.set n (some v)).set m (some w)) H2
  rw [(hs1 v w).eq, (hs2 v w).eq]
  exact k v w H2 (e.trans e2) (Rep.mono e2 r) r2⟩
theorem q_raise {D : Ends} {σ : L2.St} {H : Hp} (h : False) {t : TS} : t D σ H := h.elim
end

/-! ### a written dict, read by a text -/
section
variable {K : PySem.W.Frag} {σ : L2.St} {H : Hp} {tk tv ty ta te : TE} {trs : List (TE × TE)} {i j : Int}
def EPs (K : PySem.W.Frag) (trs : List (TE × TE)) (σ : L2.St) (H : Hp) (ps : List (Str × Int)) : Prop := ∀ H1, Ex H H1 → ∀ Q : List (V × V) → Hp → Prop, (∀ H2, Ex H1 H2 → Q (ps.map fun p => (V.str p.1, V.int p.2)) H2) → tPairs trs σ H1 Q
theorem eps_nil : EPs K [] σ H [] := fun H1 _ _ q => q H1 (Ex.refl _)
theorem eps_cons {s : Str} {ps : List (Str × Int)} (h : ER K tv σ H i) (hr : EPs K trs σ H ps) : EPs K ((tC (.str s), tv) :: trs) σ H ((s, i) :: ps) := fun H1 e Q q => by
  show tv σ H1 _
  exact h H1 e _ fun v H2 e2 r => by
    cases r
    exact hr H2 (e.trans e2) _ fun H3 e3 => q H3 (e2.trans e3)
theorem er_dsp {ps : List (Str × Int)} {s : Str} (h : EPs K trs σ H ps) (hk : ER K ty σ H s) (hl : ps.length ≤ 15) (hv : valV (mergeK [] (ps.map fun p => ((Sum.inr p.1 : Key), V.int p.2))) (Sum.inr s) = some (.int i)) :
    ER K (tDGet (tDisp trs) ty) σ H i := fun H1 e Q q => by
  show ∀ p, H1 p = none → _
  intro p hp
  refine h _ (e.trans (Ex.new hp)) _ fun H2 e2 => ⟨e2 p _ upd_same, ps.map (fun p => ((Sum.inr p.1 : Key), V.int p.2)), ?_, by rw [List.length_map]; exact hl, ?_⟩
  · rw [List.map_map]
    rfl
  have e4 : Ex H1 (upd H2 p (.dK (mergeK [] (ps.map fun p => ((Sum.inr p.1 : Key), V.int p.2))))) := Ex.mut ((Ex.new hp).trans e2) hp
  refine hk _ (e.trans e4) _ fun v H3 e3 r => ?_
  cases r
  exact ⟨p, .int i, rfl, hv ▸ DGet.k (k := Sum.inr s) (e3 p _ upd_same), q _ H3 (e4.trans e3) rfl⟩
theorem er_sg {c : Nat} (h : ER K te σ H (Sg.mk c)) : ER K te σ H (⟨#[c]⟩ : Str) := fun H1 e Q q => h H1 e Q fun v H2 e2 r => q v H2 e2 r
/-! ### tuples told by their places -/
theorem er_ixq {α : Type} [Rep α] {x : α} {p : Addr} {xs : List V} {k : Nat} {n : Int} {w : V} (h : σ[k]? = some (some (.ref p))) (hs : SqT K H p xs) (hx : atI xs n = some w) (r : Rep.rel K H w x) : ER K (tOp (rIxT K) (tVar k) (tC (.int n))) σ H x := fun H1 e Q q =>
  ⟨.ref p, h, p, xs, n, w, rfl, rfl, ex_t e hs, hx, q w H1 (Ex.refl _) (Rep.mono e r)⟩
theorem cutV_rels {α : Type} [Rep α] {vs : List V} {xs : List α} (h : rels K H vs xs) (lo hi : Option Int) : rels K H (cutV vs lo hi) ((xs.drop (HT.sIx xs.length 0 lo)).take (HT.sIx xs.length xs.length hi - HT.sIx xs.length 0 lo)) := by
  have hl := rels_len h
  unfold cutV
  rw [hl]
  generalize HT.sIx xs.length 0 lo = a
  generalize HT.sIx xs.length xs.length hi - a = b
  have hd : ∀ (n : Nat) (vs : List V) (xs : List α), rels K H vs xs → rels K H (vs.drop n) (xs.drop n) := by
    intro n
    induction n with
    | zero => intro vs xs h; exact h
    | succ n ih =>
      intro vs xs h
      cases h with
      | nil => exact .nil
      | cons _ t => exact ih _ _ t
  have ht : ∀ (n : Nat) (vs : List V) (xs : List α), rels K H vs xs → rels K H (vs.take n) (xs.take n) := by
    intro n
    induction n with
    | zero => intro vs xs h; exact .nil
    | succ n ih =>
      intro vs xs h
      cases h with
      | nil => exact .nil
      | cons r t => exact .cons r (ih _ _ t)
  exact ht b _ _ (hd a _ _ h)
theorem er_slT {α : Type} [Rep α] {xs : Tpl α} {ys : List α} {tl th : TO} (lo hi : Option Int) (h : ER K te σ H xs) (hl : ∀ (Q : Option Int → Hp → Prop) H1, Q lo H1 → tl σ H1 Q) (hh : ∀ (Q : Option Int → Hp → Prop) H1, Q hi H1 → th σ H1 Q)
    (hn : ¬ (HT.sIx xs.l.length 0 lo = 0 ∧ HT.sIx xs.l.length xs.l.length hi = xs.l.length)) (hy : (xs.l.drop (HT.sIx xs.l.length 0 lo)).take (HT.sIx xs.l.length xs.l.length hi - HT.sIx xs.l.length 0 lo) = ys) : ER K (tSl (rSlT K) te tl th) σ H (Tpl.mk ys) := fun H1 e Q q =>
  h H1 e _ fun v H2 e2 ⟨a, vs, hv, hs, hr⟩ => hl _ _ (hh _ _ ⟨a, vs, hv, hs, by rw [rels_len hr]; exact hn, fun p hp => by
    have n := Ex.new (o := .tup (cutV vs lo hi)) hp
    exact q _ _ (e2.trans n) ⟨p, _, rfl, st_of upd_same, by rw [← hy]; exact rels_mono n (cutV_rels hr lo hi)⟩⟩)
theorem dpAll_rels {vs : List V} : ∀ {ds : List PyData}, DpAll K H vs ds → rels K H vs ds := by
  induction vs with
  | nil =>
    intro ds h
    cases h
    exact .nil
  | cons v vs ih =>
    intro ds h
    cases h with
    | cons h1 h2 => exact .cons h1 (ih h2)
end
theorem g_name1 {i : Nat} {v : V} {σ σ' : L2.St} {H : Hp} {Q : L2.St → Hp → Prop} (s : SetAt σ i v σ') (k : Q σ' H) : gName i v σ H Q := by
  show Q (σ.set i (some v)) H
  rw [s.eq]
  exact k

/-! ### the source of draws: a list of two ints, of which only that it is one is told -/
inductive Src where
  | mk
instance : Rep Src := ⟨fun _ H v _ => ∃ S, v = .ref S ∧ H S = some (SrcO S), fun e ⟨S, h1, h2⟩ => ⟨S, h1, ey_src e h2⟩⟩
section
variable {P : Program} {w : World} {K : PySem.W.Frag} {mg : Str → Option Value} {base : Heap} {k : Nat} {f : Addr} {fd : FuncData} {ps : List Str} {sp : Sp}
theorem src_new {h : Heap} {H : Hp} {S : Addr} {x y : Int} (hs : ObjOk P w H h S (.lst [.int x, .int y])) (h0 : 0 ≤ y) (h1 : y < 2147483647) {H' : Hp} : ObjOk P w H' h S (SrcO S) := by
  obtain ⟨_, its, n, r, e⟩ := hs
  exact ⟨⟨x, y, its, n, h0, h1, r, e⟩, ⟨_, e⟩, fun h1 h2 ⟨x, y, its, n, a, b, r, e⟩ k => ⟨x, y, its, n, a, b, r, k _ e⟩⟩
theorem src_get {h : Heap} {H : Hp} {S : Addr} (hs : ObjOk P w H h S (SrcO S)) : ∃ x y : Int, 0 ≤ y ∧ y < 2147483647 ∧ ∀ H', ObjOk P w H' h S (.lst [.int x, .int y]) := by
  obtain ⟨⟨x, y, its, n, a, b, r, e⟩, _⟩ := hs
  exact ⟨x, y, a, b, fun _ => ⟨by show 2 ≤ sizeLine; decide, its, n, r, e⟩⟩
/-- a def that hands back a source -/
theorem toSrc (F : FnOk P w K mg base CX0 k f fd ps sp) : FnOk P w K mg base CX0 k f fd ps (fun vs H Q E => sp vs H (fun v H' => ∃ S x y, 0 ≤ y ∧ y < 2147483647 ∧ H' S = some (.lst [.int x, .int y]) ∧ Q v (upd H' S (SrcO S))) E) := by
  refine ⟨fun vs H Q E h => F.len _ _ _ _ h, fun A outer s H args us vs Q E hr e0 hb hv hs => ?_⟩
  refine codeAny_mono (F.run A outer s H args us vs _ E hr e0 hb hv hs) fun r s' hq => ?_
  cases r with
  | error e => exact hq
  | ok fl =>
    cases fl with
    | ret u =>
      obtain ⟨v, H', e1, e2, e3, e4, e5, S, x, y, y0, y1, hS, q⟩ := hq
      have mu : Mut (H' S) := by
        rw [hS]
        exact trivial
      obtain ⟨_, its, n, _, eo⟩ := e4 S _ hS
      exact ⟨v, _, e1, e2, e3.trans (Un.write (o := SrcO S) mu (.inl rfl) (fun _ _ _ q => q) ⟨_, eo⟩), e4.write mu (.inl rfl) (fun _ _ _ q => q) ⟨_, eo⟩ (src_new (e4 S _ hS) y0 y1), e5, q⟩
    | _ => exact hq
/-- a def that is given one -/
theorem ofSrc (F : FnOk P w K mg base CX0 k f fd ps sp) (len : ∀ vs H Q E, sp vs H Q E → vs.length = ps.length) : FnOk P w K mg base CX0 k f fd ps (fun vs H Q E => ∃ S, H S = some (SrcO S) ∧ ∀ x y : Int, 0 ≤ y → y < 2147483647 → sp vs (upd H S (.lst [.int x, .int y])) Q E) := by
  refine ⟨fun vs H Q E h => ?_, fun A outer s H args us vs Q E hr e0 hb hv hs => ?_⟩
  · obtain ⟨S, _, h⟩ := h
    exact len _ _ _ _ (h 0 0 (by omega) (by omega))
  obtain ⟨S, hS, hs⟩ := hs
  obtain ⟨x, y, y0, y1, hn⟩ := src_get (e0.hok S _ hS)
  have mu : Mut (H S) := by
    rw [hS]
    exact trivial
  obtain ⟨_, its, n, _, eo⟩ := hn H
  have ne : ∀ b, H b = none → b ≠ S := fun b hb z => by
    rw [z, hS] at hb
    cases hb
  have e1 : Env0 P w K mg base A outer s (upd H S (.lst [.int x, .int y])) := ⟨e0.frames, e0.mod, fun b o hb => ⟨(e0.bs b o hb).1, by rw [upd_ne (ne b (e0.bs b o hb).2)]; exact (e0.bs b o hb).2⟩, e0.bsz, e0.funs, fun b hb => by rw [upd_ne (ne b (e0.frf b hb))]; exact e0.frf b hb,
    e0.hok.write mu (.inl rfl) (fun _ _ _ q => q) ⟨_, eo⟩ (hn _), e0.bare⟩
  refine codeAny_mono (F.run A outer s _ args us vs Q E hr e1 hb hv (hs x y y0 y1)) fun r s' hq => ?_
  cases r with
  | error e => exact (show False from hq).elim
  | ok fl =>
    cases fl with
    | ret u =>
      obtain ⟨v, H', e2, e3, e4, e5, e6, q⟩ := hq
      exact ⟨v, H', e2, e3, (Un.write (o := .lst [.int x, .int y]) mu (.inl rfl) (fun _ _ _ q => q) ⟨_, eo⟩).trans e4, e5, e6, q⟩
    | _ => exact hq
end

/-! ### what evaluates to some datum with a property -/
section
variable {α β γ : Type} [Rep α] [Rep β] [Rep γ] {K : PySem.W.Frag} {σ σ' : L2.St} {H H' : Hp} {ta tb te ts : TE} {tA : TA} {E : XK} {u : TS} {D : Ends}
def EN (K : PySem.W.Frag) (te : TE) (σ : L2.St) (H : Hp) (P : α → Prop) : Prop := ∀ H1, Ex H H1 → ∀ Q : VK, (∀ x v H2, P x → Ex H1 H2 → Rep.rel K H2 v x → Q v H2) → te σ H1 Q
theorem en_of {P : α → Prop} {x : α} (h : ER K te σ H x) (hp : P x) : EN K te σ H P := fun H1 e Q q => h H1 e Q fun v H2 e2 r => q x v H2 hp e2 r
theorem en_imp {P P' : α → Prop} (h : EN K te σ H P) (hp : ∀ x, P x → P' x) : EN K te σ H P' := fun H1 e Q q => h H1 e Q fun x v H2 p e2 r => q x v H2 (hp x p) e2 r
theorem en_II {r : R2} {P1 P2 : Int → Prop} {P : β → Prop} (ha : EN K ta σ H P1) (hb : EN K tb σ H P2) (hr : ∀ i j H1 (Q : VK), P1 i → P2 j → (∀ x v, P x → Rep.rel K H1 v x → Q v H1) → r (.int i) (.int j) H1 Q) : EN K (tOp r ta tb) σ H P := fun H1 e Q q =>
  ha H1 e _ fun i v1 H2 p1 e2 r1 => hb H2 (e.trans e2) _ fun j v2 H3 p2 e3 r2 => by
    cases r1
    cases r2
    exact hr i j H3 Q p1 p2 fun x v p rv => q x v H3 p (e2.trans e3) rv
theorem en_add {P1 P2 P : Int → Prop} (ha : EN K ta σ H P1) (hb : EN K tb σ H P2) (h : ∀ i j, P1 i → P2 j → P (i + j)) : EN K (tOp (rI0 fun i j => .int (i + j)) ta tb) σ H P := en_II ha hb fun i j H1 Q p1 p2 q => ⟨i, j, rfl, rfl, q _ _ (h i j p1 p2) rfl⟩
theorem en_sub {P1 P2 P : Int → Prop} (ha : EN K ta σ H P1) (hb : EN K tb σ H P2) (h : ∀ i j, P1 i → P2 j → P (i - j)) : EN K (tOp (rI0 fun i j => .int (i - j)) ta tb) σ H P := en_II ha hb fun i j H1 Q p1 p2 q => ⟨i, j, rfl, rfl, q _ _ (h i j p1 p2) rfl⟩
theorem en_mul {P1 P2 P : Int → Prop} (ha : EN K ta σ H P1) (hb : EN K tb σ H P2) (h : ∀ i j, P1 i → P2 j → CMul i j ∧ P (i * j)) : EN K (tOp (rI CMul fun i j => .int (i * j)) ta tb) σ H P := en_II ha hb fun i j H1 Q p1 p2 q => ⟨i, j, rfl, rfl, (h i j p1 p2).1, q _ _ (h i j p1 p2).2 rfl⟩
theorem en_div {P1 P2 P : Int → Prop} (ha : EN K ta σ H P1) (hb : EN K tb σ H P2) (h : ∀ i j, P1 i → P2 j → CDivW i j ∧ P (i / j)) : EN K (tOp (rI CDivW fun i j => .int (i / j)) ta tb) σ H P := en_II ha hb fun i j H1 Q p1 p2 q => ⟨i, j, rfl, rfl, (h i j p1 p2).1, q _ _ (h i j p1 p2).2 rfl⟩
theorem en_eqI {P1 P2 : Int → Prop} (ha : EN K ta σ H P1) (hb : EN K tb σ H P2) : EN K (tOp rEq ta tb) σ H (fun _ : Bool => True) := en_II ha hb fun i j H1 Q p1 p2 q => ⟨rfl, q (decide (V.int i = V.int j)) _ trivial rfl⟩
theorem en_min2 {P1 P2 P : Int → Prop} (ha : EN K ta σ H P1) (hb : EN K tb σ H P2) (h : ∀ i j, P1 i → P2 j → P (min i j)) : EN K (tCB rMin2' (tCons ta (tCons tb tNil))) σ H P := fun H1 e Q q =>
  ha H1 e _ fun i v1 H2 p1 e2 r1 => hb H2 (e.trans e2) _ fun j v2 H3 p2 e3 r2 => ⟨i, j, by rw [r1, r2], by
    have z : (if j < i then j else i) = min i j := by
      split <;> omega
    rw [z]
    exact q _ _ H3 (h i j p1 p2) (e2.trans e3) rfl⟩
theorem en_max2 {P1 P2 P : Int → Prop} (ha : EN K ta σ H P1) (hb : EN K tb σ H P2) (h : ∀ i j, P1 i → P2 j → P (max i j)) : EN K (tCB rMax2' (tCons ta (tCons tb tNil))) σ H P := fun H1 e Q q =>
  ha H1 e _ fun i v1 H2 p1 e2 r1 => hb H2 (e.trans e2) _ fun j v2 H3 p2 e3 r2 => ⟨i, j, by rw [r1, r2], by
    have z : (if j > i then j else i) = max i j := by
      split <;> omega
    rw [z]
    exact q _ _ H3 (h i j p1 p2) (e2.trans e3) rfl⟩
/-- n data, each with a property -/
def ENs (K : PySem.W.Frag) (tA : TA) (σ : L2.St) (H : Hp) (n : Nat) (P : α → Prop) : Prop := ∀ H1, Ex H H1 → ∀ Q : List V → Hp → Prop, (∀ (xs : List α) vs H2, xs.length = n → (∀ x ∈ xs, P x) → Ex H1 H2 → rels K H2 vs xs → Q vs H2) → tA σ H1 Q
theorem ens_nil {P : α → Prop} : ENs K tNil σ H 0 P := fun H1 _ Q q => q [] [] H1 rfl (fun _ h => nomatch h) (Ex.refl _) .nil
theorem ens_cons {P : α → Prop} {n : Nat} (h : EN K te σ H P) (hr : ENs K tA σ H n P) : ENs K (tCons te tA) σ H (n + 1) P := fun H1 e Q q => h H1 e _ fun x v H2 p e2 r => hr H2 (e.trans e2) _ fun xs vs H3 l pa e3 rs =>
  q (x :: xs) _ H3 (by rw [List.length_cons, l]) (fun y hy => by
    rcases List.mem_cons.mp hy with z | z
    · rw [z]
      exact p
    · exact pa y z) (e2.trans e3) (.cons (Rep.mono e3 r) rs)
theorem en_lst {P : α → Prop} {n : Nat} (h : ENs K tA σ H n P) (hn : n ≤ 100000) : EN K (tLst tA) σ H (fun xs : List α => xs.length = n ∧ ∀ x ∈ xs, P x) := fun H1 e Q q => h H1 e _ fun xs vs H2 l pa e2 rs => ⟨by rw [rels_len rs, l]; exact sz_of hn, fun p hp =>
  have n := Ex.new (o := .lst vs) hp
  q xs _ _ ⟨l, pa⟩ (e2.trans n) ⟨p, vs, rfl, upd_same, rels_mono n rs⟩⟩
theorem en_tup2 {P1 : α → Prop} {P2 : β → Prop} (ha : EN K ta σ H P1) (hb : EN K tb σ H P2) : EN K (tTup (tCons ta (tCons tb tNil))) σ H (fun x : α × β => P1 x.1 ∧ P2 x.2) := fun H1 e Q q =>
  ha H1 e _ fun x v1 H2 p1 e2 r1 => hb H2 (e.trans e2) _ fun y v2 H3 p2 e3 r2 => ⟨sz_of (by show 2 ≤ 100000; decide), fun p hp =>
    have n := Ex.new (o := .tup [v1, v2]) hp
    q (x, y) (.ref p) _ ⟨p1, p2⟩ ((e2.trans e3).trans n) ⟨p, v1, v2, rfl, st_of upd_same, Rep.mono (e3.trans n) r1, Rep.mono n r2⟩⟩
/-! the promises of draws -/
def SP_draw (K : PySem.W.Frag) : Sp := fun vs H Q _ => ∃ v n, vs = [v, .int n] ∧ Rep.rel K H v Src.mk ∧ 1 ≤ n ∧ n ≤ 1000000000000000000000000 ∧ ∀ d H', 0 ≤ d → d < n → Ex H H' → Q (.int d) H'
def SP_choice (K : PySem.W.Frag) : Sp := fun vs H Q _ => ∃ v l xs, vs = [v, .ref l] ∧ Rep.rel K H v Src.mk ∧ H l = some (.lst xs) ∧ 1 ≤ xs.length ∧ xs.length ≤ 100000 ∧ ∀ x H', x ∈ xs → Ex H H' → Q x H'
theorem en_draw {P1 P : Int → Prop} (hs : ER K ts σ H Src.mk) (ha : EN K ta σ H P1) (h : ∀ n, P1 n → 1 ≤ n ∧ n ≤ 1000000000000000000000000) (hp : ∀ n d, P1 n → 0 ≤ d → d < n → P d) : EN K (tCall (SP_draw K) [] E (tCons ts (tCons ta tNil))) σ H P := fun H1 e Q q =>
  hs H1 e _ fun v1 H2 e2 r1 => ha H2 (e.trans e2) _ fun n v2 H3 p1 e3 r2 => by
    cases r2
    exact ⟨v1, n, rfl, Rep.mono e3 r1, (h n p1).1, (h n p1).2, fun d H' d0 d1 e4 => q d _ H' (hp n d p1 d0 d1) ((e2.trans e3).trans e4) rfl⟩
theorem rels_mem {vs : List V} {xs : List α} (h : rels K H vs xs) {v : V} (hv : v ∈ vs) : ∃ x, x ∈ xs ∧ Rep.rel K H v x := by
  obtain ⟨i, hi⟩ := List.getElem?_of_mem hv
  obtain ⟨x, h1, h2⟩ := rels_get h hi
  exact ⟨x, List.mem_of_getElem? h1, h2⟩
theorem en_choice {P : α → Prop} (hs : ER K ts σ H Src.mk) (ha : EN K ta σ H (fun xs : List α => 1 ≤ xs.length ∧ xs.length ≤ 100000 ∧ ∀ x ∈ xs, P x)) : EN K (tCall (SP_choice K) [] E (tCons ts (tCons ta tNil))) σ H P := fun H1 e Q q =>
  hs H1 e _ fun v1 H2 e2 r1 => ha H2 (e.trans e2) _ fun xs v2 H3 ⟨p1, p2, p3⟩ e3 ⟨l, vs, hv, hl, hr⟩ => by
    subst hv
    refine ⟨v1, l, vs, rfl, Rep.mono e3 r1, hl, by rw [rels_len hr]; exact p1, by rw [rels_len hr]; exact p2, fun v H' hm e4 => ?_⟩
    obtain ⟨x, hx, rx⟩ := rels_mem hr hm
    exact q x v H' (p3 x hx) ((e2.trans e3).trans e4) (Rep.mono e4 rx)
/-- .. of a written list -/
theorem en_pick {P : α → Prop} {n : Nat} (hs : ER K ts σ H Src.mk) (ha : ENs K tA σ H n P) (h1 : 1 ≤ n) (h2 : n ≤ 100000) : EN K (tCall (SP_choice K) [] E (tCons ts (tCons (tLst tA) tNil))) σ H P :=
  en_choice hs (en_imp (en_lst ha h2) fun xs ⟨l, p⟩ => ⟨by omega, by omega, p⟩)
theorem n_set (K : PySem.W.Frag) {P : α → Prop} {n : Nat} {s' : V → L2.St} (h : EN K te σ H P) (s : ∀ v, SetAt σ n v (s' v)) (k : ∀ x v H1, P x → Ex H H1 → Rep.rel K H1 v x → u D (s' v) H1) : tSeq (tAsg te (gName n)) u D σ H := h H (Ex.refl H) _ fun x v H1 p e r => by
  show u D (σ.set n (some v)) H1
  rw [(s v).eq]
  exact k x v H1 p e r
theorem nl_set (K : PySem.W.Frag) {P : α → Prop} {n : Nat} {s' : V → L2.St} (h : EN K te σ H P) (s : ∀ v, SetAt σ n v (s' v)) (k : ∀ x v H1, P x → Ex H H1 → Rep.rel K H1 v x → D.nx (s' v) H1) : tAsg te (gName n) D σ H := h H (Ex.refl H) _ fun x v H1 p e r => by
  show D.nx (σ.set n (some v)) H1
  rw [(s v).eq]
  exact k x v H1 p e r
theorem n_setI (K : PySem.W.Frag) {P : Int → Prop} {n : Nat} {s' : V → L2.St} (h : EN K te σ H P) (s : ∀ v, SetAt σ n v (s' v)) (k : ∀ i H1, P i → Ex H H1 → u D (s' (.int i)) H1) : tSeq (tAsg te (gName n)) u D σ H := n_set K h s fun x v H1 p e r => by
  cases r
  exact k x H1 p e
theorem n_par (K : PySem.W.Frag) {n m : Nat} {s1 s2 : V → V → L2.St} {P1 : α → Prop} {P2 : β → Prop} (h : EN K ta σ H P1) (h2 : ∀ H1, Ex H H1 → EN K tb σ H1 P2) (hs1 : ∀ v w, SetAt σ n v (s1 v w)) (hs2 : ∀ v w, SetAt (s1 v w) m w (s2 v w))
    (k : ∀ x y v w H1, P1 x → P2 y → Ex H H1 → Rep.rel K H1 v x → Rep.rel K H1 w y → u D (s2 v w) H1) : tSeq (tPar n m (tCons ta (tCons tb tNil))) u D σ H := h H (Ex.refl H) _ fun x v H1 p1 e r => h2 H1 e H1 (Ex.refl H1) _ fun y w H2 p2 e2 r2 => ⟨v, w, rfl, by
  show u D ((σ.set n (some v)).set m (some w)) H2
  rw [(hs1 v w).eq, (hs2 v w).eq]
  exact k x y v w H2 p1 p2 (e.trans e2) (Rep.mono e2 r) r2⟩
theorem n_ret (K : PySem.W.Frag) {P : α → Prop} {Q : VK} {nx bk ct} (h : EN K te σ H P) (k : ∀ x v H1, P x → Ex H H1 → Rep.rel K H1 v x → Q v H1) : tRet te ⟨nx, Q, bk, ct⟩ σ H := h H (Ex.refl H) _ fun x v H1 p e r => k x v H1 p e r
end

/-! ### texts and their signs -/
section
variable {K : PySem.W.Frag} {σ : L2.St} {H : Hp} {ta te to : TE}
def rListZ : List V → Hp → VK → Prop := fun xs H Q => ∃ z, xs = [.str z] ∧ z.length ≤ 100000 ∧ ∀ l, H l = none → Q (.ref l) (upd H l (.lst (z.cps.toList.map fun c => V.str ⟨#[c]⟩)))
theorem call_listZ {X : Cx} (hc : X.calm = true) : CallR X (.type "list") rListZ := by
  intro pins s σ H xs us Q I r h
  obtain ⟨z, rfl, hz, q⟩ := h
  obtain ⟨u, rfl, rx⟩ := vals1 r
  obtain ⟨t, rfl⟩ := rx
  refine PySem.call_list_str (I.ok.hd hc) z t (fun h' tk acc' c' kp e hi => ?_) (sz_of hz)
  refine ⟨.ref s.heap.objs.size, _, I.laid (t' := tk) kp (Nat.le_refl _) (show ObjOk X.prog X.w _ h' _ (.lst (z.cps.toList.map fun c => V.str ⟨#[c]⟩)) from ⟨?_, acc'.toList, c', ?_, e⟩), rfl, q _ (I.hok.fresh (Nat.le_refl _))⟩
  · rw [List.length_map, Array.length_toList]
    exact sz_of hz
  · have go : ∀ (n : Nat) (cs : List Nat) (vs : List Value), cs.length = n → vs.length = n → (∀ (i : Nat) (v : Value), vs[i]? = some v → ∃ c u, cs[i]? = some c ∧ v = Value.str ⟨#[c]⟩ u) → Vals (cs.map fun c => V.str ⟨#[c]⟩) vs := by
      intro n
      induction n with
      | zero =>
        intro cs vs h1 h2 _
        have e1 := List.length_eq_zero_iff.mp h1
        have e2 := List.length_eq_zero_iff.mp h2
        subst e1
        subst e2
        exact .nil
      | succ n ih =>
        intro cs vs h1 h2 hh
        match cs, vs, h1, h2 with
        | c :: cs, v :: vs, h1, h2 =>
          obtain ⟨c', u, hc', hv⟩ := hh 0 v rfl
          cases hc'
          exact .cons ⟨u, hv⟩ (ih cs vs (by simpa using h1) (by simpa using h2) fun i w hw => hh (i + 1) w (by simpa using hw))
    refine go z.cps.size _ _ (by simp) (by rw [Array.length_toList]; exact hi.1) fun i v hv => ?_
    obtain ⟨c, u, h1, h2⟩ := hi.2 i v (by rw [← Array.getElem?_toList]; exact hv)
    exact ⟨c, u, by rw [Array.getElem?_toList]; exact h1, h2⟩
theorem sgs_rels {cs : List Nat} : rels K H (cs.map fun c => V.str ⟨#[c]⟩) (cs.map Sg.mk) := by
  induction cs with
  | nil => exact .nil
  | cons c r ih => exact .cons rfl ih
theorem er_listZ {z : Str} (h : ER K ta σ H z) (hz : z.length ≤ 100000) : ER K (tCB rListZ (tCons ta tNil)) σ H (sgs z) := fun H1 e Q q => h H1 e _ fun v H2 e2 r => ⟨z, by rw [r], hz, fun l hl =>
  have n := Ex.new (o := .lst (z.cps.toList.map fun c => .str ⟨#[c]⟩)) hl
  q _ _ (e2.trans n) ⟨l, _, rfl, upd_same, sgs_rels⟩⟩
theorem en_listZ {P : Str → Prop} (h : EN K ta σ H P) (hz : ∀ z, P z → z.length ≤ 100000) : EN K (tCB rListZ (tCons ta tNil)) σ H (fun xs : List Sg => ∃ z, P z ∧ xs = sgs z) := fun H1 e Q q => h H1 e _ fun z v H2 p e2 r => ⟨z, by rw [r], hz z p, fun l hl =>
  have n := Ex.new (o := .lst (z.cps.toList.map fun c => .str ⟨#[c]⟩)) hl
  q (sgs z) _ _ ⟨z, p, rfl⟩ (e2.trans n) ⟨l, _, rfl, upd_same, sgs_rels⟩⟩
def unsg (xs : List Sg) : Str := ⟨(xs.map Sg.c).toArray⟩
theorem unsg_codes (xs : List Sg) : (unsg xs).cps.toList = xs.map Sg.c := by simp [unsg]
theorem unsg_len (xs : List Sg) : (unsg xs).length = xs.length := by
  show (xs.map Sg.c).toArray.size = _
  simp
theorem sg_strs {vs : List V} {xs : List Sg} (h : rels K H vs xs) : vs = (xs.map fun s => (⟨#[s.c]⟩ : Str)).map V.str := by
  induction h with
  | nil => rfl
  | cons r _ ih =>
    cases r
    rw [ih]
    rfl
theorem sg_sum (xs : List Sg) : ((xs.map fun s => (⟨#[s.c]⟩ : Str)).map (·.length)).sum = xs.length := by
  induction xs with
  | nil => rfl
  | cons s r ih =>
    simp only [List.map_cons, List.sum_cons, List.length_cons]
    rw [ih]
    show 1 + _ = _
    omega
theorem sg_flat (xs : List Sg) : ((xs.map fun s => (⟨#[s.c]⟩ : Str)).map fun z => z.cps.toList).flatten = xs.map Sg.c := by
  induction xs with
  | nil => rfl
  | cons s r ih =>
    simp only [List.map_cons, List.flatten_cons]
    rw [ih]
    rfl
abbrev rJoinQ (K : PySem.W.Frag) : V → List V → Hp → VK → Prop := fun x xs H Q => ∃ a p, ∃ ys : List Str, x = .str a ∧ xs = [.ref p] ∧ (SqL K H p (ys.map V.str) ∨ SqT K H p (ys.map V.str)) ∧ (ys.map (·.length)).sum + ys.length * a.length ≤ 16777216 ∧ Q (.str (Txt.join a ys)) H
theorem tl_joinE (ys : List Str) : (Txt.join (Str.ofString "") ys).cps.toList = (ys.map fun z => z.cps.toList).flatten := by
  have h : ∀ ps : List (List Nat), TL.joinL [] ps = ps.flatten := by
    intro ps
    induction ps with
    | nil => rfl
    | cons p r ih =>
      cases r with
      | nil => simp [TL.joinL]
      | cons q r =>
        show p ++ ([] ++ TL.joinL [] (q :: r)) = p ++ (q :: r).flatten
        rw [ih]
        rfl
  rw [TL.join_eq]
  exact (TL.tl_join _ ys).trans (h _)
/-- ''.join of signs -/
theorem er_joinG {xs : List Sg} (h : ER K te σ H xs) (hl : xs.length ≤ 100000) : ER K (tM1 (rJoinQ K) (tC (.str "")) te) σ H (unsg xs) := fun H1 e Q q => ⟨⟨_, rfl⟩, h H1 e _ fun v H2 e2 ⟨a, vs, hv, hs, hr⟩ => by
  subst hv
  have hvs := sg_strs hr
  subst hvs
  refine ⟨_, a, _, rfl, rfl, .inl (sq_of hs), ?_, q _ H2 e2 ?_⟩
  · rw [sg_sum, List.length_map]
    show xs.length + xs.length * 0 ≤ _
    omega
  · show V.str _ = V.str _
    congr 1
    have h1 := (tl_joinE (xs.map fun s => (⟨#[s.c]⟩ : Str))).trans (sg_flat xs)
    have e3 : ∀ a b : Str, a.cps.toList = b.cps.toList → a = b := by
      intro a b h
      obtain ⟨⟨a⟩⟩ := a
      obtain ⟨⟨b⟩⟩ := b
      have h' : a = b := h
      rw [h']
    exact e3 _ _ (h1.trans (unsg_codes xs).symm)⟩
end

/-! ### promises of defs that draw -/
section
variable {α β γ ε δ : Type} [Rep α] [Rep β] [Rep γ] [Rep ε] [Rep δ]
def spn2 (K : PySem.W.Frag) (pre : α → β → Prop) (post : α → β → δ → Prop) : Sp := fun vs H Q _ => ∃ x y a b, vs = [x, y] ∧ Rep.rel K H x a ∧ Rep.rel K H y b ∧ pre a b ∧ ∀ c v H', post a b c → Ex H H' → Rep.rel K H' v c → Q v H'
def spn3 (K : PySem.W.Frag) (pre : α → β → γ → Prop) (post : α → β → γ → δ → Prop) : Sp := fun vs H Q _ => ∃ x y z a b c, vs = [x, y, z] ∧ Rep.rel K H x a ∧ Rep.rel K H y b ∧ Rep.rel K H z c ∧ pre a b c ∧ ∀ d v H', post a b c d → Ex H H' → Rep.rel K H' v d → Q v H'
variable {K : PySem.W.Frag} {σ : L2.St} {H : Hp} {ta tb tc td : TE} {E : XK} {a : α} {b : β} {c : γ}
theorem en_call2 {pre : α → β → Prop} {post : α → β → δ → Prop} (ha : ER K ta σ H a) (hb : ER K tb σ H b) (hp : pre a b) : EN K (tCall (spn2 K pre post) [] E (tCons ta (tCons tb tNil))) σ H (post a b) := fun H1 e Q q =>
  ha H1 e _ fun v1 H2 e2 r1 => hb H2 (e.trans e2) _ fun v2 H3 e3 r2 => ⟨v1, v2, a, b, rfl, Rep.mono e3 r1, r2, hp, fun c v H' p e' r => q c v H' p ((e2.trans e3).trans e') r⟩
/-- the second argument drawn -/
theorem en_call2n {pre : α → β → Prop} {post : α → β → δ → Prop} {P1 : β → Prop} {P : δ → Prop} (ha : ER K ta σ H a) (hb : EN K tb σ H P1) (hp : ∀ b, P1 b → pre a b) (h : ∀ b c, P1 b → post a b c → P c) : EN K (tCall (spn2 K pre post) [] E (tCons ta (tCons tb tNil))) σ H P := fun H1 e Q q =>
  ha H1 e _ fun v1 H2 e2 r1 => hb H2 (e.trans e2) _ fun b v2 H3 p1 e3 r2 => ⟨v1, v2, a, b, rfl, Rep.mono e3 r1, r2, hp b p1, fun c v H' p e' r => q c v H' (h b c p1 p) ((e2.trans e3).trans e') r⟩
theorem en_call3 {pre : α → β → γ → Prop} {post : α → β → γ → δ → Prop} (ha : ER K ta σ H a) (hb : ER K tb σ H b) (hc : ER K tc σ H c) (hp : pre a b c) : EN K (tCall (spn3 K pre post) [] E (tCons ta (tCons tb (tCons tc tNil)))) σ H (post a b c) := fun H1 e Q q =>
  ha H1 e _ fun v1 H2 e2 r1 => hb H2 (e.trans e2) _ fun v2 H3 e3 r2 => hc H3 ((e.trans e2).trans e3) _ fun v3 H4 e4 r3 =>
    ⟨v1, v2, v3, a, b, c, rfl, Rep.mono (e3.trans e4) r1, Rep.mono e4 r2, r3, hp, fun d v H' p e' r => q d v H' p (((e2.trans e3).trans e4).trans e') r⟩
variable {P : Program} {w : World} {mg : Str → Option Value} {base : Heap} {x qual : Str} {params : Arguments} {body : List Stmt} {scope : Scope} {dvs : List V} {kws : List (Str × V)} {f : Addr} {fd : FuncData} {N ps : List Str} {k : Nat} {CX : CXT}
theorem okn2 {pre : α → β → Prop} {post : α → β → δ → Prop} (F : FunD K x qual params body scope dvs kws f fd) (S : FnScope N ps scope) (hl : ps.length = 2) (σ0 : V → V → L2.St) (h0 : ∀ x y, start N [x, y] = σ0 x y)
    (h : ∀ (H : Hp) (Q : VK) (x y : V) (a : α) (b : β), Rep.rel K H x a → Rep.rel K H y b → pre a b → (∀ c v H', post a b c → Ex H H' → Rep.rel K H' v c → Q v H') → Body CX P w K mg base k f N qual scope body H Q (σ0 x y)) : FnOk P w K mg base CX (k + 1) f fd ps (spn2 K pre post) := by
  refine F.ok S (fun vs H Q E hs => ?_) (fun cdv A outer s H vs Q E hr hs => ?_)
  · obtain ⟨x, y, a, b, rfl, _⟩ := hs
    exact hl.symm
  · obtain ⟨x, y, a, b, rfl, h1, h2, hp, q⟩ := hs
    rw [h0]
    exact h H Q x y a b h1 h2 hp q cdv A outer s E hr
theorem okn3 {pre : α → β → γ → Prop} {post : α → β → γ → δ → Prop} (F : FunD K x qual params body scope dvs kws f fd) (S : FnScope N ps scope) (hl : ps.length = 3) (σ0 : V → V → V → L2.St) (h0 : ∀ x y z, start N [x, y, z] = σ0 x y z)
    (h : ∀ (H : Hp) (Q : VK) (x y z : V) (a : α) (b : β) (c : γ), Rep.rel K H x a → Rep.rel K H y b → Rep.rel K H z c → pre a b c → (∀ d v H', post a b c d → Ex H H' → Rep.rel K H' v d → Q v H') → Body CX P w K mg base k f N qual scope body H Q (σ0 x y z)) : FnOk P w K mg base CX (k + 1) f fd ps (spn3 K pre post) := by
  refine F.ok S (fun vs H Q E hs => ?_) (fun cdv A outer s H vs Q E hr hs => ?_)
  · obtain ⟨x, y, z, a, b, c, rfl, _⟩ := hs
    exact hl.symm
  · obtain ⟨x, y, z, a, b, c, rfl, h1, h2, h3, hp, q⟩ := hs
    rw [h0]
    exact h H Q x y z a b c h1 h2 h3 hp q cdv A outer s E hr
/-! the source's own two defs -/
def spDraw : Sp := fun vs H Q _ => ∃ S x y n, vs = [.ref S, .int n] ∧ H S = some (.lst [.int x, .int y]) ∧ 0 ≤ y ∧ y < 2147483647 ∧ 1 ≤ n ∧ n ≤ 1000000000000000000000000 ∧
  ∀ d x' y' H', 0 ≤ d → d < n → 0 ≤ y' → y' < 2147483647 → (∀ a o, a ≠ S → H a = some o → H' a = some o) → H' S = some (.lst [.int x', .int y']) → Q (.int d) H'
theorem draw_of {P : Program} (F : FnOk P w K mg base CX0 k f fd ps spDraw) (hl : ps.length = 2) : FnOk P w K mg base CX0 k f fd ps (SP_draw K) := by
  refine FnOk.imp (ofSrc (toSrc F) ?_) ?_
  · intro vs H Q E h
    obtain ⟨S, x, y, n, rfl, _⟩ := h
    exact hl.symm
  · rintro vs H Q E ⟨v, n, rfl, ⟨S, rfl, hS⟩, n1, n2, q⟩
    refine ⟨S, hS, fun x y y0 y1 => ⟨S, x, y, n, rfl, upd_same, y0, y1, n1, n2, fun d x' y' H' d0 d1 y0' y1' hH hS' => ⟨S, x', y', y0', y1', hS', q d _ d0 d1 fun a o ha => ?_⟩⟩⟩
    by_cases z : a = S
    · subst z
      rw [upd_same, ← hS, ha]
    · rw [upd_ne z]
      exact hH a o z (by rw [upd_ne z]; exact ha)
def spSource (K : PySem.W.Frag) : Sp := fun vs H Q _ => ∃ (a : Addr) (ns : List Int) (n : Int), vs = [.ref a, .int n] ∧ SqL K H a (ns.map V.int) ∧ 0 ≤ n ∧ n ≤ 1000000 ∧ ∀ p x y H', H p = none → Ex H H' → 0 ≤ y → y < 2147483647 → H' p = some (.lst [.int x, .int y]) → Q (.ref p) H'
def SP_source (K : PySem.W.Frag) : Sp := fun vs H Q _ => ∃ (a : Addr) (ns : List Int) (n : Int), vs = [.ref a, .int n] ∧ SqL K H a (ns.map V.int) ∧ 0 ≤ n ∧ n ≤ 1000000 ∧ ∀ v H', Ex H H' → Rep.rel K H' v Src.mk → Q v H'
theorem source_of {P : Program} (F : FnOk P w K mg base CX0 k f fd ps (spSource K)) : FnOk P w K mg base CX0 k f fd ps (SP_source K) := by
  refine FnOk.imp (toSrc F) ?_
  rintro vs H Q E ⟨a, ns, n, rfl, hs, n0, n1, q⟩
  exact ⟨a, ns, n, rfl, hs, n0, n1, fun p x y H' hp e y0 y1 hp' => ⟨p, x, y, y0, y1, hp', q _ _ (Ex.mut e hp) ⟨p, rfl, upd_same⟩⟩⟩
end

/-! ### walks over drawn data, comprehensions that draw -/
section
variable {α β γ : Type} [Rep α] [Rep β] [Rep γ] {K : PySem.W.Frag} {σ : L2.St} {H H' : Hp} {te tl ta tb : TE}
def WkN (K : PySem.W.Frag) (wi : TI) (σ : L2.St) (H : Hp) (PX : List α → Prop) : Prop := ∀ H1, Ex H H1 → ∀ R : It → Hp → Prop, (∀ xs J H2 G Y, PX xs → Ex H1 H2 → Walk J xs.length G Y → (∀ H3, Ey H2 H3 → G H3) →
  (∀ i Ha v Hb, i < xs.length → Ey H2 Ha → Y i Ha v Hb → Ex Ha Hb ∧ ∃ x, xs[i]? = some x ∧ Rep.rel K Hb v x) → R J H2) → wi σ H1 R
theorem wkn_of {wi : TI} {xs : List α} (h : Wk K wi σ H xs) : WkN K wi σ H (fun ys => ys = xs) := fun H1 e R k => h H1 e R fun J H2 G Y e2 w hG hY => k xs J H2 G Y rfl e2 w hG hY
theorem wkn_rng1 {P1 : Int → Prop} (h : EN K ta σ H P1) (hn : ∀ n, P1 n → -(2 ^ 62) ≤ n ∧ n < 2 ^ 62) : WkN K (iRng1 (tCons ta tNil)) σ H (fun xs : List Int => ∃ n, P1 n ∧ xs = rng 0 n.toNat) := fun H1 e R k => h H1 e _ fun n v H2 p e2 r => by
  cases r
  refine ⟨n, rfl, (hn n p).1, (hn n p).2, k (rng 0 n.toNat) _ H2 _ _ ⟨n, p, rfl⟩ e2 walk_rng (fun _ _ => trivial) fun i Ha v Hb hi ea y => ?_⟩
  obtain ⟨rfl, rfl⟩ := y
  rw [rng_len] at hi
  exact ⟨Ex.refl _, _, rng_get hi, rfl⟩
theorem en_lcY [Imm β] {wi : TI} {PX : List α → Prop} {vs : List Nat} {gt : TG} (P : α → β → Prop) (h : WkN K wi σ H PX) (hz : ∀ xs, PX xs → xs.length ≤ 100000)
    (ht : ∀ xs x v H1, PX xs → x ∈ xs → Ex H H1 → Rep.rel K H1 v x → ∀ Q : L2.St → Hp → Prop, (∀ σ2 H2, Ex H1 H2 → wipe σ2 vs = wipe σ vs → EN K te σ2 H2 (P x) → Q σ2 H2) → gt v (wipe σ vs) H1 Q) :
    EN K (tLc wi gt tYes te vs) σ H (fun ys : List β => ∃ xs, PX xs ∧ Paired P xs ys) := fun H0 e Q q => by
  refine h H0 e _ fun xs J H2 G Y px e2 w hG hY => ?_
  intro Dl hD
  have hx0 : ∀ i x, xs[i]? = some x → xs.take (i + 1) = xs.take i ++ [x] := fun i x hx => by
    rw [List.take_add_one, hx]
    rfl
  have pl : ∀ (as : List α) (bs : List β), Paired P as bs → bs.length = as.length := by
    intro as bs h
    induction h with
    | nil => rfl
    | cons _ _ ih => simp only [List.length_cons, ih]
  refine lc_it w (fun i H' => Ex H2 H' ∧ ∃ ws ys, H' Dl = some (.lst ws) ∧ rels K H' ws ys ∧ Paired P (xs.take i) ys) ⟨Ex.new hD, [], [], upd_same, .nil, by rw [List.take_zero]; exact .nil⟩ (fun i H' _ p => hG H' p.1.y) (fun i v H' H'' hi p y => ?_) (fun H' p => ?_)
  · obtain ⟨p1, ws, ys, p2, p3, p4⟩ := p
    obtain ⟨e3, x, hx, r⟩ := hY i H' v H'' hi p1.y y
    have hm : x ∈ xs := List.mem_of_getElem? hx
    refine ht xs x v H'' px hm ((e.trans e2).trans (p1.trans e3)) r _ fun σ2 H3 e4 hw t1 => ⟨hw, ?_⟩
    show te σ2 H3 _
    have hl : ws.length ≤ i := by
      rw [rels_len p3, pl _ _ p4, List.length_take]
      omega
    have hz2 := hz xs px
    refine t1 H3 (Ex.refl _) _ fun y v5 H5 py e6 ry => ⟨ws, e6 _ _ (e4 _ _ (e3 _ _ p2)), sz_lt (by omega), Ex.mut (((p1.trans e3).trans e4).trans e6) hD, ws ++ [v5], ys ++ [y], upd_same, ?_, ?_⟩
    · exact rels_imm (e6 _ _ (e4 _ _ (e3 _ _ p2))) (rels_snoc (rels_mono ((e3.trans e4).trans e6) p3) ry)
    · rw [hx0 i x hx]
      exact Paired.snoc p4 py
  · obtain ⟨p1, ws, ys, p2, p3, p4⟩ := p
    rw [List.take_length] at p4
    exact q ys (.ref Dl) H' ⟨xs, px, p4⟩ (e2.trans p1) ⟨Dl, ws, rfl, p2, p3⟩
theorem paired_len {P : α → β → Prop} {as : List α} {bs : List β} (h : Paired P as bs) : bs.length = as.length := by
  induction h with
  | nil => rfl
  | cons _ _ ih => simp only [List.length_cons, ih]
theorem paired_all {P : α → β → Prop} {P2 : β → Prop} {as : List α} {bs : List β} (h : Paired P as bs) (hp : ∀ a b, P a b → P2 b) : ∀ b ∈ bs, P2 b := by
  induction h with
  | nil => exact fun _ h => nomatch h
  | cons r _ ih =>
    intro b hb
    rcases List.mem_cons.mp hb with z | z
    · rw [z]
      exact hp _ _ r
    · exact ih b z
/-- ''.join of drawn signs -/
theorem en_joinG {P : List Sg → Prop} (h : EN K te σ H P) (hl : ∀ xs, P xs → xs.length ≤ 100000) : EN K (tM1 (rJoinQ K) (tC (.str "")) te) σ H (fun z => ∃ xs, P xs ∧ z = unsg xs) := fun H1 e Q q => by
  refine ⟨⟨_, rfl⟩, h H1 e _ fun xs v H2 p e2 r => ?_⟩
  have z := er_joinG (K := K) (te := tC v) (σ := σ) (H := H2) (xs := xs) (fun H3 e3 Q' q' => q' v H3 (Ex.refl _) (Rep.mono e3 r)) (hl xs p)
  obtain ⟨_, z2⟩ := z H2 (Ex.refl _) Q fun v' H3 e3 r3 => q (unsg xs) v' H3 ⟨xs, p, rfl⟩ (e2.trans e3) r3
  exact z2
end

/-! ### a field made; tests that draw; ways that meet again -/
section
variable {α β γ : Type} [Rep α] [Rep β] [Rep γ] {K : PySem.W.Frag} {σ σ' : L2.St} {H H' : Hp} {te tl ta tb tc td t4 t5 t6 : TE} {tt tu : TT} {u t1 t2 : TS} {D : Ends} {i : Int}
theorem er_mkF {f : Fld} (h0 : ER K ta σ H f.low) (h1 : ER K tb σ H f.high) (h2 : ER K tc σ H f.step) (h3 : ER K td σ H f.base) (h4 : ER K t4 σ H f.off) (h5 : ER K t5 σ H f.ends) (h6 : ER K t6 σ H f.big) :
    ER K (tTup (tCons ta (tCons tb (tCons tc (tCons td (tCons t4 (tCons t5 (tCons t6 tNil)))))))) σ H f := fun H1 e Q q =>
  h0 H1 e _ fun v0 H2 e2 r0 => h1 H2 (e.trans e2) _ fun v1 H3 e3 r1 => h2 H3 ((e.trans e2).trans e3) _ fun v2 H4 e4 r2 => h3 H4 (((e.trans e2).trans e3).trans e4) _ fun v3 H5 e5 r3 =>
  h4 H5 ((((e.trans e2).trans e3).trans e4).trans e5) _ fun v4 H6 e6 r4 => h5 H6 (((((e.trans e2).trans e3).trans e4).trans e5).trans e6) _ fun v5 H7 e7 r5 => h6 H7 ((((((e.trans e2).trans e3).trans e4).trans e5).trans e6).trans e7) _ fun v6 H8 e8 r6 => by
    cases r0
    cases r1
    cases r2
    cases r3
    cases r4
    cases r5
    cases r6
    refine ⟨sz_of (by show 7 ≤ 100000; decide), fun p hp => q (.ref p) _ ((((((((e2.trans e3).trans e4).trans e5).trans e6).trans e7).trans e8)).trans (Ex.new hp)) ⟨p, rfl, st_of upd_same⟩⟩
theorem en_c : EN K (tC (.int i)) σ H (fun x => x = i) := en_of er_int rfl
theorem en_s {s : Str} : EN K (tC (.str s)) σ H (fun x => x = s) := en_of er_str rfl
theorem en_v {n : Nat} (h : σ[n]? = some (some (.int i))) : EN K (tVar n) σ H (fun x => x = i) := en_of (er_varI h) rfl
theorem er_powc {i j k : Int} (hc : CPow i j) (hk : i ^ j.toNat = k) : ER K (tOp (rI CPow fun i j => .int (i ^ j.toNat)) (tC (.int i)) (tC (.int j))) σ H k := er_is (er_pow er_int er_int hc) hk
def ETN (K : PySem.W.Frag) (tt : TT) (σ : L2.St) (H : Hp) (P : Bool → Prop) : Prop := ∀ H1, Ex H H1 → ∀ Q : Bool → Hp → Prop, (∀ b H2, P b → Ex H1 H2 → Q b H2) → tt σ H1 Q
theorem etn_of {P : Bool → Prop} {b : Bool} (h : ET K tt σ H b) (hp : P b) : ETN K tt σ H P := fun H1 e Q q => h H1 e Q fun H2 e2 => q b H2 hp e2
theorem etn_t {P : Bool → Prop} (h : EN K te σ H P) : ETN K (tTest te) σ H P := fun H1 e Q q => h H1 e _ fun b v H2 p e2 r => ⟨b, r, q b H2 p e2⟩
theorem etn_b {P : Bool → Prop} (h : EN K te σ H P) : ETN K (tB te) σ H P := fun H1 e Q q => h H1 e _ fun b v H2 p e2 r => ⟨b, r, q b H2 p e2⟩
theorem etn_and {P1 P2 P : Bool → Prop} (h1 : ETN K tt σ H P1) (h2 : P1 true → ETN K tu σ H P2) (hf : P1 false → P false) (ht : ∀ b, P1 true → P2 b → P b) : ETN K (tAnd tt tu) σ H P := fun H1 e Q q => h1 H1 e _ fun b H2 p e2 => by
  cases b with
  | true =>
    show tu σ H2 Q
    exact h2 p H2 (e.trans e2) Q fun c H3 p3 e3 => q c H3 (ht c p p3) (e2.trans e3)
  | false => exact q false H2 (hf p) e2
theorem q_ifN (K : PySem.W.Frag) {P : Bool → Prop} (h : ETN K tt σ H P) (h1 : P true → ∀ H1, Ex H H1 → t1 { D with nx := u D } σ H1) (h2 : P false → ∀ H1, Ex H H1 → t2 { D with nx := u D } σ H1) : tSeq (tIfS tt t1 t2) u D σ H := h H (Ex.refl H) _ fun b H1 p e => by
  cases b with
  | true =>
    show t1 { D with nx := u D } σ H1
    exact h1 p H1 e
  | false =>
    show t2 { D with nx := u D } σ H1
    exact h2 p H1 e
theorem q_ifJ (K : PySem.W.Frag) {P : Bool → Prop} (W : L2.St → Hp → Prop) (hW : ∀ σ' H', W σ' H' → u D σ' H') (h : ETN K tt σ H P) (h1 : ∀ D2 : Ends, (∀ σ' H', W σ' H' → D2.nx σ' H') → P true → ∀ H1, Ex H H1 → t1 D2 σ H1)
    (h2 : ∀ D2 : Ends, (∀ σ' H', W σ' H' → D2.nx σ' H') → P false → ∀ H1, Ex H H1 → t2 D2 σ H1) : tSeq (tIfS tt t1 t2) u D σ H := q_ifN K h (h1 _ hW) (h2 _ hW)
theorem l_ifN (K : PySem.W.Frag) {P : Bool → Prop} (h : ETN K tt σ H P) (h1 : P true → ∀ H1, Ex H H1 → t1 D σ H1) (h2 : P false → ∀ H1, Ex H H1 → t2 D σ H1) : tIfS tt t1 t2 D σ H := h H (Ex.refl H) _ fun b H1 p e => by
  cases b with
  | true =>
    show t1 D σ H1
    exact h1 p H1 e
  | false =>
    show t2 D σ H1
    exact h2 p H1 e
end

section
variable {α β γ : Type} [Rep α] [Rep β] [Rep γ] {K : PySem.W.Frag} {σ σ' : L2.St} {H H' : Hp} {te tl ta tb tc td t4 t5 t6 : TE} {tt tu : TT} {u t1 t2 : TS} {D : Ends} {i : Int} {a b : Bool}
theorem er_BB {r : R2} {z : β} (ha : ER K ta σ H a) (hb : ER K tb σ H b) (hr : ∀ H1 (Q : VK), (∀ v, Rep.rel K H1 v z → Q v H1) → r (.bl a) (.bl b) H1 Q) : ER K (tOp r ta tb) σ H z := fun H1 e Q q =>
  ha H1 e _ fun v1 H2 e2 r1 => hb H2 (e.trans e2) _ fun v2 H3 e3 r2 => by
    cases r1
    cases r2
    exact hr H3 Q fun v rv => q v H3 (e2.trans e3) rv
theorem er_eqB (ha : ER K ta σ H a) (hb : ER K tb σ H b) : ER K (tOp rEq ta tb) σ H (decide (a = b)) := er_BB ha hb fun H1 Q q => ⟨rfl, q _ (by
  show V.bl (decide (V.bl a = V.bl b)) = V.bl (decide (a = b))
  simp only [V.bl.injEq])⟩
theorem er_neB (ha : ER K ta σ H a) (hb : ER K tb σ H b) : ER K (tOp rNe ta tb) σ H (!decide (a = b)) := er_BB ha hb fun H1 Q q => ⟨rfl, q _ (by
  show V.bl (!decide (V.bl a = V.bl b)) = V.bl (!decide (a = b))
  simp only [V.bl.injEq])⟩
theorem q_unpF {n : Nat} {g : TGs} {f : Fld} (hn : n = 7) (h : ER K te σ H f) (k : ∀ H1, Ex H H1 → g f.vs σ H1 fun σ' H' => u D σ' H') : tSeq (tAsg te (gTup K n g)) u D σ H := h H (Ex.refl H) _ fun v H1 e ⟨a, hv, hs⟩ => ⟨a, f.vs, hv, hs, hn.symm, k H1 e⟩
/-- a test that is known -/
theorem q_no (K : PySem.W.Frag) (h : ET K tt σ H false) (k : ∀ H1, Ex H H1 → u D σ H1) : tSeq (tIfS tt t1 tNext) u D σ H := q_if0 K h (fun z => nomatch z) (fun _ => k)
theorem l_no (K : PySem.W.Frag) (h : ET K tt σ H false) (k : ∀ H1, Ex H H1 → D.nx σ H1) : tIfS tt t1 tNext D σ H := l_if0 K h (fun z => nomatch z) (fun _ => k)
theorem et_is {b : Bool} (h : ET K tt σ H a) (e : a = b) : ET K tt σ H b := e ▸ h
theorem sg_eq {c d : Nat} : ((⟨#[c]⟩ : Str) = ⟨#[d]⟩) ↔ c = d := by
  constructor
  · intro h
    have h1 : #[c] = #[d] := congrArg Str.cps h
    have h2 : [c] = [d] := congrArg Array.toList h1
    exact (List.cons.inj h2).1
  · intro h
    rw [h]
theorem er_notInS {c : Sg} {z : Str} (ha : ER K ta σ H c) (hb : ER K tb σ H z) : ER K (tOp rNotInS ta tb) σ H (!decide (c.c ∈ z.cps.toList)) := fun H1 e Q q =>
  ha H1 e _ fun v1 H2 e2 r1 => hb H2 (e.trans e2) _ fun v2 H3 e3 r2 => by
    cases r1
    cases r2
    exact ⟨c.c, z, rfl, rfl, q _ H3 (e2.trans e3) rfl⟩
/-- an int in a list of ints -/
theorem in_ints {i : Int} {xs : List Int} : inV (.int i) (xs.map V.int) = decide (i ∈ xs) := by
  unfold inV
  induction xs with
  | nil => rfl
  | cons x r ih =>
    rw [List.map_cons, List.any_cons, ih]
    show (x == i || _) = _
    rw [Bool.eq_iff_iff]
    simp only [Bool.or_eq_true, beq_iff_eq, decide_eq_true_eq, List.mem_cons]
    constructor
    · rintro (h | h)
      · exact .inl h.symm
      · exact .inr h
    · rintro (h | h)
      · exact .inl h.symm
      · exact .inr h
theorem flat_ints {xs : List Int} : (xs.map V.int).all flatV = true := by
  rw [List.all_map]
  exact List.all_eq_true.mpr fun _ _ => rfl
theorem er_inL {xs : List Int} (ha : ER K ta σ H i) (hb : ER K tb σ H xs) : ER K (tOp (rIn K false) ta tb) σ H (decide (i ∈ xs)) := fun H1 e Q q =>
  ha H1 e _ fun v H2 e2 r => hb H2 (e.trans e2) _ fun w H3 e3 ⟨p, vs, hw, hs, hr⟩ => by
    cases r
    have h1 := rels_ints hr
    subst h1
    exact ⟨p, _, hw, .inl (sq_of hs), rfl, flat_ints, q _ H3 (e2.trans e3) (by rw [if_neg Bool.false_ne_true, in_ints]; rfl)⟩
theorem er_ninL {xs : List Int} (ha : ER K ta σ H i) (hb : ER K tb σ H xs) : ER K (tOp (rIn K true) ta tb) σ H (!decide (i ∈ xs)) := fun H1 e Q q =>
  ha H1 e _ fun v H2 e2 r => hb H2 (e.trans e2) _ fun w H3 e3 ⟨p, vs, hw, hs, hr⟩ => by
    cases r
    have h1 := rels_ints hr
    subst h1
    exact ⟨p, _, hw, .inl (sq_of hs), rfl, flat_ints, q _ H3 (e2.trans e3) (by rw [if_pos rfl, in_ints]; rfl)⟩
end

/-! ### a law's own promise -/
def SP_lawdef (K : PySem.W.Frag) : Sp := fun vs H Q _ => ∃ (a : Addr) (ns : List Int), vs = [.ref a] ∧ SqF K H a (ns.map V.int) ∧ ns.length ≤ 63 ∧ ∀ H', Q (.bl true) H'
section
variable {K : PySem.W.Frag} {σ : L2.St} {H : Hp} {tb : TE} {E : XK}
theorem er_source {a : Addr} {ns : List Int} {n : Int} {i : Nat} (h : σ[i]? = some (some (.ref a))) (hs : SqF K H a (ns.map V.int)) (hb : ER K tb σ H n) (h0 : 0 ≤ n) (h1 : n ≤ 1000000) : ER K (tCall (SP_source K) [] E (tCons (tVar i) (tCons tb tNil))) σ H Src.mk := fun H1 e Q q =>
  ⟨.ref a, h, hb H1 e _ fun v H2 e2 r => by
    cases r
    exact ⟨a, ns, n, rfl, ex_l (e.trans e2) hs.l, h0, h1, fun v H' e3 r => q v H' (e2.trans e3) r⟩⟩
theorem er_lenScript {a : Addr} {ns : List Int} {i : Nat} (h : σ[i]? = some (some (.ref a))) (hs : SqF K H a (ns.map V.int)) : ER K (tCB (rLenQ K) (tCons (tVar i) tNil)) σ H (ns.length : Int) := fun H2 e2 Q q => ⟨.ref a, h, a, ns.map V.int, rfl, .inl (ex_l e2 hs.l), by
  rw [List.length_map]
  exact q _ H2 (Ex.refl _) rfl⟩
end

/-! ### tuples put together -/
section
variable {α β γ : Type} [Rep α] [Rep β] [Rep γ] {K : PySem.W.Frag} {σ σ' : L2.St} {H H' : Hp} {te tl ta tb tc td t4 t5 t6 : TE} {tA : TA} {u t1 t2 : TS} {D : Ends} {i : Int}
def EV (K : PySem.W.Frag) (te : TE) (σ : L2.St) (H : Hp) (vs : List V) : Prop := ∀ H1, Ex H H1 → ∀ Q : VK, (∀ p H2, Ex H1 H2 → SqT K H2 p vs → Q (.ref p) H2) → te σ H1 Q
/-- items that are told by themselves (ints, texts, bools) -/
def EVs (tA : TA) (σ : L2.St) (H : Hp) (vs : List V) : Prop := EvA tA σ H vs
theorem ev_fld {f : Fld} (h : ER K te σ H f) : EV K te σ H f.vs := fun H1 e Q q => h H1 e Q fun v H2 e2 ⟨a, hv, hs⟩ => by
  subst hv
  exact q a H2 e2 hs
theorem ev_slF {vs ys : List V} {tl th : TO} (lo hi : Option Int) (h : EV K te σ H vs) (hl : ∀ (Q : Option Int → Hp → Prop) H1, Q lo H1 → tl σ H1 Q) (hh : ∀ (Q : Option Int → Hp → Prop) H1, Q hi H1 → th σ H1 Q)
    (hn : ¬ (HT.sIx vs.length 0 lo = 0 ∧ HT.sIx vs.length vs.length hi = vs.length)) (hy : cutV vs lo hi = ys) : EV K (tSl (rSlT K) te tl th) σ H ys := fun H1 e Q q =>
  h H1 e _ fun a H2 e2 hs => hl _ _ (hh _ _ ⟨a, vs, rfl, hs, hn, fun p hp => q p _ (e2.trans (Ex.new hp)) (by rw [← hy]; exact st_of upd_same)⟩)
theorem ev_cat {vs ws : List V} (h : EV K ta σ H vs) (h2 : EV K tb σ H ws) (hn : vs ≠ []) (hw : ws ≠ []) (hl : vs.length + ws.length ≤ 100000) : EV K (tOp (rCatT K) ta tb) σ H (vs ++ ws) := fun H1 e Q q =>
  h H1 e _ fun a H2 e2 hs => h2 H2 (e.trans e2) _ fun b H3 e3 hs2 => by
    refine ⟨a, b, vs, ws, rfl, rfl, ex_t e3 hs, hs2, hn, sz_of hl, ?_⟩
    first
      | exact ⟨fun z => absurd z hw, fun _ p hp => q p _ ((e2.trans e3).trans (Ex.new hp)) (st_of upd_same)⟩
      | exact ⟨fun z => absurd z hw, fun p hp => q p _ ((e2.trans e3).trans (Ex.new hp)) (st_of upd_same)⟩
theorem evs_nil : EVs tNil σ H [] := fun H1 _ _ q => q H1 (Ex.refl _)
theorem evs_I {vs : List V} (h : ER K te σ H i) (hr : EVs tA σ H vs) : EVs (tCons te tA) σ H (.int i :: vs) := fun H1 e Q q => h H1 e _ fun v H2 e2 r => by
  cases r
  exact hr H2 (e.trans e2) _ fun H3 e3 => q H3 (e2.trans e3)
theorem evs_S {vs : List V} {s : Str} (h : ER K te σ H s) (hr : EVs tA σ H vs) : EVs (tCons te tA) σ H (.str s :: vs) := fun H1 e Q q => h H1 e _ fun v H2 e2 r => by
  cases r
  exact hr H2 (e.trans e2) _ fun H3 e3 => q H3 (e2.trans e3)
theorem ev_tup {vs : List V} (h : EVs tA σ H vs) (hl : vs.length ≤ 100000) : EV K (tTup tA) σ H vs := fun H1 e Q q => h H1 e _ fun H2 e2 => ⟨sz_of hl, fun p hp => q p _ (e2.trans (Ex.new hp)) (st_of upd_same)⟩
theorem er_ofV {vs : List V} {f : Fld} (h : EV K te σ H vs) (hv : vs = f.vs) : ER K te σ H f := fun H1 e Q q => h H1 e Q fun p H2 e2 hs => q (.ref p) H2 e2 ⟨p, rfl, by rw [← hv]; exact hs⟩
end
end Sf

namespace Sf
open PySem PySem.Spec PyProof.Rows L2 Evl
/-! ### the program's functions as plain functions -/
structure FOk (f : Fld) : Prop where
  l0 : -1000000000000 ≤ f.low
  lh : f.low < f.high
  h1 : f.high ≤ 1000000000000
  s0 : 1 ≤ f.step
  s1 : f.step ≤ 1000000000000
  b0 : -1000000000000 ≤ f.base
  b1 : f.base ≤ 1000000000000
  off : f.off = "add" ∨ f.off = "near" ∨ f.off = "next"
  ends : f.ends = "round" ∨ f.ends = "stay" ∨ f.ends = "stop"
  g0 : 2 ≤ f.big
  g1 : f.big ≤ 12
  on : f.base - (f.base - f.low) / f.step * f.step ≤ f.base + (f.high - f.base) / f.step * f.step
def isBetween : PyData → Int → Int → Bool
  | .int i, lo, hi => decide (lo ≤ i) && decide (i ≤ hi)
  | _, _, _ => false
def isWord : PyData → Tpl Str → Bool
  | .str s, ws => decide (s ∈ ws.l)
  | _, _ => false
def LOK (low high step bas : Int) : Prop := -1000000000000 ≤ low ∧ low < high ∧ high ≤ 1000000000000 ∧ 1 ≤ step ∧ step ≤ 1000000000000 ∧ -1000000000000 ≤ bas ∧ bas ≤ 1000000000000
instance (a b c d : Int) : Decidable (LOK a b c d) := by unfold LOK; infer_instance
/-- the four ints of a field are in their bounds -/
def FL (f : Fld) : Prop := LOK f.low f.high f.step f.base
def fokB (f : Fld) : Bool := decide (LOK f.low f.high f.step f.base) && decide (f.off ∈ (["add", "near", "next"] : List Str)) && decide (f.ends ∈ (["round", "stay", "stop"] : List Str)) && decide (2 ≤ f.big ∧ f.big ≤ 12) && decide (f.base - (f.base - f.low) / f.step * f.step ≤ f.base + (f.high - f.base) / f.step * f.step)
def gridOf (f : Fld) : Int × Int := (f.base - (f.base - f.low) / f.step * f.step, f.base + (f.high - f.base) / f.step * f.step)
def aimOf (f : Fld) (v m : Int) : Int :=
  if f.off = "add" then v + m * f.step
  else if f.off = "near" then f.base + ((2 * (v - f.base) + f.step) / (2 * f.step) + m) * f.step
  else if 0 < m then f.base + ((v - f.base) / f.step + m) * f.step
  else f.base + (-((f.base - v) / f.step) + m) * f.step
/-- a key, by its sign: u 117, d 100, U 85, D 68, h 104, e 101 -/
def isKey (c : Nat) : Prop := c = 117 ∨ c = 100 ∨ c = 85 ∨ c = 68 ∨ c = 104 ∨ c = 101
instance (c : Nat) : Decidable (isKey c) := by unfold isKey; infer_instance
def isMove (c : Nat) : Prop := c = 117 ∨ c = 100 ∨ c = 85 ∨ c = 68
instance (c : Nat) : Decidable (isMove c) := by unfold isMove; infer_instance
def manySteps (f : Fld) (c : Nat) : Int := if c = 117 then 1 else if c = 100 then -1 else if c = 85 then f.big else -f.big
def pressKey (f : Fld) (v : Int) (c : Nat) : Int :=
  if c = 104 then f.low else if c = 101 then f.high else
  let aim := aimOf f v (manySteps f c)
  if f.low ≤ aim ∧ aim ≤ f.high then aim
  else if f.ends = "stay" then v
  else if f.ends = "round" then (if aim > f.high then f.low else f.high)
  else (if aim > f.high then f.high else f.low)
def pressRow (f : Fld) (v : Int) (r : List Nat) : Int := r.foldl (pressKey f) v

def isField : PyData → Bool
  | .tuple [.int l, .int h, .int s, .int b, .str o, .str e, .int g] => fokB ⟨l, h, s, b, o, e, g⟩
  | _ => false
theorem len7 {α : Type} {ds : List α} (h : ds.length = 7) : ∃ d0 d1 d2 d3 d4 d5 d6, ds = [d0, d1, d2, d3, d4, d5, d6] := by
  match ds, h with
  | [d0, d1, d2, d3, d4, d5, d6], _ => exact ⟨_, _, _, _, _, _, _, rfl⟩
theorem isField_len {ds : List PyData} (h : ds.length ≠ 7) : isField (.tuple ds) = false := by
  unfold isField
  split
  · next e =>
    cases e
    exact absurd rfl h
  · rfl
theorem isBetween_int {d : PyData} {lo hi : Int} (h : isBetween d lo hi = true) : ∃ i, d = .int i ∧ lo ≤ i ∧ i ≤ hi := by
  cases d with
  | int i =>
    simp only [isBetween, Bool.and_eq_true, decide_eq_true_eq] at h
    exact ⟨i, rfl, h.1, h.2⟩
  | _ => cases h
theorem isWord_str {d : PyData} {ws : Tpl Str} (h : isWord d ws = true) : ∃ s, d = .str s ∧ s ∈ ws.l := by
  cases d with
  | str s =>
    simp only [isWord, decide_eq_true_eq] at h
    exact ⟨s, rfl, h⟩
  | _ => cases h
theorem isField_ints {d0 d1 d2 d3 d4 d5 d6 : PyData} (h : ¬ (isBetween d0 (-1000000000000) 1000000000000 = true ∧ isBetween d1 (-1000000000000) 1000000000000 = true ∧ isBetween d2 (-1000000000000) 1000000000000 = true ∧ isBetween d3 (-1000000000000) 1000000000000 = true)) :
    isField (.tuple [d0, d1, d2, d3, d4, d5, d6]) = false := by
  unfold isField
  split
  · next e =>
    cases e
    rw [← Bool.not_eq_true]
    intro z
    apply h
    unfold fokB at z
    simp only [Bool.and_eq_true, decide_eq_true_eq] at z
    obtain ⟨z1, z2, z3, z4, z5, z6, z7⟩ := z.1.1.1.1
    simp only [isBetween, Bool.and_eq_true, decide_eq_true_eq]
    omega
  · rfl
theorem isField_no {l h s b : Int} {d4 d5 d6 : PyData} (z : h ≤ l ∨ s < 1) : isField (.tuple [.int l, .int h, .int s, .int b, d4, d5, d6]) = false := by
  unfold isField
  split
  · next e =>
    cases e
    rw [← Bool.not_eq_true]
    intro y
    unfold fokB at y
    simp only [Bool.and_eq_true, decide_eq_true_eq] at y
    obtain ⟨z1, z2, z3, z4, z5, z6, z7⟩ := y.1.1.1.1
    omega
  · rfl
theorem isField_words {l h s b : Int} {d4 d5 d6 : PyData} (z : isWord d4 (Tpl.mk ["add", "near", "next"]) = false ∨ isWord d5 (Tpl.mk ["round", "stay", "stop"]) = false ∨ isBetween d6 2 12 = false) : isField (.tuple [.int l, .int h, .int s, .int b, d4, d5, d6]) = false := by
  unfold isField
  split
  · next e =>
    cases e
    rw [← Bool.not_eq_true]
    intro y
    unfold fokB at y
    simp only [Bool.and_eq_true, decide_eq_true_eq] at y
    rcases z with z | z | z
    · simp only [isWord, decide_eq_false_iff_not] at z
      exact z y.1.1.1.2
    · simp only [isWord, decide_eq_false_iff_not] at z
      exact z y.1.1.2
    · simp only [isBetween, ← Bool.not_eq_true, Bool.and_eq_true, decide_eq_true_eq] at z
      exact z y.1.2
  · rfl
theorem isField_yes {l h s b g : Int} {o e : Str} (l0 : -1000000000000 ≤ l) (lh : l < h) (h1 : h ≤ 1000000000000) (s0 : 1 ≤ s) (s1 : s ≤ 1000000000000) (b0 : -1000000000000 ≤ b) (b1 : b ≤ 1000000000000)
    (ho : o ∈ (["add", "near", "next"] : List Str)) (he : e ∈ (["round", "stay", "stop"] : List Str)) (g0 : 2 ≤ g) (g1 : g ≤ 12) :
    isField (.tuple [.int l, .int h, .int s, .int b, .str o, .str e, .int g]) = decide ((gridOf ⟨l, h, s, b, o, e, g⟩).1 ≤ (gridOf ⟨l, h, s, b, o, e, g⟩).2) := by
  unfold isField fokB gridOf
  simp only [decide_eq_true (show LOK l h s b from ⟨l0, lh, h1, s0, s1, b0, b1⟩), decide_eq_true ho, decide_eq_true he, decide_eq_true (show 2 ≤ g ∧ g ≤ 12 from ⟨g0, g1⟩), Bool.true_and]
theorem rel_texts {K : PySem.W.Frag} {H : Hp} {a : Addr} {xs : List Str} (h : ∀ H, SqT K H a (xs.map V.str)) : Rep.rel K H (.ref a) (Tpl.mk xs) := ⟨a, xs.map V.str, rfl, h H, by
  induction xs with
  | nil => exact .nil
  | cons x r ih => exact .cons rfl (by
      have g : ∀ r : List Str, rels K H (r.map V.str) r := by
        intro r
        induction r with
        | nil => exact .nil
        | cons y r ih => exact .cons rfl ih
      exact g r)⟩
theorem FOk.fl {f : Fld} (h : FOk f) : FL f := ⟨h.l0, h.lh, h.h1, h.s0, h.s1, h.b0, h.b1⟩
theorem FOk.isField {f : Fld} (h : FOk f) : isField (Enc.enc f) = true := by
  obtain ⟨l0, lh, h1, s0, s1, b0, b1, off, ends, g0, g1, on⟩ := h
  have z := isField_yes (l := f.low) (h := f.high) (s := f.step) (b := f.base) (g := f.big) (o := f.off) (e := f.ends) l0 lh h1 s0 s1 b0 b1 (by simpa using off) (by simpa using ends) g0 g1
  refine z.trans ?_
  exact decide_eq_true on
def rowOk (z : Str) : Prop := z.cps.toList.length ≤ 40 ∧ ∀ c ∈ z.cps.toList, isKey c
def isRow : PyData → Bool
  | .str z => decide (z.cps.toList.length ≤ 40) && z.cps.toList.all fun c => decide (isKey c)
  | _ => false
theorem rowOk.isRow {z : Str} (h : rowOk z) : isRow (.str z) = true := by
  unfold Sf.isRow
  simp only [Bool.and_eq_true, decide_eq_true_eq, List.all_eq_true]
  exact ⟨h.1, h.2⟩
theorem keys_mem {c : Nat} : c ∈ ("udUDhe" : Str).cps.toList ↔ isKey c := by
  have e : ("udUDhe" : Str).cps.toList = [117, 100, 85, 68, 104, 101] := by decide
  rw [e]
  simp only [List.mem_cons, List.not_mem_nil, or_false, isKey]
theorem rowOk_len {a : Str} (h : rowOk a) : ∀ z, (Enc.enc a : PyData) = .str z → z.length ≤ 100000 := by
  intro z e
  have e2 : a = z := by
    have e3 : PyData.str a = PyData.str z := e
    injection e3
  subst e2
  have h1 := h.1
  show a.cps.size ≤ 100000
  simp only [Array.length_toList] at h1
  omega

/-- what a drawn field keeps -/
structure FieldPost (wide : Int) (f : Fld) : Prop where
  ok : FOk f
  low0 : -30 ≤ f.low
  low1 : f.low ≤ 29
  span : f.high - f.low ≤ max (8 * f.step) wide
  st : f.step ≤ 12 ∨ (1000 < wide ∧ f.step ≤ wide / 5)
  ba0 : min 0 (f.low - f.step) ≤ f.base
  ba1 : f.base ≤ max 0 f.high
/-- the greatest multiple below: x = y * (x / y) + x % y, told for omega -/
theorem div_le {x y : Int} (h : 0 < y) : x / y * y ≤ x ∧ x < x / y * y + y := by
  have h1 := Int.emod_add_mul_ediv x y
  have h2 := Int.emod_nonneg x (show y ≠ 0 by omega)
  have h3 := Int.emod_lt_of_pos x h
  have h4 : y * (x / y) = x / y * y := Int.mul_comm _ _
  omega
theorem on_of {base low high step : Int} (hs : 0 < step) (h : base - (base - low) / step * step ≤ high) : base - (base - low) / step * step ≤ base + (high - base) / step * step := by
  have a := div_le (x := high - base) hs
  have e : -((base - low) / step) ≤ (high - base) / step := by
    have h1 : -((base - low) / step) * step ≤ high - base := by
      rw [Int.neg_mul]
      omega
    exact (Int.le_ediv_iff_mul_le hs).mpr h1
  have h2 : -((base - low) / step) * step ≤ (high - base) / step * step := Int.mul_le_mul_of_nonneg_right e (by omega)
  rw [Int.neg_mul] at h2
  omega

def lawNearest (f : Fld) (v : Int) : Int := if 2 * (v - (f.base + (v - f.base) / f.step * f.step)) < f.step then f.base + (v - f.base) / f.step * f.step else f.base + (v - f.base) / f.step * f.step + f.step
/-- quotients by their bounds -/
theorem div_eq {x y q : Int} (h : 0 < y) (a : q * y ≤ x) (b : x < q * y + y) : x / y = q := by
  have h1 : q ≤ x / y := (Int.le_ediv_iff_mul_le h).mpr a
  have h2 : x / y < q + 1 := (Int.ediv_lt_iff_lt_mul h).mpr (by rw [Int.add_mul]; omega)
  omega
theorem nearest_eq {f : Fld} {v : Int} (hs : 1 ≤ f.step) : lawNearest f v = f.base + (2 * (v - f.base) + f.step) / (2 * f.step) * f.step := by
  unfold lawNearest
  have a := div_le (x := v - f.base) (y := f.step) (by omega)
  generalize hq : (v - f.base) / f.step = q at a
  split
  · next h =>
    have e : (2 * (v - f.base) + f.step) / (2 * f.step) = q := div_eq (by omega) (by
      have z : q * (2 * f.step) = 2 * (q * f.step) := by rw [Int.mul_left_comm]
      omega) (by
      have z : q * (2 * f.step) = 2 * (q * f.step) := by rw [Int.mul_left_comm]
      omega)
    rw [e]
  · next h =>
    have e : (2 * (v - f.base) + f.step) / (2 * f.step) = q + 1 := div_eq (by omega) (by
      have z : (q + 1) * (2 * f.step) = 2 * (q * f.step) + 2 * f.step := by rw [Int.add_mul, Int.mul_left_comm, Int.one_mul]
      omega) (by
      have z : (q + 1) * (2 * f.step) = 2 * (q * f.step) + 2 * f.step := by rw [Int.add_mul, Int.mul_left_comm, Int.one_mul]
      omega)
    rw [e, Int.add_mul, Int.one_mul]
    omega
/-- (a - b) by the step, upward -/
theorem up_eq {b v s : Int} (hs : 1 ≤ s) : b + -((b - v) / s) * s = (if b + (v - b) / s * s = v then b + (v - b) / s * s else b + (v - b) / s * s + s) := by
  have a := div_le (x := v - b) (y := s) (by omega)
  generalize hq : (v - b) / s = q at a
  have nq : ∀ r : Int, -r * s = -(r * s) := fun r => Int.neg_mul ..
  split
  · next h =>
    have e : (b - v) / s = -q := div_eq (by omega) (by rw [nq]; omega) (by rw [nq]; omega)
    rw [e, Int.neg_neg]
  · next h =>
    have z : -(q + 1) * s = -(q * s) - s := by rw [Int.neg_mul, Int.add_mul, Int.one_mul]; omega
    have e : (b - v) / s = -(q + 1) := div_eq (by omega) (by rw [z]; omega) (by rw [z]; omega)
    rw [e, Int.neg_neg, Int.add_mul, Int.one_mul]
    omega

def rowOkB (z : Str) : Bool := decide (z.cps.toList.length ≤ 40) && z.cps.toList.all fun c => decide (isKey c)
theorem rowOkB_ok {z : Str} (h : rowOkB z = true) : rowOk z := by
  unfold rowOkB at h
  simp only [Bool.and_eq_true, decide_eq_true_eq, List.all_eq_true] at h
  exact h
theorem sg_moves {c : Nat} : c ∈ ("udUD" : Str).cps.toList ↔ isMove c := by
  have e : ("udUD" : Str).cps.toList = [117, 100, 85, 68] := by decide
  rw [e]
  simp only [List.mem_cons, List.not_mem_nil, or_false, isMove]
theorem aim_on {f : Fld} {v m : Int} (h : ¬ f.off = "add") : (aimOf f v m - f.base) % f.step = 0 := by
  unfold aimOf
  rw [if_neg h]
  have z : ∀ k : Int, (f.base + k * f.step - f.base) % f.step = 0 := fun k => by
    rw [show f.base + k * f.step - f.base = k * f.step by omega]
    exact Int.mul_emod_left k f.step
  split
  · exact z _
  · split
    · exact z _
    · exact z _
theorem pressKey_move {f : Fld} {v : Int} {c : Nat} (h : isMove c) : pressKey f v c = (if f.low ≤ aimOf f v (manySteps f c) ∧ aimOf f v (manySteps f c) ≤ f.high then aimOf f v (manySteps f c)
      else if f.ends = "stay" then v else if f.ends = "round" then (if aimOf f v (manySteps f c) > f.high then f.low else f.high) else (if aimOf f v (manySteps f c) > f.high then f.high else f.low)) := by
  unfold pressKey
  have h1 : c ≠ 104 := by
    rcases h with z | z | z | z <;> omega
  have h2 : c ≠ 101 := by
    rcases h with z | z | z | z <;> omega
  rw [if_neg h1, if_neg h2]
theorem key_cases {c : Nat} (h : isKey c) : isMove c ∨ c = 104 ∨ c = 101 := by
  rcases h with z | z | z | z | z | z
  · exact .inl (.inl z)
  · exact .inl (.inr (.inl z))
  · exact .inl (.inr (.inr (.inl z)))
  · exact .inl (.inr (.inr (.inr z)))
  · exact .inr (.inl z)
  · exact .inr (.inr z)
theorem pressKey_in {f : Fld} {v : Int} {c : Nat} (hf : FL f) (hv : f.low ≤ v ∧ v ≤ f.high) (hk : isKey c) : f.low ≤ pressKey f v c ∧ pressKey f v c ≤ f.high := by
  have lh := hf.2.1
  rcases key_cases hk with h | h | h
  · rw [pressKey_move h]
    repeat' split
    all_goals omega
  · subst h
    show f.low ≤ f.low ∧ f.low ≤ f.high
    omega
  · subst h
    show f.low ≤ f.high ∧ f.high ≤ f.high
    omega
theorem pressKey_props {f : Fld} {v : Int} {c : Nat} (hf : FOk f) (hv : f.low ≤ v ∧ v ≤ f.high) (hk : isKey c) : f.low ≤ pressKey f v c ∧ pressKey f v c ≤ f.high ∧
    (¬ f.off = "add" → isMove c → (pressKey f v c - f.base) % f.step = 0 ∨ (pressKey f v c = f.low ∨ pressKey f v c = f.high ∨ pressKey f v c = v)) := by
  refine ⟨(pressKey_in hf.fl hv hk).1, (pressKey_in hf.fl hv hk).2, fun ha hm => ?_⟩
  have z := aim_on (f := f) (v := v) (m := manySteps f c) ha
  rw [pressKey_move hm]
  repeat' split
  · exact .inl z
  all_goals simp
end Sf

namespace Sf
open PySem PySem.Spec PyProof.Rows L2 Evl

/-! ### data that == tells apart -/
class EqT (α : Type) [Rep α] [Enc α] [DecidableEq α] where
  good : α → Prop
  dep : Nat
  can : ∀ {x : α}, good x → (Enc.enc x).canLay0 = true
  dle : ∀ (x : α), (Enc.enc x).depth ≤ dep
  eqv : ∀ (x y : α), PyData.eqv (Enc.enc x) (Enc.enc y) = decide (x = y)
theorem bl_eq {a b : Bool} {p : Prop} [Decidable p] (h : (a == b) = true ↔ p) : (a == b) = decide p := by
  rw [Bool.eq_iff_iff]
  simp only [h, decide_eq_true_eq]
theorem st_eqv (x y : Str) : PyData.eqv (.str x) (.str y) = decide (x = y) := by
  simp only [PyData.eqv]
  rw [Bool.eq_iff_iff]
  simp
instance : EqT Int := ⟨fun _ => True, 0, fun _ => rfl, fun _ => Nat.le_refl _, fun x y => by
  show PyData.eqv (.int x) (.int y) = _
  simp only [PyData.eqv]
  rw [Bool.eq_iff_iff]
  simp⟩
instance : EqT Bool := ⟨fun _ => True, 0, fun _ => rfl, fun _ => Nat.le_refl _, fun x y => by
  show PyData.eqv (.bool x) (.bool y) = _
  simp only [PyData.eqv]
  rw [Bool.eq_iff_iff]
  simp⟩
def strG (x : Str) : Prop := x.cps.all (· < 0x110000) = true
instance : EqT Str := ⟨strG, 0, fun h => h, fun _ => Nat.le_refl _, fun x y => st_eqv x y⟩
instance : EqT Sg := ⟨fun s => s.c < 0x110000, 0, fun {x} h => by
  have h0 : x.c < 0x110000 := h
  show (#[x.c]).all (· < 0x110000) = true
  simp [h0], fun _ => Nat.le_refl _, fun x y => by
  show PyData.eqv (.str ⟨#[x.c]⟩) (.str ⟨#[y.c]⟩) = _
  rw [st_eqv]
  rw [Bool.eq_iff_iff]
  simp only [decide_eq_true_eq, sg_eq]
  constructor
  · intro h
    cases x
    cases y
    simp only [Sg.mk.injEq]
    exact h
  · intro h
    rw [h]⟩
instance : EqT Unit := ⟨fun _ => True, 0, fun _ => rfl, fun _ => Nat.le_refl _, fun x y => by
  cases x
  cases y
  rfl⟩
section
variable {α β γ : Type} [Rep α] [Rep β] [Rep γ] [Enc α] [Enc β] [Enc γ] [DecidableEq α] [DecidableEq β] [DecidableEq γ] [EqT α] [EqT β] [EqT γ]
instance : EqT (α × β) := ⟨fun x => EqT.good x.1 ∧ EqT.good x.2, max (EqT.dep α) (EqT.dep β) + 1, fun {x} h => by
  show PyData.canLay0 (.tuple [Enc.enc x.1, Enc.enc x.2]) = true
  simp only [PyData.canLay0, PyData.canLayAll0, EqT.can h.1, EqT.can h.2, Bool.and_true], fun x => by
  show PyData.depth (.tuple [Enc.enc x.1, Enc.enc x.2]) ≤ _
  have h1 := EqT.dle x.1
  have h2 := EqT.dle x.2
  simp only [PyData.depth, PyData.depthAll]
  omega, fun x y => by
  show PyData.eqv (.tuple [Enc.enc x.1, Enc.enc x.2]) (.tuple [Enc.enc y.1, Enc.enc y.2]) = _
  simp only [PyData.eqv, PyData.eqvAll, EqT.eqv, Bool.and_true]
  rw [Bool.eq_iff_iff]
  simp only [Bool.and_eq_true, decide_eq_true_eq, Prod.ext_iff]⟩
instance : EqT (Tri α β γ) := ⟨fun x => EqT.good x.a ∧ EqT.good x.b ∧ EqT.good x.c, max (EqT.dep α) (max (EqT.dep β) (EqT.dep γ)) + 1, fun {x} h => by
  show PyData.canLay0 (.tuple [Enc.enc x.a, Enc.enc x.b, Enc.enc x.c]) = true
  simp only [PyData.canLay0, PyData.canLayAll0, EqT.can h.1, EqT.can h.2.1, EqT.can h.2.2, Bool.and_true], fun x => by
  show PyData.depth (.tuple [Enc.enc x.a, Enc.enc x.b, Enc.enc x.c]) ≤ _
  have h1 := EqT.dle x.a
  have h2 := EqT.dle x.b
  have h3 := EqT.dle x.c
  simp only [PyData.depth, PyData.depthAll]
  omega, fun x y => by
  show PyData.eqv (.tuple [Enc.enc x.a, Enc.enc x.b, Enc.enc x.c]) (.tuple [Enc.enc y.a, Enc.enc y.b, Enc.enc y.c]) = _
  simp only [PyData.eqv, PyData.eqvAll, EqT.eqv, Bool.and_true]
  rw [Bool.eq_iff_iff]
  cases x
  cases y
  simp only [Bool.and_eq_true, decide_eq_true_eq, Tri.mk.injEq]⟩
theorem all_can : ∀ (xs : List α), (∀ x ∈ xs, EqT.good x) → PyData.canLayAll0 (xs.map Enc.enc) = true
  | [], _ => rfl
  | x :: r, h => by
    simp only [List.map_cons, PyData.canLayAll0, EqT.can (h x (List.mem_cons_self ..)), all_can r fun y hy => h y (List.mem_cons_of_mem _ hy), Bool.and_true]
theorem all_dle : ∀ (xs : List α), PyData.depthAll (xs.map Enc.enc) ≤ EqT.dep α
  | [] => Nat.zero_le _
  | x :: r => by
    have h1 := EqT.dle x
    have h2 := all_dle r
    simp only [List.map_cons, PyData.depthAll]
    omega
theorem all_eqv : ∀ (xs ys : List α), PyData.eqvAll (xs.map Enc.enc) (ys.map Enc.enc) = decide (xs = ys)
  | [], [] => rfl
  | [], _ :: _ => by simp [PyData.eqvAll]
  | _ :: _, [] => by simp [PyData.eqvAll]
  | x :: r, y :: r' => by
    simp only [List.map_cons, PyData.eqvAll, EqT.eqv, all_eqv r r']
    rw [Bool.eq_iff_iff]
    simp only [Bool.and_eq_true, decide_eq_true_eq, List.cons.injEq]
instance : EqT (List α) := ⟨fun xs => ∀ x ∈ xs, EqT.good x, EqT.dep α + 1, fun {xs} h => by
  show PyData.canLay0 (.list (xs.map Enc.enc)) = true
  simp only [PyData.canLay0, all_can xs h], fun xs => by
  show PyData.depth (.list (xs.map Enc.enc)) ≤ _
  simp only [PyData.depth]
  exact Nat.succ_le_succ (all_dle xs), fun xs ys => by
  show PyData.eqv (.list (xs.map Enc.enc)) (.list (ys.map Enc.enc)) = _
  simp only [PyData.eqv, all_eqv]⟩
instance : EqT (Tpl α) := ⟨fun xs => ∀ x ∈ xs.l, EqT.good x, EqT.dep α + 1, fun {xs} h => by
  show PyData.canLay0 (.tuple (xs.l.map Enc.enc)) = true
  simp only [PyData.canLay0, all_can xs.l h], fun xs => by
  show PyData.depth (.tuple (xs.l.map Enc.enc)) ≤ _
  simp only [PyData.depth]
  exact Nat.succ_le_succ (all_dle xs.l), fun xs ys => by
  show PyData.eqv (.tuple (xs.l.map Enc.enc)) (.tuple (ys.l.map Enc.enc)) = _
  simp only [PyData.eqv, all_eqv]
  cases xs
  cases ys
  simp only [Tpl.mk.injEq]⟩
/-- nothing of this kind is None -/
class NotNone (α : Type) [Rep α] [Enc α] : Prop where
  nn : ∀ x : α, PyData.eqv .none (Enc.enc x) = false ∧ PyData.eqv (Enc.enc x) .none = false
instance : NotNone Int := ⟨fun _ => ⟨by simp only [Enc.enc, PyData.eqv], by simp only [Enc.enc, PyData.eqv]⟩⟩
instance : NotNone Str := ⟨fun _ => ⟨by simp only [Enc.enc, PyData.eqv], by simp only [Enc.enc, PyData.eqv]⟩⟩
instance : NotNone (α × β) := ⟨fun _ => ⟨by simp only [Enc.enc, PyData.eqv], by simp only [Enc.enc, PyData.eqv]⟩⟩
instance : NotNone (Tri α β γ) := ⟨fun _ => ⟨by simp only [Enc.enc, PyData.eqv], by simp only [Enc.enc, PyData.eqv]⟩⟩
instance : NotNone (List α) := ⟨fun _ => ⟨by simp only [Enc.enc, PyData.eqv], by simp only [Enc.enc, PyData.eqv]⟩⟩
instance : NotNone (Tpl α) := ⟨fun _ => ⟨by simp only [Enc.enc, PyData.eqv], by simp only [Enc.enc, PyData.eqv]⟩⟩
instance [NotNone α] : EqT (Option α) := ⟨fun x => ∀ y, x = some y → EqT.good y, EqT.dep α, fun {x} h => by
  cases x with
  | none => rfl
  | some y => exact EqT.can (x := y) (h y rfl), fun x => by
  cases x with
  | none => exact Nat.zero_le _
  | some y => exact EqT.dle y, fun x y => by
  cases x with
  | none =>
    cases y with
    | none => rfl
    | some y => exact (NotNone.nn y).1
  | some x =>
    cases y with
    | none => exact (NotNone.nn x).2
    | some y =>
      refine (EqT.eqv x y).trans ?_
      rw [Bool.eq_iff_iff]
      simp only [decide_eq_true_eq, Option.some.injEq]⟩
end
instance : EqT Fld := ⟨fun f => strG f.off ∧ strG f.ends, 1, fun {f} h => by
  have h1 : f.off.cps.all (· < 0x110000) = true := h.1
  have h2 : f.ends.cps.all (· < 0x110000) = true := h.2
  show PyData.canLay0 (Fld.enc f) = true
  simp only [Fld.enc, PyData.canLay0, PyData.canLayAll0, PyData.strOk, h1, h2, Bool.and_true], fun f => by
  show PyData.depth (Fld.enc f) ≤ 1
  simp [Fld.enc, PyData.depth, PyData.depthAll], fun x y => by
  show PyData.eqv (Fld.enc x) (Fld.enc y) = _
  simp only [Fld.enc, PyData.eqv, PyData.eqvAll, Bool.and_true]
  rw [Bool.eq_iff_iff]
  cases x
  cases y
  simp⟩
section
variable {α β γ δ ε : Type} [Rep α] [Rep β] [Rep γ] [Rep δ] [Rep ε] {K : PySem.W.Frag} {σ σ' : L2.St} {H H' : Hp} {te tl ta tb tc td ts : TE} {tA : TA} {tt : TT} {u t1 t2 : TS} {D : Ends} {i j : Int} {a b : Bool}
theorem er_eqT [Enc α] [DecidableEq α] [EqT α] {x y : α} (ha : ER K ta σ H x) (hb : ER K tb σ H y) (gx : EqT.good x) (gy : EqT.good y) (hd : EqT.dep α ≤ 64) : ER K (tOp (rEqD K) ta tb) σ H (decide (x = y)) := by
  rw [← EqT.eqv x y]
  exact er_eqD (er_enc ha) (er_enc hb) (by
    simp only [SeqAt.shaped, EqT.can gx, Bool.true_and, decide_eq_true_eq]
    exact Nat.le_trans (EqT.dle x) hd) (by
    simp only [SeqAt.shaped, EqT.can gy, Bool.true_and, decide_eq_true_eq]
    exact Nat.le_trans (EqT.dle y) hd)
theorem er_neT [Enc α] [DecidableEq α] [EqT α] {x y : α} (ha : ER K ta σ H x) (hb : ER K tb σ H y) (gx : EqT.good x) (gy : EqT.good y) (hd : EqT.dep α ≤ 64) : ER K (tOp (rNeD K) ta tb) σ H (!decide (x = y)) := by
  rw [← EqT.eqv x y]
  exact er_neD (er_enc ha) (er_enc hb) (by
    simp only [SeqAt.shaped, EqT.can gx, Bool.true_and, decide_eq_true_eq]
    exact Nat.le_trans (EqT.dle x) hd) (by
    simp only [SeqAt.shaped, EqT.can gy, Bool.true_and, decide_eq_true_eq]
    exact Nat.le_trans (EqT.dle y) hd)
/-! ### more of single things -/
theorem er_none : ER K (tC .non) σ H () := fun H1 _ _ q => q _ H1 (Ex.refl H1) rfl
theorem er_noneO : ER K (tC .non) σ H (none : Option α) := fun H1 _ _ q => q _ H1 (Ex.refl H1) rfl
theorem er_some {x : α} (h : ER K te σ H x) : ER K te σ H (some x) := h
theorem er_g {c : Nat} {z : Str} (h : z = ⟨#[c]⟩) : ER K (tC (.str z)) σ H (Sg.mk c) := fun H1 _ _ q => q _ H1 (Ex.refl H1) (by rw [h]; rfl)
theorem er_c {v : V} {x : α} (r : Rep.rel K H v x) : ER K (tC v) σ H x := fun H1 e _ q => q v H1 (Ex.refl H1) (Rep.mono e r)
theorem er_addS {x y : Str} (ha : ER K ta σ H x) (hb : ER K tb σ H y) (hl : x.length + y.length ≤ 100000) : ER K (tOp rAddS ta tb) σ H (x ++ y) := er_SS ha hb fun H1 Q q => ⟨x, y, rfl, rfl, sz_of hl, q _ rfl⟩
theorem flat_rep {n : Nat} {xs : List α} {vs : List V} (h : rels K H vs xs) : rels K H (List.replicate n vs).flatten (List.replicate n xs).flatten := by
  induction n with
  | zero => exact .nil
  | succ n ih =>
    rw [List.replicate_succ, List.replicate_succ, List.flatten_cons, List.flatten_cons]
    exact rels_app h ih
theorem er_rep {xs : List α} (h : ER K ta σ H xs) (h2 : ER K tb σ H i) (h0 : 0 ≤ i ∧ i ≤ 100000) (hl : xs.length * i.toNat ≤ 100000) : ER K (tOp rRep ta tb) σ H (List.replicate i.toNat xs).flatten := fun H1 e Q q => h H1 e _ fun v H2 e2 ⟨l, vs, hv, hs, hr⟩ => h2 H2 (e.trans e2) _ fun w H3 e3 r2 => by
  cases r2
  refine ⟨l, i, vs, hv, rfl, e3 _ _ hs, by omega, by omega, by rw [rels_len hr]; exact sz_of hl, fun p hp => ?_⟩
  exact q _ _ ((e2.trans e3).trans (Ex.new hp)) ⟨p, _, rfl, upd_same, flat_rep (rels_mono (e3.trans (Ex.new hp)) hr)⟩
/-! ### what is drawn, put together -/
theorem en_op2 {r : R2} {P1 : α → Prop} {P2 : β → Prop} {P : γ → Prop} (ha : EN K ta σ H P1) (hb : EN K tb σ H P2) (h : ∀ x y v w H1, Ex H H1 → P1 x → P2 y → Rep.rel K H1 v x → Rep.rel K H1 w y → EN K (tOp r (tC v) (tC w)) σ H1 P) : EN K (tOp r ta tb) σ H P := fun H1 e Q q =>
  ha H1 e _ fun x v H2 p1 e2 r1 => hb H2 (e.trans e2) _ fun y w H3 p2 e3 r2 => h x y v w H3 ((e.trans e2).trans e3) p1 p2 (Rep.mono e3 r1) r2 H3 (Ex.refl _) Q fun z v' H4 p e4 r4 => q z v' H4 p ((e2.trans e3).trans e4) r4
theorem en_un {r : V → Hp → VK → Prop} {P1 : α → Prop} {P : γ → Prop} (ha : EN K ta σ H P1) (h : ∀ x v H1, Ex H H1 → P1 x → Rep.rel K H1 v x → EN K (tUn r (tC v)) σ H1 P) : EN K (tUn r ta) σ H P := fun H1 e Q q =>
  ha H1 e _ fun x v H2 p1 e2 r1 => h x v H2 (e.trans e2) p1 r1 H2 (Ex.refl _) Q fun z v' H4 p e4 r4 => q z v' H4 p (e2.trans e4) r4
theorem en_cb1 {r : List V → Hp → VK → Prop} {P1 : α → Prop} {P : γ → Prop} (ha : EN K ta σ H P1) (h : ∀ x v H1, Ex H H1 → P1 x → Rep.rel K H1 v x → EN K (tCB r (tCons (tC v) tNil)) σ H1 P) : EN K (tCB r (tCons ta tNil)) σ H P := fun H1 e Q q =>
  ha H1 e _ fun x v H2 p1 e2 r1 => h x v H2 (e.trans e2) p1 r1 H2 (Ex.refl _) Q fun z v' H4 p e4 r4 => q z v' H4 p (e2.trans e4) r4
theorem en_cb2 {r : List V → Hp → VK → Prop} {P1 : α → Prop} {P2 : β → Prop} {P : γ → Prop} (ha : EN K ta σ H P1) (hb : EN K tb σ H P2) (h : ∀ x y v w H1, Ex H H1 → P1 x → P2 y → Rep.rel K H1 v x → Rep.rel K H1 w y → EN K (tCB r (tCons (tC v) (tCons (tC w) tNil))) σ H1 P) : EN K (tCB r (tCons ta (tCons tb tNil))) σ H P := fun H1 e Q q =>
  ha H1 e _ fun x v H2 p1 e2 r1 => hb H2 (e.trans e2) _ fun y w H3 p2 e3 r2 => h x y v w H3 ((e.trans e2).trans e3) p1 p2 (Rep.mono e3 r1) r2 H3 (Ex.refl _) Q fun z v' H4 p e4 r4 => q z v' H4 p ((e2.trans e3).trans e4) r4
theorem en_ca1 {sp : Sp} {dvs : List V} {E : XK} {P1 : α → Prop} {P : γ → Prop} (ha : EN K ta σ H P1) (h : ∀ x v H1, Ex H H1 → P1 x → Rep.rel K H1 v x → EN K (tCall sp dvs E (tCons (tC v) tNil)) σ H1 P) : EN K (tCall sp dvs E (tCons ta tNil)) σ H P := fun H1 e Q q =>
  ha H1 e _ fun x v H2 p1 e2 r1 => h x v H2 (e.trans e2) p1 r1 H2 (Ex.refl _) Q fun z v' H4 p e4 r4 => q z v' H4 p (e2.trans e4) r4
theorem en_ca2 {sp : Sp} {dvs : List V} {E : XK} {P1 : α → Prop} {P2 : β → Prop} {P : γ → Prop} (ha : EN K ta σ H P1) (hb : EN K tb σ H P2) (h : ∀ x y v w H1, Ex H H1 → P1 x → P2 y → Rep.rel K H1 v x → Rep.rel K H1 w y → EN K (tCall sp dvs E (tCons (tC v) (tCons (tC w) tNil))) σ H1 P) : EN K (tCall sp dvs E (tCons ta (tCons tb tNil))) σ H P := fun H1 e Q q =>
  ha H1 e _ fun x v H2 p1 e2 r1 => hb H2 (e.trans e2) _ fun y w H3 p2 e3 r2 => h x y v w H3 ((e.trans e2).trans e3) p1 p2 (Rep.mono e3 r1) r2 H3 (Ex.refl _) Q fun z v' H4 p e4 r4 => q z v' H4 p ((e2.trans e3).trans e4) r4
theorem en_ca3 {sp : Sp} {dvs : List V} {E : XK} {P1 : α → Prop} {P2 : β → Prop} {P3 : γ → Prop} {P : δ → Prop} (ha : EN K ta σ H P1) (hb : EN K tb σ H P2) (hc : EN K tc σ H P3) (h : ∀ x y z v w u H1, Ex H H1 → P1 x → P2 y → P3 z → Rep.rel K H1 v x → Rep.rel K H1 w y → Rep.rel K H1 u z → EN K (tCall sp dvs E (tCons (tC v) (tCons (tC w) (tCons (tC u) tNil)))) σ H1 P) : EN K (tCall sp dvs E (tCons ta (tCons tb (tCons tc tNil)))) σ H P := fun H1 e Q q =>
  ha H1 e _ fun x v H2 p1 e2 r1 => hb H2 (e.trans e2) _ fun y w H3 p2 e3 r2 => hc H3 ((e.trans e2).trans e3) _ fun z u H4 p3 e4 r3 => h x y z v w u H4 (((e.trans e2).trans e3).trans e4) p1 p2 p3 (Rep.mono (e3.trans e4) r1) (Rep.mono e4 r2) r3 H4 (Ex.refl _) Q fun z v' H5 p e5 r5 => q z v' H5 p (((e2.trans e3).trans e4).trans e5) r5
theorem en_is {x : α} (h : ER K te σ H x) : EN K te σ H (fun y => y = x) := en_of h rfl
theorem en_drawE {n : Int} {E : XK} (hs : ER K ts σ H Src.mk) (ha : ER K ta σ H n) (h : 1 ≤ n ∧ n ≤ 1000000000000000000000000) : EN K (tCall (SP_draw K) [] E (tCons ts (tCons ta tNil))) σ H (fun d => 0 ≤ d ∧ d < n) :=
  en_draw hs (en_of (P := fun m => m = n) ha rfl) (fun m hm => by rw [hm]; exact h) (fun m d hm h0 h1 => ⟨h0, by rw [← hm]; exact h1⟩)
theorem en_chooseE {xs : List α} {E : XK} (hs : ER K ts σ H Src.mk) (ha : ER K ta σ H xs) (h : 1 ≤ xs.length ∧ xs.length ≤ 100000) : EN K (tCall (SP_choice K) [] E (tCons ts (tCons ta tNil))) σ H (fun x => x ∈ xs) :=
  en_choice hs (en_of (P := fun ys => 1 ≤ ys.length ∧ ys.length ≤ 100000 ∧ ∀ x ∈ ys, x ∈ xs) ha ⟨h.1, h.2, fun _ hx => hx⟩)
/-- an if whose ways meet -/
theorem q_ifD (K : PySem.W.Frag) (W : L2.St → Hp → Prop) (hW : ∀ σ' H', W σ' H' → u D σ' H') (h : ET K tt σ H b) (h1 : b = true → ∀ H1, Ex H H1 → ∀ D2 : Ends, (∀ σ' H', W σ' H' → D2.nx σ' H') → t1 D2 σ H1)
    (h2 : b = false → ∀ H1, Ex H H1 → ∀ D2 : Ends, (∀ σ' H', W σ' H' → D2.nx σ' H') → t2 D2 σ H1) : tSeq (tIfS tt t1 t2) u D σ H := q_if K h (fun c H1 e => h1 c H1 e _ hW) (fun c H1 e => h2 c H1 e _ hW)
theorem l_setI (K : PySem.W.Frag) {n : Nat} {s' : V → L2.St} (h : ER K te σ H i) (s : ∀ v, SetAt σ n v (s' v)) (k : ∀ H1, Ex H H1 → D.nx (s' (.int i)) H1) : tAsg te (gName n) D σ H := l_set K h s fun v H1 e r => by
  cases r
  exact k H1 e
theorem l_setB (K : PySem.W.Frag) {n : Nat} {s' : V → L2.St} (h : ER K te σ H b) (s : ∀ v, SetAt σ n v (s' v)) (k : ∀ H1, Ex H H1 → D.nx (s' (.bl b)) H1) : tAsg te (gName n) D σ H := l_set K h s fun v H1 e r => by
  cases r
  exact k H1 e
/-- two at once, through a tuple -/
theorem n_parT (K : PySem.W.Frag) {P1 : α → Prop} {P2 : β → Prop} {n : Nat} {g : TGs} (hn : n = 2) (h : EN K ta σ H P1) (h2 : ∀ H1, Ex H H1 → EN K tb σ H1 P2)
    (k : ∀ x y v w H1, P1 x → P2 y → Ex H H1 → Rep.rel K H1 v x → Rep.rel K H1 w y → g [v, w] σ H1 fun σ' H' => u D σ' H') : tSeq (tAsg (tTup (tCons ta (tCons tb tNil))) (gTup K n g)) u D σ H :=
  h H (Ex.refl H) _ fun x v H1 p1 e r => h2 H1 e H1 (Ex.refl H1) _ fun y w H2 p2 e2 r2 => ⟨sz_of (by show 2 ≤ 100000; decide), fun p hp => ⟨p, [v, w], rfl, st_of upd_same, hn.symm, by
    have e3 := Ex.new (o := .tup [v, w]) hp
    exact k x y v w _ p1 p2 ((e.trans e2).trans e3) (Rep.mono (e2.trans e3) r) (Rep.mono e3 r2)⟩⟩
/-- a pair in the target -/
theorem g_pair {v : V} {x : α × β} {g : TGs} {Q : L2.St → Hp → Prop} (r : Rep.rel K H v x) (k : ∀ v1 v2, Rep.rel K H v1 x.1 → Rep.rel K H v2 x.2 → g [v1, v2] σ H Q) : gTup K 2 g v σ H Q := by
  obtain ⟨a, v1, v2, hv, hs, r1, r2⟩ := r
  exact ⟨a, [v1, v2], hv, hs, rfl, k v1 v2 r1 r2⟩
theorem q_unpT (K : PySem.W.Frag) {x : Tri α β γ} {g : TGs} (h : ER K te σ H x) (k : ∀ v1 v2 v3 H1, Ex H H1 → Rep.rel K H1 v1 x.a → Rep.rel K H1 v2 x.b → Rep.rel K H1 v3 x.c → g [v1, v2, v3] σ H1 fun σ' H' => u D σ' H') : tSeq (tAsg te (gTup K 3 g)) u D σ H := h H (Ex.refl H) _ fun v H1 e ⟨a, v1, v2, v3, hv, hs, r1, r2, r3⟩ => ⟨a, [v1, v2, v3], hv, hs, rfl, k v1 v2 v3 H1 e r1 r2 r3⟩
/-- drawn signs in a text -/
theorem en_signs {P1 : Int → Prop} {C : Nat → Prop} {N : Nat} (h : EN K te σ H (fun z : Str => ∃ xs : List Sg, (∃ ns : List Int, (∃ n, P1 n ∧ ns = rng 0 n.toNat) ∧ Paired (fun _ s => C s.c) ns xs) ∧ z = unsg xs)) (hn : ∀ n, P1 n → n ≤ N) :
    EN K te σ H (fun z : Str => z.cps.toList.length ≤ N ∧ ∀ c ∈ z.cps.toList, C c) := en_imp h fun z ⟨xs, ⟨ns, ⟨n, p, e1⟩, pr⟩, e2⟩ => by
  subst e2
  subst e1
  rw [unsg_codes]
  constructor
  · rw [List.length_map, paired_len pr, rng_len]
    have := hn n p
    omega
  · intro c hc
    obtain ⟨s, hs, rfl⟩ := List.mem_map.mp hc
    exact paired_all (P2 := fun s : Sg => C s.c) pr (fun _ _ h => h) s hs
end

theorem between_enc {i lo hi : Int} (h : lo ≤ i ∧ i ≤ hi) : isBetween (Enc.enc i) lo hi = true := by
  show (decide (lo ≤ i) && decide (i ≤ hi)) = true
  rw [decide_eq_true h.1, decide_eq_true h.2]
  rfl
/-! ### while -/
theorem q_while (K : PySem.W.Frag) {σ : L2.St} {H : Hp} {tt : TT} {tb : TS} {u : TS} {D : Ends} (I : Nat → L2.St → Hp → Prop) (h0 : ∃ m, I m σ H)
    (hs : ∀ m σ' H', Ey H H' → I m σ' H' → ∃ b, ET K tt σ' H' b ∧ (b = true → ∀ H1, Ex H' H1 → tb { D with nx := fun σ3 H3 => Ey H' H3 ∧ ∃ m', m' < m ∧ I m' σ3 H3, ct := fun σ3 H3 => Ey H' H3 ∧ ∃ m', m' < m ∧ I m' σ3 H3, bk := u D } σ' H1) ∧
      (b = false → ∀ H1, Ex H' H1 → u D σ' H1)) : tSeq (tWhile tt tb) u D σ H := by
  obtain ⟨m0, i0⟩ := h0
  refine ⟨fun m σ' H' => Ey H H' ∧ I m σ' H', ⟨m0, Ey.refl _, i0⟩, fun m σ' H' ⟨e, i⟩ => ?_⟩
  obtain ⟨b, hb, ht, hf⟩ := hs m σ' H' e i
  refine hb H' (Ex.refl _) _ fun H1 e1 => ?_
  cases b with
  | true =>
    rw [if_pos rfl]
    refine ⟨fun σ3 H3 => Ey H' H3 ∧ ∃ m', m' < m ∧ I m' σ3 H3, fun σ3 H3 ⟨e3, m', hm, i'⟩ => ⟨m', hm, e.trans e3, i'⟩, ?_⟩
    exact ht rfl H1 e1
  | false =>
    rw [if_neg Bool.false_ne_true]
    exact hf rfl H1 e1
/-! ### fields with a part exchanged -/
abbrev withEnds (f : Fld) (e : Str) : Fld := Fld.mk f.low f.high f.step f.base f.off e f.big
abbrev withOff (f : Fld) (o : Str) : Fld := Fld.mk f.low f.high f.step f.base o f.ends f.big
theorem FOk.withEnds {f : Fld} (h : FOk f) {e : Str} (he : e ∈ (["round", "stay", "stop"] : List Str)) : FOk (Sf.withEnds f e) := by
  obtain ⟨l0, lh, h1, s0, s1, b0, b1, off, ends, g0, g1, on⟩ := h
  simp only [List.mem_cons, List.not_mem_nil, or_false] at he
  exact ⟨l0, lh, h1, s0, s1, b0, b1, off, he, g0, g1, on⟩
theorem FOk.withOff {f : Fld} (h : FOk f) {e : Str} (he : e ∈ (["add", "near", "next"] : List Str)) : FOk (Sf.withOff f e) := by
  obtain ⟨l0, lh, h1, s0, s1, b0, b1, off, ends, g0, g1, on⟩ := h
  simp only [List.mem_cons, List.not_mem_nil, or_false] at he
  exact ⟨l0, lh, h1, s0, s1, b0, b1, he, ends, g0, g1, on⟩
theorem FOk.litOff {l h s b g : Int} {o e : Str} (k : FOk (Fld.mk l h s b "next" e g)) (ho : o ∈ (["add", "near", "next"] : List Str)) : FOk (Fld.mk l h s b o e g) := k.withOff ho
theorem FOk.litEnds {l h s b g : Int} {o e : Str} (k : FOk (Fld.mk l h s b o "stop" g)) (he : e ∈ (["round", "stay", "stop"] : List Str)) : FOk (Fld.mk l h s b o e g) := k.withEnds he
theorem FOk.withBoth {f : Fld} (h : FOk f) {o e : Str} (ho : o ∈ (["add", "near", "next"] : List Str)) (he : e ∈ (["round", "stay", "stop"] : List Str)) : FOk (Fld.mk f.low f.high f.step f.base o e f.big) := (h.withOff ho).withEnds he
/-! ### parts of texts and lists -/
section
variable {α β : Type} [Rep α] [Rep β] {K : PySem.W.Frag} {σ : L2.St} {H : Hp} {ta tb te : TE} {tl th : TO} {i : Int} {lo hi : Option Int}
def EO (K : PySem.W.Frag) (tl : TO) (σ : L2.St) (H : Hp) (o : Option Int) : Prop := ∀ H1, Ex H H1 → ∀ Q : Option Int → Hp → Prop, (∀ H2, Ex H1 H2 → Q o H2) → tl σ H1 Q
theorem eo_none : EO K tNoPart σ H none := fun H1 _ _ q => q H1 (Ex.refl _)
theorem eo_some (h : ER K te σ H i) : EO K (tPart te) σ H (some i) := fun H1 e Q q => h H1 e _ fun v H2 e2 r => by
  cases r
  exact ⟨i, rfl, q H2 e2⟩
theorem er_slS {z : Str} (h : ER K te σ H z) (hl : EO K tl σ H lo) (hh : EO K th σ H hi) (hz : z.length ≤ 100000) : ER K (tSl rSlS te tl th) σ H (cutS z lo hi) := fun H1 e Q q => h H1 e _ fun v H2 e2 r => hl H2 (e.trans e2) _ fun H3 e3 => hh H3 ((e.trans e2).trans e3) _ fun H4 e4 => by
  cases r
  exact ⟨z, rfl, sz_of hz, q _ H4 ((e2.trans e3).trans e4) rfl⟩
def cutL (xs : List α) (lo hi : Option Int) : List α := (xs.drop (HT.sIx xs.length 0 lo)).take (HT.sIx xs.length xs.length hi - HT.sIx xs.length 0 lo)
theorem er_ixS {z : Str} {x : Sg} (h : ER K ta σ H z) (h2 : ER K tb σ H i) (hz : z.length ≤ 100000) (hx : atI z.cps.toList i = some x.c) : ER K (tOp rIxS ta tb) σ H x := fun H1 e Q q => h H1 e _ fun v H2 e2 r => h2 H2 (e.trans e2) _ fun w H3 e3 r2 => by
  cases r
  cases r2
  exact ⟨z, i, x.c, rfl, rfl, sz_of hz, hx, q _ H3 (e2.trans e3) rfl⟩
end
/-! ### a choice as a test -/
def tIfT (t ta tb : TT) : TT := fun σ H Q => t σ H fun c H1 => if c = true then ta σ H1 Q else tb σ H1 Q
theorem pt_ifExp {X : Cx} {c a b : Expr} {pos : Pos} {t ta tb : TT} (hc : PT X c t) (ha : PT X a ta) (hb : PT X b tb) : PT X (.IfExp c a b pos) (tIfT t ta tb) := by
  refine ⟨fun pins s σ H Q I h => ?_⟩
  refine PyProof.Rows.isTrue_IfExp (thn (hc.run pins s σ H _ I h) fun d s1 ⟨H1, I1, q1⟩ => ?_)
  cases d with
  | true => exact ha.run pins s1 σ H1 Q I1 q1
  | false => exact hb.run pins s1 σ H1 Q I1 q1
theorem ett_if {K : PySem.W.Frag} {σ : L2.St} {H : Hp} {t ta tb : TT} {a b c : Bool} (h : ET K t σ H a) (h1 : a = true → ET K ta σ H b) (h2 : a = false → ET K tb σ H c) : ET K (tIfT t ta tb) σ H (if a = true then b else c) := fun H1 e Q q => h H1 e _ fun H2 e2 => by
  cases a with
  | true =>
    show ta σ H2 Q
    exact h1 rfl H2 (e.trans e2) Q fun H3 e3 => q H3 (e2.trans e3)
  | false =>
    show tb σ H2 Q
    exact h2 rfl H2 (e.trans e2) Q fun H3 e3 => q H3 (e2.trans e3)
/-! ### len(set(ints)) -/
def dedup (xs : List Int) : List Int := PyProof.Rows.firstMet (fun i => xs.getD i 0) xs.length
def tLenSet2 (K : PySem.W.Frag) (ta : TE) : TE := fun σ H Q => ta σ H fun x H1 => ∃ (l : Addr) (ns : List Int), x = .ref l ∧ SqL K H1 l (ns.map V.int) ∧ ns.length ≤ 4000 ∧ Q (.int ((dedup ns).length : Nat)) H1
theorem pe_lenSet2 {X : Cx} {a : Expr} {ta : TE} {p p2 q pos : Pos} (hg : Gl X "len") (hm : X.mg "len" = none) (hg2 : Gl X "set") (hm2 : X.mg "set" = none) (ha : PE X a ta) (hc : X.calm = true := by rfl)
    (na : starEach [a] X.env = (false, eval a X.env) :: starEach [] X.env := by rfl) : PE X (.Call (.Name "len" p) [.Call (.Name "set" p2) [a] [] q] [] pos) (tLenSet2 X.K ta) := by
  refine ⟨fun pins s σ H Q I h => ?_⟩
  refine Call_ (ld_blt I hg hm boot_len ?_)
  refine PyProof.Rows.callWith_builtin1 (PyProof.Rows.args_cons ?_ rfl) rfl rfl
  refine Call_ (ld_blt I hg2 hm2 boot_set ?_)
  refine PyProof.Rows.callWith_type1 (PyProof.Rows.args_cons (thn (ha.run pins s σ H _ I h) fun v s1 ⟨x, H1, I1, r1, q1⟩ => PyProof.Rows.args_nil ?_) na) na rfl
  obtain ⟨l, ns, rfl, hq, hl, q1⟩ := q1
  cases r1
  obtain ⟨its, r, pl, hz⟩ := I1.list hq
  have hlen : its.toArray.size = ns.length := by rw [List.size_toArray, ← r.length, List.length_map]
  refine call_set_list (I1.ok.hd hc) pl.isList (by simpa using RZ.intsAre_vals r) (by rw [hlen]; unfold scanBound; omega) fun h' tk hS hk => ?_
  refine PyProof.Rows.args_nil ?_
  rw [hlen] at hS
  have hle := PyProof.Rows.firstMet_length_le (fun i => ns.getD i 0) ns.length
  obtain ⟨o, es, ep, t, ho, hex, hd, _, _, _, hf, hn⟩ := hS
  have I2 : Inv X pins σ H1 { s1 with heap := h', toks := tk } := I1.kept fun b o e => hk b o (Heap.lt_size e) e
  exact call_len_set ho hex hd hf (by rw [hn] <;> omega) ⟨.int ((dedup ns).length : Nat), H1, I2.tok _, ⟨_, by rw [hn]; rfl⟩, q1⟩
theorem er_lenSet {K : PySem.W.Frag} {σ : L2.St} {H : Hp} {ta : TE} {xs : List Int} (h : ER K ta σ H xs) (hl : xs.length ≤ 4000) : ER K (tLenSet2 K ta) σ H ((dedup xs).length : Int) := fun H1 e Q q => h H1 e _ fun v H2 e2 ⟨a, vs, hv, hs, hr⟩ => by
  have hi := rels_ints hr
  subst hi
  exact ⟨a, xs, hv, sq_of hs, hl, q _ H2 e2 rfl⟩
theorem dedup3 {a b c : Int} : (dedup [a, b, c]).length = 1 ↔ a = b ∧ b = c := by
  have e : dedup [a, b, c] = PyProof.Rows.step_dedup (PyProof.Rows.step_dedup [a] b) c := rfl
  rw [e]
  unfold PyProof.Rows.step_dedup
  by_cases h1 : a = b
  · subst h1
    by_cases h2 : a = c
    · subst h2
      simp
    · simp [h2]
  · simp [h1]
    split <;> simp
end Sf

namespace Sf
open PySem PySem.Spec PyProof.Rows L2 Evl
abbrev isUp (c : Nat) : Prop := c = 117 ∨ c = 85
theorem mem_uU {c : Nat} : c ∈ ("uU" : Str).cps.toList ↔ isUp c := by
  have e : ("uU" : Str).cps.toList = [117, 85] := by decide
  rw [e]
  simp only [List.mem_cons, List.not_mem_nil, or_false]
theorem mem_UD {c : Nat} : c ∈ ("UD" : Str).cps.toList ↔ c = 85 ∨ c = 68 := by
  have e : ("UD" : Str).cps.toList = [85, 68] := by decide
  rw [e]
  simp only [List.mem_cons, List.not_mem_nil, or_false]
theorem mem_he {c : Nat} : c ∈ ("he" : Str).cps.toList ↔ c = 104 ∨ c = 101 := by
  have e : ("he" : Str).cps.toList = [104, 101] := by decide
  rw [e]
  simp only [List.mem_cons, List.not_mem_nil, or_false]
theorem sgs_moves {s : Sg} : s ∈ sgs "udUD" ↔ isMove s.c := by
  rw [← sg_moves]
  unfold sgs
  simp only [List.mem_map]
  constructor
  · rintro ⟨c, hc, rfl⟩
    exact hc
  · intro h
    exact ⟨s.c, h, rfl⟩
theorem sgs_keys {s : Sg} : s ∈ sgs "udUDhe" ↔ isKey s.c := by
  rw [← keys_mem]
  unfold sgs
  simp only [List.mem_map]
  constructor
  · rintro ⟨c, hc, rfl⟩
    exact hc
  · intro h
    exact ⟨s.c, h, rfl⟩
theorem move_key {c : Nat} (h : isMove c) : isKey c := by
  rcases h with z | z | z | z
  · exact .inl z
  · exact .inr (.inl z)
  · exact .inr (.inr (.inl z))
  · exact .inr (.inr (.inr (.inl z)))
theorem row1 {c : Nat} (h : isKey c) : rowOk (⟨#[c]⟩ : Str) := by
  refine ⟨by show (1 : Nat) ≤ 40; decide, fun d hd => ?_⟩
  have h1 : d ∈ [c] := hd
  rw [List.mem_singleton.mp h1]
  exact h
theorem mul_ge {m s k : Int} (hs : 1 ≤ s) (h : k ≤ m) : k * s ≤ m * s := Int.mul_le_mul_of_nonneg_right h (by omega)
/-- where a key aims: up -/
theorem aim_up {f : Fld} {v m : Int} (hs : 1 ≤ f.step) (hm : 1 ≤ m) : v < aimOf f v m ∧ aimOf f v m ≤ v + m * f.step + f.step := by
  have h1 := mul_ge hs hm
  unfold aimOf
  split
  · omega
  · split
    · rw [Int.add_mul]
      have a := div_le (x := 2 * (v - f.base) + f.step) (y := 2 * f.step) (by omega)
      rw [Int.mul_left_comm] at a
      omega
    · rw [if_pos (by omega), Int.add_mul]
      have a := div_le (x := v - f.base) (y := f.step) (by omega)
      omega
theorem aim_dn {f : Fld} {v m : Int} (hs : 1 ≤ f.step) (hm : m ≤ -1) : aimOf f v m < v ∧ v + m * f.step - f.step ≤ aimOf f v m := by
  have h1 := mul_ge hs hm
  unfold aimOf
  split
  · omega
  · split
    · rw [Int.add_mul]
      have a := div_le (x := 2 * (v - f.base) + f.step) (y := 2 * f.step) (by omega)
      rw [Int.mul_left_comm] at a
      omega
    · rw [if_neg (by omega), Int.add_mul, Int.neg_mul]
      have a := div_le (x := f.base - v) (y := f.step) (by omega)
      omega
theorem many_up {f : Fld} {c : Nat} (hb : 2 ≤ f.big) (h : isUp c) : 1 ≤ manySteps f c ∧ manySteps f c ≤ f.big := by
  unfold manySteps
  rcases h with z | z <;> subst z <;> simp <;> omega
theorem many_dn {f : Fld} {c : Nat} (hb : 2 ≤ f.big) (hm : isMove c) (h : ¬ isUp c) : manySteps f c ≤ -1 ∧ -f.big ≤ manySteps f c := by
  unfold manySteps
  rcases hm with z | z | z | z <;> subst z <;> simp at h ⊢ <;> omega
/-- a key behind which a value lies: the three ways -/
theorem press_ways {f : Fld} {v : Int} {c : Nat} (hs : 1 ≤ f.step) (hb : 2 ≤ f.big) (hv : f.low ≤ v ∧ v ≤ f.high) (hm : isMove c) :
    (f.low ≤ aimOf f v (manySteps f c) ∧ aimOf f v (manySteps f c) ≤ f.high ∧ pressKey f v c = aimOf f v (manySteps f c)) ∨
    (isUp c ∧ f.high < aimOf f v (manySteps f c) ∧ pressKey f v c = if f.ends = "stay" then v else if f.ends = "round" then f.low else f.high) ∨
    (¬ isUp c ∧ aimOf f v (manySteps f c) < f.low ∧ pressKey f v c = if f.ends = "stay" then v else if f.ends = "round" then f.high else f.low) := by
  rw [pressKey_move hm]
  by_cases h : isUp c
  · have a := aim_up (v := v) hs (many_up hb h).1
    by_cases z : f.low ≤ aimOf f v (manySteps f c) ∧ aimOf f v (manySteps f c) ≤ f.high
    · rw [if_pos z]
      exact .inl ⟨z.1, z.2, rfl⟩
    · have y : aimOf f v (manySteps f c) > f.high := by omega
      rw [if_neg z, if_pos y, if_pos y]
      exact .inr (.inl ⟨h, y, rfl⟩)
  · have a := aim_dn (v := v) hs (many_dn hb hm h).1
    by_cases z : f.low ≤ aimOf f v (manySteps f c) ∧ aimOf f v (manySteps f c) ≤ f.high
    · rw [if_pos z]
      exact .inl ⟨z.1, z.2, rfl⟩
    · have y : ¬ aimOf f v (manySteps f c) > f.high := by omega
      rw [if_neg z, if_neg y, if_neg y]
      exact .inr (.inr ⟨h, by omega, rfl⟩)
theorem aim_far {f : Fld} {v : Int} {c : Nat} (hs : 1 ≤ f.step) (hb : 2 ≤ f.big) (hm : isMove c) :
    (isUp c → v < aimOf f v (manySteps f c) ∧ aimOf f v (manySteps f c) ≤ v + f.step * (f.big + 1)) ∧ (¬ isUp c → aimOf f v (manySteps f c) < v ∧ v - f.step * (f.big + 1) ≤ aimOf f v (manySteps f c)) := by
  have e : f.step * (f.big + 1) = f.big * f.step + f.step := by rw [Int.mul_add, Int.mul_one, Int.mul_comm]
  constructor
  · intro h
    have a := aim_up (v := v) hs (many_up hb h).1
    have b := mul_ge hs (many_up hb h).2
    omega
  · intro h
    have a := aim_dn (v := v) hs (many_dn hb hm h).1
    have b := mul_ge hs (many_dn hb hm h).2
    rw [Int.neg_mul] at b
    omega
theorem pressRow1 {f : Fld} {v : Int} {c : Nat} : pressRow f v (⟨#[c]⟩ : Str).cps.toList = pressKey f v c := rfl
theorem atI_nat {α : Type} {xs : List α} {i : Nat} {x : α} (h : xs[i]? = some x) : atI xs (i : Int) = some x := by
  have hl : i < xs.length := (List.getElem?_eq_some_iff.mp h).1
  unfold atI
  rw [show L2.ixN xs.length (i : Int) = some i by
    unfold L2.ixN
    rw [if_pos (by omega), if_pos (by omega)]
    simp]
  exact h
theorem atI_zero {α : Type} {x : α} {r : List α} : atI (x :: r) 0 = some x := atI_nat (i := 0) rfl
theorem pressRow1' {f : Fld} {v : Int} {c : Nat} : pressRow f v [c] = pressKey f v c := rfl
theorem pressRow_in {f : Fld} (hf : FL f) : ∀ {r : List Nat} {v : Int}, (f.low ≤ v ∧ v ≤ f.high) → (∀ c ∈ r, isKey c) → f.low ≤ pressRow f v r ∧ pressRow f v r ≤ f.high
  | [], v, hv, _ => hv
  | c :: r, v, hv, h => pressRow_in hf (r := r) (pressKey_in hf hv (h c (List.mem_cons_self ..))) fun d hd => h d (List.mem_cons_of_mem _ hd)
theorem catL {x y : Str} : (x ++ y).cps.toList = x.cps.toList ++ y.cps.toList := by
  show (x.cps ++ y.cps).toList = _
  simp
theorem lenL {x : Str} : x.length = x.cps.toList.length := by
  show x.cps.size = _
  simp
theorem cut1 {z : Str} {c : Nat} {r : List Nat} (h : z.cps.toList = c :: r) : cutS z none (some 1) = ⟨#[c]⟩ := by
  unfold cutS
  have hl : z.length = r.length + 1 := by rw [lenL, h]; rfl
  rw [h, hl]
  show (⟨(((c :: r).drop 0).take (HT.sIx (r.length + 1) (r.length + 1) (some 1) - 0)).toArray⟩ : Str) = _
  have e : HT.sIx (r.length + 1) (r.length + 1) (some 1) = 1 := by
    unfold HT.sIx
    simp
  rw [e]
  rfl
/-- no: for tests that are false -/
theorem no_of {b : Bool} (h : ¬ b = true) : b = false := by
  cases b
  · rfl
  · exact absurd rfl h
end Sf

namespace Sf
open PySem PySem.Spec PyProof.Rows L2 Evl

/-! ### a op1 b op2 c op3 d -/
def tChain3 (r r' r'' : R2) (ta tb tc td : TE) : TE := fun σ H Q => ta σ H fun x H1 => tb σ H1 fun y H2 => r x y H2 fun z H3 => ∃ k, z = .bl k ∧
  (if k = true then tc σ H3 fun w' H4 => r' y w' H4 fun z2 H5 => ∃ k2, z2 = .bl k2 ∧ (if k2 = true then td σ H5 fun u' H6 => r'' w' u' H6 Q else Q (.bl false) H5) else Q (.bl false) H3)
theorem pe_chain3 {X : Cx} {a b c d : Expr} {pos : Pos} {ta tb tc td : TE} {op op' op'' : CmpOp} {r r' r'' : R2} (ho : OpR X (compareOp op) r) (ho' : OpR X (compareOp op') r') (ho'' : OpR X (compareOp op'') r'') (ha : PE X a ta) (hb : PE X b tb) (hc : PE X c tc) (hd : PE X d td)
    (hm : lastMarks [op, op', op''] [b, c, d] = false := by with_unfolding_all rfl) : PE X (.Compare a [op, op', op''] [b, c, d] pos) (tChain3 r r' r'' ta tb tc td) := by
  refine ⟨fun pins s σ H Q I h => ?_⟩
  refine Compare_chain (thn (ha.run pins s σ H _ I h) fun v s1 ⟨x, H1, I1, r1, q1⟩ => chain_link (thn (hb.run pins s1 σ H1 _ I1 q1) fun u s2 ⟨y, H2, I2, r2, q2⟩ =>
    thn (ho pins s2 σ H2 x y v u _ I2 r1 r2 q2) fun d s3 ⟨z, H3, I3, r3, k, e, q3⟩ => ?_)) hm
  subst e
  cases r3
  refine wpAny_truthy_bool ?_
  cases k with
  | false => exact ite_ff ⟨.bl false, H3, I3, rfl, q3⟩
  | true =>
    refine ite_tt (chain_link (thn (hc.run pins s3 σ H3 _ I3 q3) fun w' s4 ⟨z', H4, I4, r4, q4⟩ => thn (ho' pins s4 σ H4 y z' u w' _ I4 r2 r4 q4) fun d' s5 ⟨z2, H5, I5, r5, k2, e2, q5⟩ => ?_))
    subst e2
    cases r5
    refine wpAny_truthy_bool ?_
    cases k2 with
    | false => exact ite_ff ⟨.bl false, H5, I5, rfl, q5⟩
    | true => exact ite_tt (chain_last (thn (hd.run pins s5 σ H5 _ I5 q5) fun w2 s6 ⟨z3, H6, I6, r6, q6⟩ => ho'' pins s6 σ H6 z' z3 w' w2 Q I6 r4 r6 q6))
theorem pt_chain3 {X : Cx} {a b c d : Expr} {pos : Pos} {ta tb tc td : TE} {op op' op'' : CmpOp} {r r' r'' : R2} (ho : OpR X (compareOp op) r) (ho' : OpR X (compareOp op') r') (ho'' : OpR X (compareOp op'') r'') (ha : PE X a ta) (hb : PE X b tb) (hc : PE X c tc) (hd : PE X d td)
    (hm : lastMarks [op, op', op''] [b, c, d] = false := by with_unfolding_all rfl) : PT X (.Compare a [op, op', op''] [b, c, d] pos) (tTest (tChain3 r r' r'' ta tb tc td)) := by
  refine ⟨fun pins s σ H Q I h => ?_⟩
  refine isTrue_chain (thn (ha.run pins s σ H _ I h) fun v s1 ⟨x, H1, I1, r1, q1⟩ => test_link (thn (hb.run pins s1 σ H1 _ I1 q1) fun u s2 ⟨y, H2, I2, r2, q2⟩ =>
    thn (ho pins s2 σ H2 x y v u _ I2 r1 r2 q2) fun d s3 ⟨z, H3, I3, r3, k, e, q3⟩ => ?_)) hm
  subst e
  cases r3
  refine wpAny_truthy_bool ?_
  cases k with
  | false =>
    obtain ⟨k', e', q'⟩ := q3
    cases e'
    exact ite_ff ⟨H3, I3, q'⟩
  | true =>
    refine ite_tt (test_link (thn (hc.run pins s3 σ H3 _ I3 q3) fun w' s4 ⟨z', H4, I4, r4, q4⟩ => thn (ho' pins s4 σ H4 y z' u w' _ I4 r2 r4 q4) fun d' s5 ⟨z2, H5, I5, r5, k2, e2, q5⟩ => ?_))
    subst e2
    cases r5
    refine wpAny_truthy_bool ?_
    cases k2 with
    | false =>
      obtain ⟨k', e', q'⟩ := q5
      cases e'
      exact ite_ff ⟨H5, I5, q'⟩
    | true =>
      refine ite_tt (test_last (thn (hd.run pins s5 σ H5 _ I5 q5) fun w2 s6 ⟨z3, H6, I6, r6, q6⟩ => thn (ho'' pins s6 σ H6 z' z3 w' w2 _ I6 r4 r6 q6) fun d2 s7 ⟨z4, H7, I7, r7, k3, e3, q7⟩ => ?_))
      subst e3
      cases r7
      exact wpAny_truthy_bool ⟨H7, I7, q7⟩
section
variable {α β γ : Type} [Rep α] [Rep β] [Rep γ] {K : PySem.W.Frag} {σ σ' : L2.St} {H H' : Hp} {te tl ta tb tc td ts : TE} {tA : TA} {tt : TT} {u t1 t2 : TS} {D : Ends} {i j : Int} {a b : Bool}
theorem er_chain3 {r1 r2 r3 : Int → Int → Bool} {k l : Int} (ha : ER K ta σ H i) (hb : ER K tb σ H j) (hc : ER K tc σ H k) (hd : ER K td σ H l) : ER K (tChain3 (rI0 fun i j => .bl (r1 i j)) (rI0 fun i j => .bl (r2 i j)) (rI0 fun i j => .bl (r3 i j)) ta tb tc td) σ H (r1 i j && (r2 j k && r3 k l)) := fun H1 e Q q =>
  ha H1 e _ fun v1 H2 e2 q1 => hb H2 (e.trans e2) _ fun v2 H3 e3 q2 => by
    cases q1
    cases q2
    refine ⟨i, j, rfl, rfl, r1 i j, rfl, ?_⟩
    cases h : r1 i j with
    | false =>
      rw [if_neg Bool.false_ne_true]
      exact q _ H3 (e2.trans e3) (by rw [h]; rfl)
    | true =>
      rw [if_pos rfl]
      exact hc H3 ((e.trans e2).trans e3) _ fun v3 H4 e4 q3 => by
        cases q3
        refine ⟨j, k, rfl, rfl, r2 j k, rfl, ?_⟩
        cases h2 : r2 j k with
        | false =>
          rw [if_neg Bool.false_ne_true]
          exact q _ H4 ((e2.trans e3).trans e4) (by rw [h, h2]; rfl)
        | true =>
          rw [if_pos rfl]
          exact hd H4 (((e.trans e2).trans e3).trans e4) _ fun v4 H5 e5 q4 => by
            cases q4
            exact ⟨k, l, rfl, rfl, q _ H5 (((e2.trans e3).trans e4).trans e5) (by rw [h, h2]; rfl)⟩
/-! ### None, or not -/
theorem non_ne {v : V} : V.bl (decide (v = .non)) = V.bl (decide (v = .non)) := rfl
class NN (α : Type) [Rep α] : Prop where
  nn : ∀ {K : PySem.W.Frag} {H : Hp} {v : V} {x : α}, Rep.rel K H v x → v ≠ .non
instance : NN Int := ⟨fun h z => by cases h; cases z⟩
instance : NN Str := ⟨fun h z => by cases h; cases z⟩
instance : NN (α × β) := ⟨fun ⟨_, _, _, h, _⟩ z => by rw [h] at z; cases z⟩
instance : NN (Tri α β γ) := ⟨fun ⟨_, _, _, _, h, _⟩ z => by rw [h] at z; cases z⟩
instance : NN (List α) := ⟨fun ⟨_, _, h, _⟩ z => by rw [h] at z; cases z⟩
instance : NN (Tpl α) := ⟨fun ⟨_, _, h, _⟩ z => by rw [h] at z; cases z⟩
instance : NN Fld := ⟨fun ⟨_, h, _⟩ z => by rw [h] at z; cases z⟩
theorem er_isNone [NN α] {x : Option α} (h : ER K ta σ H x) : ER K (tOp rIsN ta (tC .non)) σ H x.isNone := fun H1 e Q q => h H1 e _ fun v H2 e2 r => by
  cases x with
  | none =>
    have hv : v = .non := r
    subst hv
    exact ⟨rfl, q _ H2 e2 rfl⟩
  | some y =>
    have hn := NN.nn (x := y) r
    exact ⟨rfl, q _ H2 e2 (by rw [decide_eq_false hn]; rfl)⟩
theorem er_isNNone [NN α] {x : Option α} (h : ER K ta σ H x) : ER K (tOp rNotN ta (tC .non)) σ H (!x.isNone) := fun H1 e Q q => h H1 e _ fun v H2 e2 r => by
  cases x with
  | none =>
    have hv : v = .non := r
    subst hv
    exact ⟨rfl, q _ H2 e2 rfl⟩
  | some y =>
    have hn := NN.nn (x := y) r
    exact ⟨rfl, q _ H2 e2 (by rw [decide_eq_false hn]; rfl)⟩
theorem er_get {x : Option α} {y : α} (h : ER K ta σ H x) (e : x = some y) : ER K ta σ H y := by
  subst e
  exact h
theorem er_t0 {x : Tri α β γ} (ha : ER K ta σ H x) : ER K (tOp (rIxT K) ta (tC (.int 0))) σ H x.a := fun H1 e Q q =>
  ha H1 e _ fun v H2 e2 ⟨p, v1, v2, v3, hv, hs, r1, r2, r3⟩ => ⟨p, [v1, v2, v3], 0, v1, hv, rfl, hs, rfl, q v1 H2 e2 r1⟩
theorem er_t1 {x : Tri α β γ} (ha : ER K ta σ H x) : ER K (tOp (rIxT K) ta (tC (.int 1))) σ H x.b := fun H1 e Q q =>
  ha H1 e _ fun v H2 e2 ⟨p, v1, v2, v3, hv, hs, r1, r2, r3⟩ => ⟨p, [v1, v2, v3], 1, v2, hv, rfl, hs, rfl, q v2 H2 e2 r2⟩
theorem er_t2 {x : Tri α β γ} (ha : ER K ta σ H x) : ER K (tOp (rIxT K) ta (tC (.int 2))) σ H x.c := fun H1 e Q q =>
  ha H1 e _ fun v H2 e2 ⟨p, v1, v2, v3, hv, hs, r1, r2, r3⟩ => ⟨p, [v1, v2, v3], 2, v3, hv, rfl, hs, rfl, q v3 H2 e2 r3⟩
theorem er_inLS {s : Str} {xs : List Str} (ha : ER K ta σ H s) (hb : ER K tb σ H xs) : ER K (tOp (rIn K false) ta tb) σ H (decide (s ∈ xs)) := fun H1 e Q q =>
  ha H1 e _ fun v H2 e2 r => hb H2 (e.trans e2) _ fun w H3 e3 ⟨p, vs, hw, hs, hr⟩ => by
    cases r
    have h1 := rels_strs hr
    subst h1
    exact ⟨p, _, hw, .inl (sq_of hs), rfl, flat_strs, q _ H3 (e2.trans e3) (by rw [if_neg Bool.false_ne_true, in_strs]; rfl)⟩
theorem er_ninLS {s : Str} {xs : List Str} (ha : ER K ta σ H s) (hb : ER K tb σ H xs) : ER K (tOp (rIn K true) ta tb) σ H (!decide (s ∈ xs)) := fun H1 e Q q =>
  ha H1 e _ fun v H2 e2 r => hb H2 (e.trans e2) _ fun w H3 e3 ⟨p, vs, hw, hs, hr⟩ => by
    cases r
    have h1 := rels_strs hr
    subst h1
    exact ⟨p, _, hw, .inl (sq_of hs), rfl, flat_strs, q _ H3 (e2.trans e3) (by rw [if_pos rfl, in_strs]; rfl)⟩
/-- a drawn test -/
theorem etn_any (h : EN K te σ H (fun _ : Bool => True)) : ETN K (tTest te) σ H (fun _ => True) := etn_t h
/-- a triple in the target -/
theorem g_tri {v : V} {x : Tri α β γ} {g : TGs} {Q : L2.St → Hp → Prop} (r : Rep.rel K H v x) (k : ∀ v1 v2 v3, Rep.rel K H v1 x.a → Rep.rel K H v2 x.b → Rep.rel K H v3 x.c → g [v1, v2, v3] σ H Q) : gTup K 3 g v σ H Q := by
  obtain ⟨a, v1, v2, v3, hv, hs, r1, r2, r3⟩ := r
  exact ⟨a, [v1, v2, v3], hv, hs, rfl, k v1 v2 v3 r1 r2 r3⟩
/-- is True, is False -/
abbrev rIsB : R2 := fun x y H Q => ∃ a b, x = .bl a ∧ y = .bl b ∧ Q (.bl (decide (a = b))) H
abbrev rIsNB : R2 := fun x y H Q => ∃ a b, x = .bl a ∧ y = .bl b ∧ Q (.bl (!decide (a = b))) H
theorem er_isB (ha : ER K ta σ H a) (hb : ER K tb σ H b) : ER K (tOp rIsB ta tb) σ H (decide (a = b)) := er_BB ha hb fun H1 Q q => ⟨a, b, rfl, rfl, q _ rfl⟩
theorem er_isNB (ha : ER K ta σ H a) (hb : ER K tb σ H b) : ER K (tOp rIsNB ta tb) σ H (!decide (a = b)) := er_BB ha hb fun H1 Q q => ⟨a, b, rfl, rfl, q _ rfl⟩
end
/-! ### defs of five and six -/
section
variable {α β γ ε ζ δ : Type} [Rep α] [Rep β] [Rep γ] [Rep ε] [Rep ζ] [Rep δ]
def sp5 (K : PySem.W.Frag) (pre : α → β → γ → ε → ζ → Prop) (g : α → β → γ → ε → ζ → δ) : Sp := fun vs H Q _ => ∃ x y z u x5 a b c d a5, vs = [x, y, z, u, x5] ∧ Rep.rel K H x a ∧ Rep.rel K H y b ∧ Rep.rel K H z c ∧ Rep.rel K H u d ∧ Rep.rel K H x5 a5 ∧ pre a b c d a5 ∧ ∀ v H', Ex H H' → Rep.rel K H' v (g a b c d a5) → Q v H'
variable {K : PySem.W.Frag} {σ : L2.St} {H : Hp} {ta tb tc td t5 : TE} {E : XK} {a : α} {b : β} {c : γ} {d : ε} {a5 : ζ}
theorem er_call5 {pre : α → β → γ → ε → ζ → Prop} {g : α → β → γ → ε → ζ → δ} (h0 : ER K ta σ H a) (h1 : ER K tb σ H b) (h2 : ER K tc σ H c) (h3 : ER K td σ H d) (h4 : ER K t5 σ H a5) (hp : pre a b c d a5) : ER K (tCall (sp5 K pre g) [] E (tCons ta (tCons tb (tCons tc (tCons td (tCons t5 tNil)))))) σ H (g a b c d a5) := fun H1 e Q q =>
  h0 H1 e _ fun v0 H2 e2 r0 => h1 H2 (e.trans e2) _ fun v1 H3 e3 r1 => h2 H3 ((e.trans e2).trans e3) _ fun v2 H4 e4 r2 => h3 H4 (((e.trans e2).trans e3).trans e4) _ fun v3 H5 e5 r3 => h4 H5 ((((e.trans e2).trans e3).trans e4).trans e5) _ fun v4 H6 e6 r4 => 
    ⟨v0, v1, v2, v3, v4, a, b, c, d, a5, rfl, Rep.mono (((e3.trans e4).trans e5).trans e6) r0, Rep.mono ((e4.trans e5).trans e6) r1, Rep.mono (e5.trans e6) r2, Rep.mono e6 r3, r4, hp, fun v H' e' r => q v H' (((((e2.trans e3).trans e4).trans e5).trans e6).trans e') r⟩
variable {P : Program} {w : World} {mg : Str → Option Value} {base : Heap} {xn qual : Str} {params : Arguments} {body : List Stmt} {scope : Scope} {dvs : List V} {kws : List (Str × V)} {f : Addr} {fd : FuncData} {N ps : List Str} {k : Nat} {CX : CXT}
theorem ok5 {pre : α → β → γ → ε → ζ → Prop} {g : α → β → γ → ε → ζ → δ} (F : FunD K xn qual params body scope dvs kws f fd) (S : FnScope N ps scope) (hl : ps.length = 5) (σ0 : V → V → V → V → V → L2.St) (h0 : ∀ x y z u x5, start N [x, y, z, u, x5] = σ0 x y z u x5)
    (h : ∀ (H : Hp) (Q : VK) (x y z u x5 : V) (a : α) (b : β) (c : γ) (d : ε) (a5 : ζ), Rep.rel K H x a → Rep.rel K H y b → Rep.rel K H z c → Rep.rel K H u d → Rep.rel K H x5 a5 → pre a b c d a5 → (∀ v H', Ex H H' → Rep.rel K H' v (g a b c d a5) → Q v H') → Body CX P w K mg base k f N qual scope body H Q (σ0 x y z u x5)) : FnOk P w K mg base CX (k + 1) f fd ps (sp5 K pre g) := by
  refine F.ok S (fun vs H Q E hs => ?_) (fun cdv A outer s H vs Q E hr hs => ?_)
  · obtain ⟨x, y, z, u, x5, a, b, c, d, a5, rfl, _⟩ := hs
    exact hl.symm
  · obtain ⟨x, y, z, u, x5, a, b, c, d, a5, rfl, k0, k1, k2, k3, k4, hp, q⟩ := hs
    rw [h0]
    exact h H Q x y z u x5 a b c d a5 k0 k1 k2 k3 k4 hp q cdv A outer s E hr
end
section
variable {α β γ ε ζ η δ : Type} [Rep α] [Rep β] [Rep γ] [Rep ε] [Rep ζ] [Rep η] [Rep δ]
def sp6 (K : PySem.W.Frag) (pre : α → β → γ → ε → ζ → η → Prop) (g : α → β → γ → ε → ζ → η → δ) : Sp := fun vs H Q _ => ∃ x y z u x5 x6 a b c d a5 a6, vs = [x, y, z, u, x5, x6] ∧ Rep.rel K H x a ∧ Rep.rel K H y b ∧ Rep.rel K H z c ∧ Rep.rel K H u d ∧ Rep.rel K H x5 a5 ∧ Rep.rel K H x6 a6 ∧ pre a b c d a5 a6 ∧ ∀ v H', Ex H H' → Rep.rel K H' v (g a b c d a5 a6) → Q v H'
variable {K : PySem.W.Frag} {σ : L2.St} {H : Hp} {ta tb tc td t5 t6 : TE} {E : XK} {a : α} {b : β} {c : γ} {d : ε} {a5 : ζ} {a6 : η}
theorem er_call6 {pre : α → β → γ → ε → ζ → η → Prop} {g : α → β → γ → ε → ζ → η → δ} (h0 : ER K ta σ H a) (h1 : ER K tb σ H b) (h2 : ER K tc σ H c) (h3 : ER K td σ H d) (h4 : ER K t5 σ H a5) (h5 : ER K t6 σ H a6) (hp : pre a b c d a5 a6) : ER K (tCall (sp6 K pre g) [] E (tCons ta (tCons tb (tCons tc (tCons td (tCons t5 (tCons t6 tNil))))))) σ H (g a b c d a5 a6) := fun H1 e Q q =>
  h0 H1 e _ fun v0 H2 e2 r0 => h1 H2 (e.trans e2) _ fun v1 H3 e3 r1 => h2 H3 ((e.trans e2).trans e3) _ fun v2 H4 e4 r2 => h3 H4 (((e.trans e2).trans e3).trans e4) _ fun v3 H5 e5 r3 => h4 H5 ((((e.trans e2).trans e3).trans e4).trans e5) _ fun v4 H6 e6 r4 => h5 H6 (((((e.trans e2).trans e3).trans e4).trans e5).trans e6) _ fun v5 H7 e7 r5 => 
    ⟨v0, v1, v2, v3, v4, v5, a, b, c, d, a5, a6, rfl, Rep.mono ((((e3.trans e4).trans e5).trans e6).trans e7) r0, Rep.mono (((e4.trans e5).trans e6).trans e7) r1, Rep.mono ((e5.trans e6).trans e7) r2, Rep.mono (e6.trans e7) r3, Rep.mono e7 r4, r5, hp, fun v H' e' r => q v H' ((((((e2.trans e3).trans e4).trans e5).trans e6).trans e7).trans e') r⟩
variable {P : Program} {w : World} {mg : Str → Option Value} {base : Heap} {xn qual : Str} {params : Arguments} {body : List Stmt} {scope : Scope} {dvs : List V} {kws : List (Str × V)} {f : Addr} {fd : FuncData} {N ps : List Str} {k : Nat} {CX : CXT}
theorem ok6 {pre : α → β → γ → ε → ζ → η → Prop} {g : α → β → γ → ε → ζ → η → δ} (F : FunD K xn qual params body scope dvs kws f fd) (S : FnScope N ps scope) (hl : ps.length = 6) (σ0 : V → V → V → V → V → V → L2.St) (h0 : ∀ x y z u x5 x6, start N [x, y, z, u, x5, x6] = σ0 x y z u x5 x6)
    (h : ∀ (H : Hp) (Q : VK) (x y z u x5 x6 : V) (a : α) (b : β) (c : γ) (d : ε) (a5 : ζ) (a6 : η), Rep.rel K H x a → Rep.rel K H y b → Rep.rel K H z c → Rep.rel K H u d → Rep.rel K H x5 a5 → Rep.rel K H x6 a6 → pre a b c d a5 a6 → (∀ v H', Ex H H' → Rep.rel K H' v (g a b c d a5 a6) → Q v H') → Body CX P w K mg base k f N qual scope body H Q (σ0 x y z u x5 x6)) : FnOk P w K mg base CX (k + 1) f fd ps (sp6 K pre g) := by
  refine F.ok S (fun vs H Q E hs => ?_) (fun cdv A outer s H vs Q E hr hs => ?_)
  · obtain ⟨x, y, z, u, x5, x6, a, b, c, d, a5, a6, rfl, _⟩ := hs
    exact hl.symm
  · obtain ⟨x, y, z, u, x5, x6, a, b, c, d, a5, a6, rfl, k0, k1, k2, k3, k4, k5, hp, q⟩ := hs
    rw [h0]
    exact h H Q x y z u x5 x6 a b c d a5 a6 k0 k1 k2 k3 k4 k5 hp q cdv A outer s E hr
end
/-! ### a def with three parameters and a star -/
def tCallR (sp : Sp) (E : XK) (t : TA) : TE := fun σ H Q => t σ H fun vs H1 => sp vs H1 Q E
theorem pe_callR {X : Cx} {CX : CXT} {k : Nat} {f : Addr} {sp : Sp} {E : XK} {x : Str} {p pos : Pos} {e : Expr} {es : List Expr} {t : TA} (F : FnR X.prog X.w X.K X.mg X.base CX k f sp) (hr : Room k X.A) (hg : Gl X x) (hm : X.mg x = some (.ref f)) (hk : PySem.W.keepIn X.K (.ref f) = true) (hx : Passes CX X E)
    (ha : PA X (e :: es) t) (hdb : (x == ("__debug__" : Str)) = false := by decide) (he : starEach (e :: es) X.env = (false, eval e X.env) :: starEach es X.env := by rfl) (hpl : (backTo pos (starEach es X.env)).any (·.1) = false := by rfl) :
    PE X (.Call (.Name x p) (e :: es) [] pos) (tCallR sp E t) := by
  refine ⟨fun pins s σ H Q I h => ?_⟩
  refine wpAny_Call_Name_kw (ld_glob I hg hm ?_ hdb)
  refine PySem.W.callWith_K (h₀ := X.base) I.ok.mod.kin hk (thn (ha.run pos pins s σ H _ I h) fun us s1 ⟨vs, H1, I1, r, q⟩ => ⟨I1.kIn, ?_⟩) he hpl
  exact wpAny_call (run_fnR F hr hx I1 r q)
section
variable {α β γ ε δ : Type} [Rep α] [Rep β] [Rep γ] [Rep ε] [Rep δ]
def spV3 (K : PySem.W.Frag) (pre : α → β → γ → List ε → Prop) (g : α → β → γ → List ε → δ) : Sp := fun vs H Q _ => ∃ x y z us a b c ds, vs = x :: y :: z :: us ∧ Rep.rel K H x a ∧ Rep.rel K H y b ∧ Rep.rel K H z c ∧ rels K H us ds ∧ ds.length ≤ 1000 ∧ pre a b c ds ∧ ∀ v H', Ex H H' → Rep.rel K H' v (g a b c ds) → Q v H'
variable {K : PySem.W.Frag} {σ : L2.St} {H : Hp} {ta tb tc : TE} {tA : TA} {E : XK} {a : α} {b : β} {c : γ} {ds : List ε}
theorem er_callV3 {pre : α → β → γ → List ε → Prop} {g : α → β → γ → List ε → δ} (ha : ER K ta σ H a) (hb : ER K tb σ H b) (hc : ER K tc σ H c) (hA : EAs K tA σ H ds) (hl : ds.length ≤ 1000) (hp : pre a b c ds) :
    ER K (tCallR (spV3 K pre g) E (tCons ta (tCons tb (tCons tc tA)))) σ H (g a b c ds) := fun H1 e Q q =>
  ha H1 e _ fun v1 H2 e2 r1 => hb H2 (e.trans e2) _ fun v2 H3 e3 r2 => hc H3 ((e.trans e2).trans e3) _ fun v3 H4 e4 r3 => hA H4 (((e.trans e2).trans e3).trans e4) _ fun us H5 e5 rs =>
    ⟨v1, v2, v3, us, a, b, c, ds, rfl, Rep.mono ((e3.trans e4).trans e5) r1, Rep.mono (e4.trans e5) r2, Rep.mono e5 r3, rs, hl, hp, fun v H' e' r => q v H' ((((e2.trans e3).trans e4).trans e5).trans e') r⟩
variable {P : Program} {w : World} {mg : Str → Option Value} {base : Heap} {xn qual : Str} {params : Arguments} {body : List Stmt} {scope : Scope} {f : Addr} {fd : FuncData} {N : List Str} {k : Nat} {p1 p2 p3 pv : Str}
theorem okV3 {pre : α → β → γ → List ε → Prop} {g : α → β → γ → List ε → δ} (F : FunD K xn qual params body scope [] [] f fd) (S : FnScope N [p1, p2, p3, pv] scope) (σ0 : V → V → V → V → L2.St) (h0 : ∀ x y z u, start N [x, y, z, u] = σ0 x y z u)
    (hbind : ∀ (kV doc pm : Value) (an : Option Addr) (cdv ct : Value) (us rest : List Value), us.length = 3 → bindArgs (PySem.W.fnOf xn qual params body scope .none kV doc pm an cdv ct) ⟨us ++ rest, []⟩ = (newTuple rest >>= fun t => pure ([p1, p2, p3].zip us ++ [(pv, t)])))
    (h : ∀ (H : Hp) (Q : VK) (x y z u : V) (a : α) (b : β) (c : γ) (d : Tpl ε), Rep.rel K H x a → Rep.rel K H y b → Rep.rel K H z c → Rep.rel K H u d → pre a b c d.l → (∀ v H', Ex H H' → Rep.rel K H' v (g a b c d.l) → Q v H') → Body CX0 P w K mg base k f N qual scope body H Q (σ0 x y z u)) : FnR P w K mg base CX0 (k + 1) f (spV3 K pre g) := by
  obtain ⟨oc, od, dV, kV, doc, pm, an, cdv, ct, osl, rfl, lk, hcd, hD, hK⟩ := F.ex
  rcases hD with ⟨_, rfl⟩ | ⟨e, _⟩
  · refine FnR.imp (StX.fn_star (ps := [p1, p2, p3]) (pv := pv) (sp := fun vs H Q _ => ∃ x y z u a b c d, vs = [x, y, z, u] ∧ Rep.rel K H x a ∧ Rep.rel K H y b ∧ Rep.rel K H z c ∧ Rep.rel K H u (Tpl.mk d) ∧ pre a b c d ∧ ∀ v H', Ex H H' → Rep.rel K H' v (g a b c d) → Q v H') lk hcd S StX.cxUp_none (fun us rest hl => hbind kV doc pm an cdv ct us rest hl) ?_) ?_
    · intro A outer s H vs Q E hr hs
      obtain ⟨x, y, z, u, a, b, c, d, rfl, h1, h2, h3, h4, hp, q⟩ := hs
      rw [h0]
      exact h H Q x y z u a b c (Tpl.mk d) h1 h2 h3 h4 hp q cdv A outer s E hr
    · intro vs H Q E hs
      obtain ⟨x, y, z, us, a, b, c, d, rfl, h1, h2, h3, h4, hl, hp, q⟩ := hs
      refine ⟨[x, y, z], us, rfl, rfl, by rw [rels_len h4]; exact sz_of (by omega), fun p hp' => ?_⟩
      have n := Ex.new (o := .tup us) hp'
      exact ⟨x, y, z, .ref p, a, b, c, d, rfl, Rep.mono n h1, Rep.mono n h2, Rep.mono n h3, ⟨p, us, rfl, st_of upd_same, rels_mono n h4⟩, hp, fun v H' e r => q v H' (n.trans e) r⟩
  · exact absurd rfl e
/-- such a def of the module, to be called -/
structure CalR (P : Program) (w : World) (K : PySem.W.Frag) (mg : Str → Option Value) (base : Heap) (k : Nat) (x : Str) (sp : Sp) (f : Addr) : Prop where
  ok : FnR P w K mg base CX0 k f sp
  mg : mg x = some (.ref f)
  kp : PySem.W.keepIn K (.ref f) = true
end
section
variable {K : PySem.W.Frag} {σ : L2.St} {H : Hp} {te : TE}
theorem er_pairT {α : Type} [Rep α] {x : α × α} (h : ER K te σ H x) : ER K te σ H (Tpl.mk [x.1, x.2]) := fun H1 e Q q => h H1 e Q fun v H2 e2 ⟨a, v1, v2, hv, hs, r1, r2⟩ => q v H2 e2 ⟨a, [v1, v2], hv, hs, .cons r1 (.cons r2 .nil)⟩
theorem er_lenP {α β : Type} [Rep α] [Rep β] {x : α × β} (h : ER K te σ H x) : ER K (tCB (rLenQ K) (tCons te tNil)) σ H (2 : Int) := fun H1 e Q q => h H1 e _ fun v H2 e2 ⟨a, v1, v2, hv, hs, r1, r2⟩ => ⟨a, [v1, v2], by rw [hv], .inr hs, q _ H2 e2 rfl⟩
end
section
variable {α β γ ε δ : Type} [Rep α] [Rep β] [Rep γ] [Rep ε] [Rep δ] {K : PySem.W.Frag} {σ : L2.St} {H : Hp} {ta tb tc td : TE} {tt : TT}
theorem etn_notT (h : ETN K tt σ H (fun b => b = true)) : ETN K (tNot tt) σ H (fun b => b = false) := fun H1 e Q q => h H1 e _ fun b H2 p e2 => by
  subst p
  exact q false H2 rfl e2
theorem etn_bT {P : Bool → Prop} (h : EN K ta σ H P) (hp : ∀ b, P b → b = true) : ETN K (tB ta) σ H (fun b => b = true) := etn_b (en_imp h hp)
theorem en_ca4 {sp : Sp} {dvs : List V} {E : XK} {P1 : α → Prop} {P2 : β → Prop} {P3 : γ → Prop} {P4 : ε → Prop} {P : δ → Prop} (ha : EN K ta σ H P1) (hb : EN K tb σ H P2) (hc : EN K tc σ H P3) (hd : EN K td σ H P4) (h : ∀ x y z o v w u t H1, Ex H H1 → P1 x → P2 y → P3 z → P4 o → Rep.rel K H1 v x → Rep.rel K H1 w y → Rep.rel K H1 u z → Rep.rel K H1 t o → EN K (tCall sp dvs E (tCons (tC v) (tCons (tC w) (tCons (tC u) (tCons (tC t) tNil))))) σ H1 P) : EN K (tCall sp dvs E (tCons ta (tCons tb (tCons tc (tCons td tNil))))) σ H P := fun H1 e Q q =>
  ha H1 e _ fun x v H2 p1 e2 r1 => hb H2 (e.trans e2) _ fun y w H3 p2 e3 r2 => hc H3 ((e.trans e2).trans e3) _ fun z u H4 p3 e4 r3 => hd H4 (((e.trans e2).trans e3).trans e4) _ fun o t H5 p4 e5 r4 => h x y z o v w u t H5 ((((e.trans e2).trans e3).trans e4).trans e5) p1 p2 p3 p4 (Rep.mono ((e3.trans e4).trans e5) r1) (Rep.mono (e4.trans e5) r2) (Rep.mono e5 r3) r4 H5 (Ex.refl _) Q fun z v' H6 p e6 r6 => q z v' H6 p ((((e2.trans e3).trans e4).trans e5).trans e6) r6
theorem en_caR4 {sp : Sp} {E : XK} {P1 : α → Prop} {P2 : β → Prop} {P3 : γ → Prop} {P4 : ε → Prop} {P : δ → Prop} (ha : EN K ta σ H P1) (hb : EN K tb σ H P2) (hc : EN K tc σ H P3) (hd : EN K td σ H P4) (h : ∀ x y z o v w u t H1, Ex H H1 → P1 x → P2 y → P3 z → P4 o → Rep.rel K H1 v x → Rep.rel K H1 w y → Rep.rel K H1 u z → Rep.rel K H1 t o → EN K (tCallR sp E (tCons (tC v) (tCons (tC w) (tCons (tC u) (tCons (tC t) tNil))))) σ H1 P) : EN K (tCallR sp E (tCons ta (tCons tb (tCons tc (tCons td tNil))))) σ H P := fun H1 e Q q =>
  ha H1 e _ fun x v H2 p1 e2 r1 => hb H2 (e.trans e2) _ fun y w H3 p2 e3 r2 => hc H3 ((e.trans e2).trans e3) _ fun z u H4 p3 e4 r3 => hd H4 (((e.trans e2).trans e3).trans e4) _ fun o t H5 p4 e5 r4 => h x y z o v w u t H5 ((((e.trans e2).trans e3).trans e4).trans e5) p1 p2 p3 p4 (Rep.mono ((e3.trans e4).trans e5) r1) (Rep.mono (e4.trans e5) r2) (Rep.mono e5 r3) r4 H5 (Ex.refl _) Q fun z v' H6 p e6 r6 => q z v' H6 p ((((e2.trans e3).trans e4).trans e5).trans e6) r6
end
section
variable {σ : L2.St} {H : Hp} {tt : TT} {u t1 : TS} {D : Ends}
theorem q_ifNo (K : PySem.W.Frag) (h : ETN K tt σ H (fun b => b = false)) (k : ∀ H1, Ex H H1 → u D σ H1) : tSeq (tIfS tt t1 tNext) u D σ H := q_ifN K h (fun z => nomatch z) (fun _ H1 e => k H1 e)
theorem l_ifNo (K : PySem.W.Frag) (h : ETN K tt σ H (fun b => b = false)) (k : ∀ H1, Ex H H1 → D.nx σ H1) : tIfS tt t1 tNext D σ H := l_ifN K h (fun z => nomatch z) (fun _ H1 e => k H1 e)
end
/-! ### tuples put together, also empty ones -/
def rCatT2 (K : PySem.W.Frag) : R2 := fun x y H Q => ∃ a b xs ys, x = .ref a ∧ y = .ref b ∧ SqT K H a xs ∧ SqT K H b ys ∧ xs.length + ys.length ≤ sizeLine ∧ ∀ p H', Ex H H' → SqT K H' p (xs ++ ys) → Q (.ref p) H'
theorem op_catT2 {X : Cx} : OpR X (binaryOp .Add) (rCatT2 X.K) := by
  intro pins s σ H x y v u Q I rx ry h
  obtain ⟨a, b, xs, ys, rfl, rfl, ha, hb, hz, q⟩ := h
  by_cases hx : xs = []
  · cases rx
    cases ry
    obtain ⟨its, r1, p1, _⟩ := I.tuple ha
    obtain ⟨its2, r2, p2, _⟩ := I.tuple hb
    have he : its = [] := by
      subst hx
      cases r1
      rfl
    obtain ⟨⟨cls, dd, data, sl⟩, ho, hc, n, hd⟩ := id p1
    obtain ⟨⟨cls2, dd2, data2, sl2⟩, ho2, hc2, n2, hd2⟩ := id p2
    simp only at hc hd hc2 hd2
    subst hc hd hc2 hd2
    refine concat_meets ⟨_, ho, rfl⟩ ⟨_, ho2, rfl⟩ noFill_tuple_add seq_tuple_add PySem.F.slot_tuple_add PySem.F.entry_tuple_add (PySem.F.args_tuple_add_2 _ _)
      (tuple_addW0 a b its.toArray its2.toArray n n2 dd dd2 sl sl2 (by simp [he])) ⟨ho, ho2, ?_⟩
    exact ⟨.ref b, H, I, rfl, q b H (Ex.refl _) (by rw [hx]; exact hb)⟩
  · refine op_catT pins s σ H _ _ v u Q I rx ry ⟨a, b, xs, ys, rfl, rfl, ha, hb, hx, hz, fun z => q a H (Ex.refl _) (by rw [z, List.append_nil]; exact ha), fun _ p hp => ?_⟩
    exact q p _ (Ex.new hp) (st_of upd_same)
theorem er_catT {α : Type} [Rep α] {K : PySem.W.Frag} {σ : L2.St} {H : Hp} {ta tb : TE} {xs ys : Tpl α} (ha : ER K ta σ H xs) (hb : ER K tb σ H ys) (hl : xs.l.length + ys.l.length ≤ 100000) : ER K (tOp (rCatT2 K) ta tb) σ H (Tpl.mk (xs.l ++ ys.l)) := fun H1 e Q q =>
  ha H1 e _ fun v H2 e2 ⟨a, vs, hv, hs, hr⟩ => hb H2 (e.trans e2) _ fun w H3 e3 ⟨b, ws, hw, hs2, hr2⟩ =>
    ⟨a, b, vs, ws, hv, hw, ex_t e3 hs, hs2, by rw [rels_len hr, rels_len hr2]; exact sz_of hl, fun p H' e' hp => q (.ref p) H' ((e2.trans e3).trans e') ⟨p, _, rfl, hp, rels_app (rels_mono (e3.trans e') hr) (rels_mono e' hr2)⟩⟩
/-! ### loops over what is drawn -/
section
variable {α : Type} [Rep α] {σ : L2.St} {H : Hp} {u : TS} {D : Ends}
theorem for_wkN (K : PySem.W.Frag) {wi : TI} {PX : List α → Prop} (h : WkN K wi σ H PX) {gt : TG} {tb : TS} (Pv : List α → L2.St → Hp → Prop) (h0 : ∀ H1, Ex H H1 → Pv [] σ H1)
    (hs : ∀ xs H1 pre x post v σ' H' H'', PX xs → Ex H H1 → xs = pre ++ x :: post → Ey H1 H' → Pv pre σ' H' → Ex H' H'' → Rep.rel K H'' v x →
      gt v σ' H'' fun σ2 H2 => tb { D with nx := fun σ3 H3 => Ey H1 H3 ∧ Pv (pre ++ [x]) σ3 H3, ct := fun σ3 H3 => Ey H1 H3 ∧ Pv (pre ++ [x]) σ3 H3, bk := D.nx } σ2 H2)
    (hd : ∀ xs σ' H', PX xs → Ey H H' → Pv xs σ' H' → D.nx σ' H') : tFor wi gt tb D σ H := by
  refine h H (Ex.refl H) _ fun xs J H2 G Y px e2 w hG hY => ?_
  refine for_it w (fun i σ' H' => Ey H2 H' ∧ Pv (xs.take i) σ' H') ⟨Ey.refl _, by rw [List.take_zero]; exact h0 H2 e2⟩ (fun i σ' H' _ p => hG H' p.1) (fun i v σ' H' H'' hi p y => ?_) (fun σ' H' p => hd xs σ' H' px (e2.y.trans p.1) (by rw [List.take_length] at p; exact p.2))
  obtain ⟨e3, x, hx, r⟩ := hY i H' v H'' hi p.1 y
  have et : xs.take (i + 1) = xs.take i ++ [x] := by
    rw [List.take_add_one, hx]
    rfl
  have ex : xs = xs.take i ++ x :: xs.drop (i + 1) := by
    have h1 := (List.take_append_drop i xs).symm
    obtain ⟨hi2, hx2⟩ := List.getElem?_eq_some_iff.mp hx
    rw [List.drop_eq_getElem_cons hi2, hx2] at h1
    exact h1
  have z := hs xs H2 (xs.take i) x (xs.drop (i + 1)) v σ' H' H'' px e2 ex p.1 p.2 e3 r
  rw [← et] at z
  exact z
theorem q_forN (K : PySem.W.Frag) {wi : TI} {PX : List α → Prop} (h : WkN K wi σ H PX) {gt : TG} {tb : TS} (Pv : List α → L2.St → Hp → Prop) (h0 : ∀ H1, Ex H H1 → Pv [] σ H1)
    (hs : ∀ xs H1 pre x post v σ' H' H'', PX xs → Ex H H1 → xs = pre ++ x :: post → Ey H1 H' → Pv pre σ' H' → Ex H' H'' → Rep.rel K H'' v x →
      gt v σ' H'' fun σ2 H2 => tb { D with nx := fun σ3 H3 => Ey H1 H3 ∧ Pv (pre ++ [x]) σ3 H3, ct := fun σ3 H3 => Ey H1 H3 ∧ Pv (pre ++ [x]) σ3 H3, bk := u D } σ2 H2)
    (hd : ∀ xs σ' H', PX xs → Ey H H' → Pv xs σ' H' → u D σ' H') : tSeq (tFor wi gt tb) u D σ H := for_wkN K (D := { D with nx := u D }) h Pv h0 hs hd
end
/-- an item of a list by its place -/
theorem at_getD {α : Type} {xs : List α} {i : Nat} {d : α} (h : i < xs.length) : atI xs (i : Int) = some (xs.getD i d) := by
  refine atI_nat ?_
  rw [List.getD_eq_getElem?_getD, List.getElem?_eq_getElem h]
  rfl
section
variable {α : Type} [Rep α] {K : PySem.W.Frag} {σ : L2.St} {H : Hp} {te : TE} {u : TS} {D : Ends} {g : TGs}
/-- a tuple of one kind, unpacked -/
theorem q_unpL3 (K : PySem.W.Frag) {x : Tpl α} {a b c : α} {n : Nat} (hn : n = 3) (h : ER K te σ H x) (hx : x.l = [a, b, c]) (k : ∀ v1 v2 v3 H1, Ex H H1 → Rep.rel K H1 v1 a → Rep.rel K H1 v2 b → Rep.rel K H1 v3 c → g [v1, v2, v3] σ H1 fun σ' H' => u D σ' H') : tSeq (tAsg te (gTup K n g)) u D σ H := h H (Ex.refl H) _ fun v H1 e ⟨p, vs, hv, hs, hr⟩ => by
  rw [hx] at hr
  cases hr with
  | cons r1 hr =>
    cases hr with
    | cons r2 hr =>
      cases hr with
      | cons r3 hr =>
        cases hr
        exact ⟨p, _, hv, hs, hn.symm, k _ _ _ H1 e r1 r2 r3⟩
end
theorem len3 {α : Type} {xs : List α} (h : (xs.length : Int) = 3) : ∃ a b c, xs = [a, b, c] := by
  match xs, h with
  | [a, b, c], _ => exact ⟨a, b, c, rfl⟩
  | [], h => cases h
  | [_], h => cases h
  | [_, _], h => cases h
  | _ :: _ :: _ :: _ :: _, h =>
    simp only [List.length_cons] at h
    omega
end Sf

namespace Sf
open PySem PySem.Spec PyProof.Rows L2 Evl

/-! ### lists that are changed in place -/
/-- all but what stands at l is kept -/
def Eo (l : Addr) (H H' : Hp) : Prop := ∀ a o, a ≠ l → H a = some o → H' a = some o
theorem Eo.ex {l : Addr} {B H H' : Hp} (e : Eo l H H') (hb : B l = none) (b : Ex B H) : Ex B H' := fun a o h => e a o (ne_of_none h hb) (b a o h)
theorem Eo.y {l : Addr} {H H' : Hp} {ws : List V} (e : Eo l H H') (h : H l = some (MutO l ws)) : Ey H H' := fun a o ho => by
  by_cases z : a = l
  · subst z
    rw [h] at ho
    cases ho
    exact .inl (.m ws)
  · exact .inr (e a o z ho)
theorem Eo.upd {l : Addr} {H H' : Hp} {o : HO} (e : Ex H H') : Eo l H (upd H' l o) := fun a u n h => by
  rw [upd_ne n]
  exact e a u h
theorem Eo.of {l : Addr} {H H' : Hp} (e : Ex H H') : Eo l H H' := fun a u _ h => e a u h
theorem mutO_ok {P : Program} {w : World} {H H' : Hp} {h : Heap} {l : Addr} {ws : List V} (x : ObjOk P w H h l (.lst ws)) : ObjOk P w H' h l (MutO l ws) := by
  obtain ⟨z, its, n, r, e⟩ := x
  exact ⟨⟨z, its, n, r, e⟩, ⟨_, e⟩, fun h1 h2 ⟨z, its, n, r, e⟩ k => ⟨z, its, n, r, k _ e⟩⟩
theorem mutO_get {P : Program} {w : World} {H H' : Hp} {h : Heap} {l : Addr} {ws : List V} (x : ObjOk P w H h l (MutO l ws)) : ObjOk P w H' h l (.lst ws) := by
  obtain ⟨⟨z, its, n, r, e⟩, _⟩ := x
  exact ⟨z, its, n, r, e⟩
section
variable {X : Cx} {pins : List (Addr × Obj)} {σ : L2.St} {H : Hp} {s : Shared} {l : Addr} {ws : List V}
theorem inv_open (I : Inv X pins σ H s) (h : H l = some (MutO l ws)) : Inv X pins σ (upd H l (.lst ws)) s := by
  have ok := I.hok l _ h
  have e : ∃ o, s.heap.get? l = some o := ok.2.1
  exact I.write (h' := s.heap) (t' := s.toks) (x := l) (e := l) (by rw [h]; exact trivial) (.inl rfl) (fun _ _ _ q => q) e (mutO_get ok)
theorem inv_close (I : Inv X pins σ H s) (h : H l = some (.lst ws)) : Inv X pins σ (upd H l (MutO l ws)) s := by
  have ok := I.hok l _ h
  have e : ∃ o, s.heap.get? l = some o := by
    obtain ⟨_, its, n, _, e⟩ := ok
    exact ⟨_, e⟩
  exact I.write (h' := s.heap) (t' := s.toks) (x := l) (e := l) (by rw [h]; exact trivial) (.inl rfl) (fun _ _ _ q => q) e (mutO_ok ok)
end
/-! the expression is read while the list in slot n is open -/
def tOpen (n : Nat) (t : TE) : TE := fun σ H Q => ∃ l ws, σ[n]? = some (some (.ref l)) ∧ H l = some (MutO l ws) ∧ t σ (upd H l (.lst ws)) fun v H2 => H2 l = some (.lst ws) ∧ Q v (upd H2 l (MutO l ws))
theorem pe_open {X : Cx} {e : Expr} {t : TE} (n : Nat) (h : PE X e t) : PE X e (tOpen n t) := by
  refine ⟨fun pins s σ H Q I ⟨l, ws, hn, hl, ht⟩ => ?_⟩
  refine thn (h.run pins s σ _ _ (inv_open I hl) ht) fun u s2 ⟨v, H2, I2, r, h2, q⟩ => ?_
  exact ⟨v, _, inv_close I2 h2, r, q⟩
def tOpenT (n : Nat) (t : TT) : TT := fun σ H Q => ∃ l ws, σ[n]? = some (some (.ref l)) ∧ H l = some (MutO l ws) ∧ t σ (upd H l (.lst ws)) fun v H2 => H2 l = some (.lst ws) ∧ Q v (upd H2 l (MutO l ws))
theorem pt_open {X : Cx} {e : Expr} {t : TT} (n : Nat) (h : PT X e t) : PT X e (tOpenT n t) := by
  refine ⟨fun pins s σ H Q I ⟨l, ws, hn, hl, ht⟩ => ?_⟩
  refine thn (h.run pins s σ _ _ (inv_open I hl) ht) fun u s2 ⟨H2, I2, h2, q⟩ => ?_
  exact ⟨_, inv_close I2 h2, q⟩
/-! between statements: the list in slot n is from now on one that changes; is from now on a list like others -/
def tClose (n : Nat) (t : TS) : TS := fun D σ H => ∃ l ws, σ[n]? = some (some (.ref l)) ∧ H l = some (.lst ws) ∧ t D σ (upd H l (MutO l ws))
theorem pss_close {X : Cx} {st : List Stmt} {t : TS} (n : Nat) (h : PSs X st t) : PSs X st (tClose n t) := by
  refine ⟨fun pins s σ H D I ⟨l, ws, hn, hl, ht⟩ => ?_⟩
  exact h.run pins s σ _ D (inv_close I hl) ht
def tThaw (n : Nat) (t : TS) : TS := fun D σ H => ∃ l ws, σ[n]? = some (some (.ref l)) ∧ H l = some (MutO l ws) ∧ t D σ (upd H l (.lst ws))
theorem pss_thaw {X : Cx} {st : List Stmt} {t : TS} (n : Nat) (h : PSs X st t) : PSs X st (tThaw n t) := by
  refine ⟨fun pins s σ H D I ⟨l, ws, hn, hl, ht⟩ => ?_⟩
  exact h.run pins s σ _ D (inv_open I hl) ht
/-! x.append(e) -/
def tApp (n : Nat) (t : TA) : TE := fun σ H Q => ∃ l ws0, σ[n]? = some (some (.ref l)) ∧ H l = some (MutO l ws0) ∧ t σ H fun xs H2 => ∃ ws y, xs = [y] ∧ H2 l = some (MutO l ws) ∧ ws.length < sizeLine ∧ Q .non (upd H2 l (MutO l (ws ++ [y])))
theorem pe_app {X : Cx} {o e : Expr} {t : TA} {apos cpos : Pos} {n : Nat} (ho : PE X o (tVar n)) (ha : PA X [e] t)
    (hbase : attributeBase o ("append" : Str) X.env (eval o X.env) = eval o X.env := by rfl)
    (hfew : ((backTo cpos (starEach [e] X.env)).all (fun x => !x.1) && (backToKw cpos (keywordEach [] X.env)).all (fun x => x.1.isSome)
      && decide ([e].length + ([] : List Keyword).length + (if ([] : List Keyword).isEmpty then 0 else 1) < 30)) = true := by rfl)
    (hline : (apos.endLine == cpos.line) = true := by rfl) (hs : starEach [e] X.env = (false, eval e X.env) :: starEach [] X.env := by rfl) (hplain : (backTo cpos (starEach [] X.env)).any (·.1) = false := by rfl) :
    PE X (.Call (.Attribute o ("append" : Str) apos) [e] [] cpos) (tApp n t) := by
  refine ⟨fun pins s σ H Q I ⟨l, ws0, hn, hl, ht⟩ => ?_⟩
  have h1 : tVar n σ H (fun v H1 => v = .ref l ∧ H1 = H) := ⟨_, hn, rfl, rfl⟩
  refine wpAny_Call_method_late hbase hfew hline rfl (thn (ho.run pins s σ H _ I h1) fun v s1 ⟨x, H1, I1, r1, ex, eh⟩ => ?_)
  subst ex
  subst eh
  obtain ⟨k1, k2⟩ := tyV_is (T := "list") (inv_open I1 hl) r1 (.inl ⟨rfl, ws0, .inl (.inl upd_same)⟩)
  refine ⟨"list", "list.append", PySem.F.plainAttrs_list, PySem.F.slot_list_append, PySem.F.type_list_append, k1, k2, ?_⟩
  have hA := ha.run cpos pins s1 σ H1 _ I1 ht
  rw [hs] at hA ⊢
  refine Calls.callWith_builtin (by show (false || (backTo cpos (starEach [] X.env)).any (·.1)) = false; rw [hplain] <;> rfl) (Calls.evalArgs_plain ?_)
  refine thn hA fun us s2 ⟨vs, H2, I2, r2, ws, y, exs, h2, hz, q2⟩ => ?_
  subst exs
  refine thn (mt_append pins s2 σ _ (.ref l) [y] v us (fun v' H3 => v' = .non ∧ H3 l = some (.lst (ws ++ [y])) ∧ Q .non (upd H3 l (MutO l (ws ++ [y])))) (inv_open I2 h2) r1 r2 ⟨l, ws, y, rfl, rfl, upd_same, hz, rfl, upd_same, by rw [upd_upd, upd_upd]; exact q2⟩) fun u3 s3 ⟨v3, H3, I3, r3, e3, h3, q3⟩ => ?_
  subst e3
  exact ⟨.non, _, inv_close I3 h3, r3, q3⟩
/-! x[i] = e -/
def rSetM : TSet := fun o i v H Q => ∃ p xs k j, o = .ref p ∧ i = .int k ∧ H p = some (MutO p xs) ∧ L2.ixN xs.length k = some j ∧ Q (upd H p (MutO p (xs.set j v)))
theorem set_listM {X : Cx} : PSet X rSetM := by
  intro pins s σ H o i v ov iv u Q I ro ri rv ⟨p, xs, k, j, eo, ei, hp, hj, q⟩
  refine wpAny_mono (set_list pins s σ _ o i v ov iv u (fun H3 => H3 p = some (.lst (xs.set j v)) ∧ Q (upd H3 p (MutO p (xs.set j v)))) (inv_open I hp) ro ri rv ⟨p, xs, k, j, eo, ei, upd_same, hj, upd_same, by rw [upd_upd, upd_upd]; exact q⟩) (fun _ s' ⟨H', I', h1, h2⟩ => ⟨_, inv_close I' h1, h2⟩) (fun _ _ z => z)

/-- data of no list: whatever becomes of the list at l -/
class ImmX (α : Type) [Rep α] : Prop where
  imm : ∀ {K : PySem.W.Frag} {H : Hp} {v : V} {x : α} {l : Addr} {ws : List V} {o : HO}, H l = some (.lst ws) → Rep.rel K H v x → Rep.rel K (upd H l o) v x
/-! ### their readings -/
section
variable {α β : Type} [Rep α] [Rep β] {K : PySem.W.Frag} {σ σ' : L2.St} {H H' : Hp} {te tl ta tb : TE} {tA : TA} {tt : TT} {u : TS} {D : Ends} {n : Nat} {xs : List α} {i : Int}
/-- a new list -/
def EL (K : PySem.W.Frag) (te : TE) (σ : L2.St) (H : Hp) (xs : List α) : Prop := ∀ H1, Ex H H1 → ∀ Q : VK, (∀ l ws H2, H1 l = none → Ex H1 H2 → H2 l = some (.lst ws) → rels K (upd H2 l (MutO l ws)) ws xs → Q (.ref l) H2) → te σ H1 Q
theorem el_lst (h : EAs K tA σ H xs) (hl : xs.length ≤ 100000) : EL K (tLst tA) σ H xs := fun H1 e Q q => h H1 e _ fun vs H2 e2 rs => ⟨by rw [rels_len rs]; exact sz_of hl, fun p hp => by
  have n := Ex.new (o := .lst vs) hp
  refine q p vs _ (fresh_back e2 hp) (e2.trans n) upd_same ?_
  rw [upd_upd]
  exact rels_mono (Ex.new hp) rs⟩
theorem el_cat {ys : List α} (h : ER K ta σ H xs) (h2 : ER K tb σ H ys) (hl : xs.length + ys.length ≤ 100000) : EL K (tOp rCat ta tb) σ H (xs ++ ys) := fun H1 e Q q => h H1 e _ fun v H2 e2 ⟨a, vs, hv, hs, hr⟩ => h2 H2 (e.trans e2) _ fun w H3 e3 ⟨b, ws, hw, hs', hr'⟩ =>
  ⟨a, b, vs, ws, hv, hw, e3 _ _ hs, hs', by rw [rels_len hr, rels_len hr']; exact sz_of hl, fun p hp => by
    refine q p (vs ++ ws) _ (fresh_back (e2.trans e3) hp) ((e2.trans e3).trans (Ex.new hp)) upd_same ?_
    rw [upd_upd]
    exact rels_mono (Ex.new hp) (rels_app (rels_mono e3 hr) hr')⟩
theorem el_listS [Imm α] (h : ER K ta σ H xs) : EL K (tCB (rListS K) (tCons ta tNil)) σ H xs := fun H1 e Q q => h H1 e _ fun v H2 e2 ⟨a, vs, hv, hs, hr⟩ => by
  subst hv
  refine ⟨a, vs, rfl, .inl (sq_of hs), fun l hl => q l vs _ (fresh_back e2 hl) (e2.trans (Ex.new hl)) upd_same ?_⟩
  rw [upd_upd]
  exact rels_mono (Ex.new hl) hr
theorem el_listT (h : ER K ta σ H (Tpl.mk xs)) : EL K (tCB (rListS K) (tCons ta tNil)) σ H xs := fun H1 e Q q => h H1 e _ fun v H2 e2 ⟨a, vs, hv, hs, hr⟩ => by
  subst hv
  refine ⟨a, vs, rfl, .inr hs, fun l hl => q l vs _ (fresh_back e2 hl) (e2.trans (Ex.new hl)) upd_same ?_⟩
  rw [upd_upd]
  exact rels_mono (Ex.new hl) hr
theorem Eo.trans {l : Addr} {H H1 H2 : Hp} (a : Eo l H H1) (b : Eo l H1 H2) : Eo l H H2 := fun x o n h => b x o n (a x o n h)
/-- it is made -/
theorem q_new (K : PySem.W.Frag) {s' : V → L2.St} (h : EL K te σ H xs) (s : ∀ v, SetAt σ n v (s' v)) (g : ∀ l, (s' (.ref l))[n]? = some (some (.ref l))) (k : ∀ l ws H1, H l = none → Ex H H1 → H1 l = some (MutO l ws) → rels K H1 ws xs → u D (s' (.ref l)) H1) : tSeq (tAsg te (gName n)) (tClose n u) D σ H :=
  h H (Ex.refl H) _ fun l ws H1 hn e hl rs => by
    show tClose n u D (σ.set n (some (.ref l))) H1
    rw [(s _).eq]
    exact ⟨l, ws, g l, hl, k l ws _ hn (Ex.mut e hn) upd_same rs⟩
/-- one more at its end -/
theorem q_app (K : PySem.W.Frag) {l : Addr} {ws : List V} {x : α} (hn : σ[n]? = some (some (.ref l))) (hl : H l = some (MutO l ws)) (hr : rels K H ws xs) (h : ER K te σ H x) (hz : xs.length < 100000)
    (k : ∀ ws' H1, Eo l H H1 → H1 l = some (MutO l ws') → rels K H1 ws' (xs ++ [x]) → u D σ H1) : tSeq (tDrop (tApp n (tCons te tNil))) u D σ H := by
  refine ⟨l, ws, hn, hl, ?_⟩
  refine h H (Ex.refl H) _ fun v H1 e r => ?_
  have hl1 : H1 l = some (MutO l ws) := e _ _ hl
  have o1 : Eo l H1 (upd H1 l (MutO l (ws ++ [v]))) := Eo.upd (Ex.refl _)
  refine ⟨ws, v, rfl, hl1, by rw [rels_len hr]; exact sz_lt hz, ?_⟩
  exact k (ws ++ [v]) _ (Eo.upd e) upd_same (rels_moY (o1.y hl1) (rels_snoc (rels_mono e hr) r))
theorem l_app (K : PySem.W.Frag) {l : Addr} {ws : List V} {x : α} (hn : σ[n]? = some (some (.ref l))) (hl : H l = some (MutO l ws)) (hr : rels K H ws xs) (h : ER K te σ H x) (hz : xs.length < 100000)
    (k : ∀ ws' H1, Eo l H H1 → H1 l = some (MutO l ws') → rels K H1 ws' (xs ++ [x]) → D.nx σ H1) : tDrop (tApp n (tCons te tNil)) D σ H := by
  refine ⟨l, ws, hn, hl, ?_⟩
  refine h H (Ex.refl H) _ fun v H1 e r => ?_
  have hl1 : H1 l = some (MutO l ws) := e _ _ hl
  have o1 : Eo l H1 (upd H1 l (MutO l (ws ++ [v]))) := Eo.upd (Ex.refl _)
  refine ⟨ws, v, rfl, hl1, by rw [rels_len hr]; exact sz_lt hz, ?_⟩
  exact k (ws ++ [v]) _ (Eo.upd e) upd_same (rels_moY (o1.y hl1) (rels_snoc (rels_mono e hr) r))
/-- what is drawn, at its end -/
theorem n_app (K : PySem.W.Frag) {P : α → Prop} {l : Addr} {ws : List V} (hn : σ[n]? = some (some (.ref l))) (hl : H l = some (MutO l ws)) (hr : rels K H ws xs) (h : EN K te σ H P) (hz : xs.length < 100000)
    (k : ∀ x ws' H1, P x → Eo l H H1 → H1 l = some (MutO l ws') → rels K H1 ws' (xs ++ [x]) → u D σ H1) : tSeq (tDrop (tApp n (tCons te tNil))) u D σ H := by
  refine ⟨l, ws, hn, hl, ?_⟩
  refine h H (Ex.refl H) _ fun x v H1 p e r => ?_
  have hl1 : H1 l = some (MutO l ws) := e _ _ hl
  have o1 : Eo l H1 (upd H1 l (MutO l (ws ++ [v]))) := Eo.upd (Ex.refl _)
  refine ⟨ws, v, rfl, hl1, by rw [rels_len hr]; exact sz_lt hz, ?_⟩
  exact k x (ws ++ [v]) _ p (Eo.upd e) upd_same (rels_moY (o1.y hl1) (rels_snoc (rels_mono e hr) r))
theorem nl_app (K : PySem.W.Frag) {P : α → Prop} {l : Addr} {ws : List V} (hn : σ[n]? = some (some (.ref l))) (hl : H l = some (MutO l ws)) (hr : rels K H ws xs) (h : EN K te σ H P) (hz : xs.length < 100000)
    (k : ∀ x ws' H1, P x → Eo l H H1 → H1 l = some (MutO l ws') → rels K H1 ws' (xs ++ [x]) → D.nx σ H1) : tDrop (tApp n (tCons te tNil)) D σ H :=
  n_app (u := fun D' σ' H' => D'.nx σ' H') (D := D) K hn hl hr h hz k
theorem rels_set {vs : List V} {ys : List α} {v : V} {x : α} (h : rels K H vs ys) (r : Rep.rel K H v x) : ∀ j, rels K H (vs.set j v) (ys.set j x) := by
  induction h with
  | nil => exact fun _ => .nil
  | cons r0 hr ih =>
    intro j
    cases j with
    | zero => exact .cons r hr
    | succ j => exact .cons r0 (ih j)
/-- an item put in its place -/
theorem n_put (K : PySem.W.Frag) {P : α → Prop} {l : Addr} {ws : List V} {j : Nat} (hn : σ[n]? = some (some (.ref l))) (hl : H l = some (MutO l ws)) (hr : rels K H ws xs) (h : EN K te σ H P) (hi : ER K tl σ H i) (hj : L2.ixN xs.length i = some j)
    (k : ∀ x ws' H1, P x → Eo l H H1 → H1 l = some (MutO l ws') → rels K H1 ws' (xs.set j x) → u D σ H1) : tSeq (tAsg te (gSub (tVar n) tl rSetM)) u D σ H := by
  refine h H (Ex.refl H) _ fun x v H1 p e r => ?_
  refine ⟨.ref l, hn, ?_⟩
  refine hi H1 e _ fun vi H2 e2 r2 => ?_
  cases r2
  have hl1 : H2 l = some (MutO l ws) := e2 _ _ (e _ _ hl)
  have o1 : Eo l H2 (upd H2 l (MutO l (ws.set j v))) := Eo.upd (Ex.refl _)
  refine ⟨l, ws, i, j, rfl, rfl, hl1, by rw [rels_len hr]; exact hj, ?_⟩
  exact k x _ _ p (Eo.upd (e.trans e2)) upd_same (rels_moY (o1.y hl1) (rels_set (rels_mono (e.trans e2) hr) (Rep.mono e2 r) j))
theorem nl_put (K : PySem.W.Frag) {P : α → Prop} {l : Addr} {ws : List V} {j : Nat} (hn : σ[n]? = some (some (.ref l))) (hl : H l = some (MutO l ws)) (hr : rels K H ws xs) (h : EN K te σ H P) (hi : ER K tl σ H i) (hj : L2.ixN xs.length i = some j)
    (k : ∀ x ws' H1, P x → Eo l H H1 → H1 l = some (MutO l ws') → rels K H1 ws' (xs.set j x) → D.nx σ H1) : tAsg te (gSub (tVar n) tl rSetM) D σ H :=
  n_put (u := fun D' σ' H' => D'.nx σ' H') (D := D) K hn hl hr h hi hj k
/-- two items put in their places at once -/
theorem n_put2 (K : PySem.W.Frag) {P1 P2 : α → Prop} {l : Addr} {ws : List V} {j : Nat} {i2 : Int} {j2 m : Nat} {tl2 : TE} (hm : m = 2) (hn : σ[n]? = some (some (.ref l))) (hl : H l = some (MutO l ws)) (hr : rels K H ws xs) (h : EN K ta σ H P1) (h2 : ∀ H1, Ex H H1 → EN K tb σ H1 P2)
    (hi : ER K tl σ H i) (hj : L2.ixN xs.length i = some j) (hi2 : ∀ H1, ER K tl2 σ H1 i2) (hj2 : L2.ixN xs.length i2 = some j2)
    (k : ∀ x y ws' H1, P1 x → P2 y → Eo l H H1 → H1 l = some (MutO l ws') → rels K H1 ws' ((xs.set j x).set j2 y) → u D σ H1) : tSeq (tAsg (tTup (tCons ta (tCons tb tNil))) (gTup K m (gCons (gSub (tVar n) tl rSetM) (gCons (gSub (tVar n) tl2 rSetM) gNil)))) u D σ H := by
  subst hm
  refine h H (Ex.refl H) _ fun x v H1 p1 e1 r1 => h2 H1 e1 H1 (Ex.refl _) _ fun y w H2 p2 e2 r2 => ⟨sz_of (by show 2 ≤ 100000; decide), fun p hp => ⟨p, [v, w], rfl, st_of upd_same, rfl, v, [w], rfl, .ref l, hn, ?_⟩⟩
  have n3 := Ex.new (o := .tup [v, w]) hp
  refine hi _ ((e1.trans e2).trans n3) _ fun vi H4 e4 r4 => ?_
  cases r4
  have e04 := ((e1.trans e2).trans n3).trans e4
  have hl4 : H4 l = some (MutO l ws) := e04 _ _ hl
  refine ⟨l, ws, i, j, rfl, rfl, hl4, by rw [rels_len hr]; exact hj, w, [], rfl, .ref l, hn, ?_⟩
  have o5 : Eo l H4 (upd H4 l (MutO l (ws.set j v))) := Eo.upd (Ex.refl _)
  have rs5 := rels_moY (o5.y hl4) (rels_set (rels_mono e04 hr) (Rep.mono ((e2.trans n3).trans e4) r1) j)
  have r5 := Rep.moY (o5.y hl4) (Rep.mono (n3.trans e4) r2)
  refine hi2 _ _ (Ex.refl _) _ fun vi H6 e6 r6 => ?_
  cases r6
  have hl6 : H6 l = some (MutO l (ws.set j v)) := e6 _ _ upd_same
  have o7 : Eo l H6 (upd H6 l (MutO l ((ws.set j v).set j2 w))) := Eo.upd (Ex.refl _)
  refine ⟨l, _, i2, j2, rfl, rfl, hl6, by rw [List.length_set, rels_len hr]; exact hj2, rfl, ?_⟩
  exact k x y _ _ p1 p2 (((Eo.of e04).trans o5).trans ((Eo.of e6).trans o7)) upd_same (rels_moY (o7.y hl6) (rels_set (rels_mono e6 rs5) (Rep.mono e6 r5) j2))
theorem nl_put2 (K : PySem.W.Frag) {P1 P2 : α → Prop} {l : Addr} {ws : List V} {j : Nat} {i2 : Int} {j2 m : Nat} {tl2 : TE} (hm : m = 2) (hn : σ[n]? = some (some (.ref l))) (hl : H l = some (MutO l ws)) (hr : rels K H ws xs) (h : EN K ta σ H P1) (h2 : ∀ H1, Ex H H1 → EN K tb σ H1 P2)
    (hi : ER K tl σ H i) (hj : L2.ixN xs.length i = some j) (hi2 : ∀ H1, ER K tl2 σ H1 i2) (hj2 : L2.ixN xs.length i2 = some j2)
    (k : ∀ x y ws' H1, P1 x → P2 y → Eo l H H1 → H1 l = some (MutO l ws') → rels K H1 ws' ((xs.set j x).set j2 y) → D.nx σ H1) : tAsg (tTup (tCons ta (tCons tb tNil))) (gTup K m (gCons (gSub (tVar n) tl rSetM) (gCons (gSub (tVar n) tl2 rSetM) gNil))) D σ H :=
  n_put2 (u := fun D' σ' H' => D'.nx σ' H') (D := D) K hm hn hl hr h h2 hi hj hi2 hj2 k
/-- no more changes -/
theorem q_thaw (K : PySem.W.Frag) {l : Addr} {ws : List V} (hn : σ[n]? = some (some (.ref l))) (hl : H l = some (MutO l ws)) (hr : rels K H ws xs)
    (k : ∀ H1, Eo l H H1 → Rep.rel K H1 (.ref l) xs → u D σ H1) : tThaw n u D σ H := by
  have o1 : Eo l H (upd H l (.lst ws)) := Eo.upd (Ex.refl _)
  exact ⟨l, ws, hn, hl, k _ o1 ⟨l, ws, rfl, upd_same, rels_moY (o1.y hl) hr⟩⟩
/-- a thing and a new list at once -/
theorem n_parL2 (K : PySem.W.Frag) {ys : List β} {P1 : α → Prop} {m : Nat} {s1 s2 : V → V → L2.St} (h : EN K ta σ H P1) (h2 : ∀ H1, Ex H H1 → EL K tb σ H1 ys) (hs1 : ∀ v w, SetAt σ n v (s1 v w)) (hs2 : ∀ v w, SetAt (s1 v w) m w (s2 v w)) (g : ∀ v l, (s2 v (.ref l))[m]? = some (some (.ref l)))
    (k : ∀ x v l ws H1, P1 x → H l = none → Ex H H1 → Rep.rel K H1 v x → H1 l = some (MutO l ws) → rels K H1 ws ys → u D (s2 v (.ref l)) H1) : tSeq (tPar n m (tCons ta (tCons tb tNil))) (tClose m u) D σ H := h H (Ex.refl H) _ fun x v H1 p1 e r => h2 H1 e H1 (Ex.refl H1) _ fun l ws H2 hn e2 hl rs => ⟨v, .ref l, rfl, by
  show tClose m u D ((σ.set n (some v)).set m (some (.ref l))) H2
  rw [(hs1 v _).eq, (hs2 v _).eq]
  have e3 : Ex H1 (upd H2 l (MutO l ws)) := Ex.mut e2 hn
  exact ⟨l, ws, g v l, hl, k x v l ws _ p1 (fresh_back e hn) (e.trans e3) (Rep.mono e3 r) upd_same rs⟩⟩
theorem n_parL1 (K : PySem.W.Frag) {ys : List β} {P1 : α → Prop} {m : Nat} {s1 s2 : V → V → L2.St} (h : EL K ta σ H ys) (h2 : ∀ H1, Ex H H1 → EN K tb σ H1 P1) (hs1 : ∀ v w, SetAt σ n v (s1 v w)) (hs2 : ∀ v w, SetAt (s1 v w) m w (s2 v w)) (g : ∀ l w, (s2 (.ref l) w)[n]? = some (some (.ref l))) [ImmX α]
    (k : ∀ x w l ws H1, P1 x → H l = none → Ex H H1 → Rep.rel K H1 w x → H1 l = some (MutO l ws) → rels K H1 ws ys → u D (s2 (.ref l) w) H1) : tSeq (tPar n m (tCons ta (tCons tb tNil))) (tClose n u) D σ H := h H (Ex.refl H) _ fun l ws H1 hn e hl rs => h2 H1 e H1 (Ex.refl H1) _ fun x w H2 p1 e2 r => ⟨.ref l, w, rfl, by
  show tClose n u D ((σ.set n (some (.ref l))).set m (some w)) H2
  rw [(hs1 _ w).eq, (hs2 _ w).eq]
  have hl2 := e2 _ _ hl
  refine ⟨l, ws, g l w, hl2, k x w l ws _ p1 hn (Ex.mut (e.trans e2) hn) (ImmX.imm hl2 r) upd_same ?_⟩
  have e3 : Ex (upd H1 l (MutO l ws)) (upd H2 l (MutO l ws)) := fun a o h => by
    by_cases z : a = l
    · subst z
      rw [upd_same] at h ⊢
      exact h
    · rw [upd_ne z] at h ⊢
      exact e2 a o h
  exact rels_mono e3 rs⟩
def Fld.ds (f : Fld) : List PyData := [.int f.low, .int f.high, .int f.step, .int f.base, .str f.off, .str f.ends, .int f.big]
theorem el_listF {f : Fld} (h : ER K ta σ H f) : EL K (tCB (rListS K) (tCons ta tNil)) σ H f.ds := fun H1 e Q q => h H1 e _ fun v H2 e2 ⟨a, hv, hs⟩ => by
  subst hv
  refine ⟨a, f.vs, rfl, .inr hs, fun l hl => q l f.vs _ (fresh_back e2 hl) (e2.trans (Ex.new hl)) upd_same ?_⟩
  exact .cons (.int _) (.cons (.int _) (.cons (.int _) (.cons (.int _) (.cons (.str _) (.cons (.str _) (.cons (.int _) .nil))))))
theorem en_encP [Enc α] {P : α → Prop} (h : EN K te σ H P) : EN K te σ H (fun z : PyData => ∃ y, z = Enc.enc y ∧ P y) := fun H1 e Q q => h H1 e Q fun y v H2 p e2 r => q _ v H2 ⟨y, rfl, p⟩ e2 (Enc.dp r)
end
theorem sqT_immX {K : PySem.W.Frag} {H : Hp} {a l : Addr} {xs ws : List V} {o : HO} (hl : H l = some (.lst ws)) (h : SqT K H a xs) : SqT K (upd H l o) a xs := by
  rcases h with (h | ⟨o, h⟩) | h
  · exact .inl (.inl (by rw [upd_ne (ne_of h hl (by intro z; cases z))]; exact h))
  · exact .inl (.inr ⟨o, by rw [upd_ne (ne_of h hl (by intro z; cases z))]; exact h⟩)
  · exact .inr h
instance : ImmX Int := ⟨fun _ h => h⟩
instance : ImmX Bool := ⟨fun _ h => h⟩
instance : ImmX Str := ⟨fun _ h => h⟩
instance : ImmX Unit := ⟨fun _ h => h⟩
instance : ImmX V := ⟨fun _ h => h⟩
instance : ImmX Sg := ⟨fun _ h => h⟩
instance : ImmX Fld := ⟨fun hl ⟨a, h, hs⟩ => ⟨a, h, sqT_immX hl hs⟩⟩
instance {α β : Type} [Rep α] [Rep β] [ImmX α] [ImmX β] : ImmX (α × β) := ⟨fun hl ⟨a, v1, v2, h, hs, h1, h2⟩ => ⟨a, v1, v2, h, sqT_immX hl hs, ImmX.imm hl h1, ImmX.imm hl h2⟩⟩
instance {α β γ : Type} [Rep α] [Rep β] [Rep γ] [ImmX α] [ImmX β] [ImmX γ] : ImmX (Tri α β γ) := ⟨fun hl ⟨a, v1, v2, v3, h, hs, h1, h2, h3⟩ => ⟨a, v1, v2, v3, h, sqT_immX hl hs, ImmX.imm hl h1, ImmX.imm hl h2, ImmX.imm hl h3⟩⟩
instance {α : Type} [Rep α] [ImmX α] : ImmX (Tpl α) := ⟨fun hl ⟨a, vs, h, hs, hr⟩ => ⟨a, vs, h, sqT_immX hl hs, Paired.mapP hr fun _ _ => ImmX.imm hl⟩⟩
instance {α : Type} [Rep α] [ImmX α] : ImmX (Option α) := ⟨fun {K H v x l ws o} hl h => by
  cases x with
  | none => exact h
  | some y => exact ImmX.imm (x := y) hl h⟩
section
variable {α β : Type} [Rep α] [Rep β] {K : PySem.W.Frag} {σ σ' : L2.St} {H H' : Hp} {te tl ta tb : TE} {tA : TA} {tt : TT} {u : TS} {D : Ends} {n : Nat} {xs : List α} {i : Int}
theorem open_ex {l : Addr} {ws : List V} {H H1 : Hp} (e : Ex H H1) : Ex (upd H l (.lst ws)) (upd H1 l (.lst ws)) := fun a o h => by
  by_cases z : a = l
  · subst z
    rw [upd_same] at h ⊢
    exact h
  · rw [upd_ne z] at h ⊢
    exact e a o h
theorem open_back {l : Addr} {ws : List V} {H1 H2 : Hp} (hl : H1 l = some (MutO l ws)) (e : Ex (upd H1 l (.lst ws)) H2) : Ex H1 (upd H2 l (MutO l ws)) := fun a o h => by
  by_cases z : a = l
  · subst z
    rw [hl] at h
    rw [upd_same]
    exact h
  · rw [upd_ne z]
    exact e a o (by rw [upd_ne z]; exact h)
/-- what stands in a list that changes, as it is now -/
theorem open_rel {l : Addr} {ws : List V} (hl : H l = some (MutO l ws)) (hr : rels K H ws xs) : Rep.rel K (upd H l (.lst ws)) (.ref l) xs :=
  ⟨l, ws, rfl, upd_same, rels_moY ((Eo.upd (Ex.refl _) : Eo l H _).y hl) hr⟩
theorem open_mo {l : Addr} {ws : List V} {v : V} {x : α} (hl : H l = some (MutO l ws)) (r : Rep.rel K H v x) : Rep.rel K (upd H l (.lst ws)) v x := Rep.moY ((Eo.upd (Ex.refl _) : Eo l H _).y hl) r
theorem er_open [ImmX β] {l : Addr} {ws : List V} {y : β} (hn : σ[n]? = some (some (.ref l))) (hl : H l = some (MutO l ws)) (h : ER K te σ (upd H l (.lst ws)) y) : ER K (tOpen n te) σ H y := fun H1 e Q q =>
  ⟨l, ws, hn, e _ _ hl, h _ (open_ex e) _ fun v H2 e2 r => ⟨e2 _ _ upd_same, q v _ (open_back (e _ _ hl) e2) (ImmX.imm (e2 _ _ upd_same) r)⟩⟩
theorem en_open [ImmX β] {l : Addr} {ws : List V} {P : β → Prop} (hn : σ[n]? = some (some (.ref l))) (hl : H l = some (MutO l ws)) (h : EN K te σ (upd H l (.lst ws)) P) : EN K (tOpen n te) σ H P := fun H1 e Q q =>
  ⟨l, ws, hn, e _ _ hl, h _ (open_ex e) _ fun y v H2 p e2 r => ⟨e2 _ _ upd_same, q y v _ p (open_back (e _ _ hl) e2) (ImmX.imm (e2 _ _ upd_same) r)⟩⟩
theorem et_open {l : Addr} {ws : List V} {b : Bool} (hn : σ[n]? = some (some (.ref l))) (hl : H l = some (MutO l ws)) (h : ET K tt σ (upd H l (.lst ws)) b) : ET K (tOpenT n tt) σ H b := fun H1 e Q q =>
  ⟨l, ws, hn, e _ _ hl, h _ (open_ex e) _ fun H2 e2 => ⟨e2 _ _ upd_same, q _ (open_back (e _ _ hl) e2)⟩⟩
end
/-! ### defs that hand back a new list -/
section
variable {α β γ δ : Type} [Rep α] [Rep β] [Rep γ] [Rep δ] {K : PySem.W.Frag} {σ : L2.St} {H : Hp} {ta tb tc : TE} {E : XK} {a : α} {b : β} {c : γ}
def spL2 (K : PySem.W.Frag) (pre : α → β → Prop) (g : α → β → List δ) : Sp := fun vs H Q _ => ∃ x y a b, vs = [x, y] ∧ Rep.rel K H x a ∧ Rep.rel K H y b ∧ pre a b ∧ ∀ l ws H', H l = none → Ex H H' → H' l = some (.lst ws) → rels K H' ws (g a b) → Q (.ref l) H'
theorem er_callL2 {pre : α → β → Prop} {g : α → β → List δ} (ha : ER K ta σ H a) (hb : ER K tb σ H b) (hp : pre a b) : ER K (tCall (spL2 K pre g) [] E (tCons ta (tCons tb tNil))) σ H (g a b) := fun H1 e Q q =>
  ha H1 e _ fun v1 H2 e2 r1 => hb H2 (e.trans e2) _ fun v2 H3 e3 r2 => ⟨v1, v2, a, b, rfl, Rep.mono e3 r1, r2, hp, fun l ws H' _ e' hl rs => q (.ref l) H' ((e2.trans e3).trans e') ⟨l, ws, rfl, hl, rs⟩⟩
theorem el_callL2 [ImmX δ] {pre : α → β → Prop} {g : α → β → List δ} (ha : ER K ta σ H a) (hb : ER K tb σ H b) (hp : pre a b) : EL K (tCall (spL2 K pre g) [] E (tCons ta (tCons tb tNil))) σ H (g a b) := fun H1 e Q q =>
  ha H1 e _ fun v1 H2 e2 r1 => hb H2 (e.trans e2) _ fun v2 H3 e3 r2 => ⟨v1, v2, a, b, rfl, Rep.mono e3 r1, r2, hp, fun l ws H' hn e' hl rs => q l ws H' (fresh_back (e2.trans e3) hn) ((e2.trans e3).trans e') hl (Paired.mapP rs fun _ _ => ImmX.imm hl)⟩
variable {P : Program} {w : World} {mg : Str → Option Value} {base : Heap} {x qual : Str} {params : Arguments} {body : List Stmt} {scope : Scope} {dvs : List V} {kws : List (Str × V)} {f : Addr} {fd : FuncData} {N ps : List Str} {k : Nat} {CX : CXT}
theorem okL2 {pre : α → β → Prop} {g : α → β → List δ} (F : FunD K x qual params body scope dvs kws f fd) (S : FnScope N ps scope) (hl : ps.length = 2) (σ0 : V → V → L2.St) (h0 : ∀ x y, start N [x, y] = σ0 x y)
    (h : ∀ (H : Hp) (Q : VK) (x y : V) (a : α) (b : β), Rep.rel K H x a → Rep.rel K H y b → pre a b → (∀ l ws H', H l = none → Ex H H' → H' l = some (.lst ws) → rels K H' ws (g a b) → Q (.ref l) H') → Body CX P w K mg base k f N qual scope body H Q (σ0 x y)) : FnOk P w K mg base CX (k + 1) f fd ps (spL2 K pre g) := by
  refine F.ok S (fun vs H Q E hs => ?_) (fun cdv A outer s H vs Q E hr hs => ?_)
  · obtain ⟨x, y, a, b, rfl, _⟩ := hs
    exact hl.symm
  · obtain ⟨x, y, a, b, rfl, h1, h2, hp, q⟩ := hs
    rw [h0]
    exact h H Q x y a b h1 h2 hp q cdv A outer s E hr
end
section
variable {α β : Type} [Rep α] [Rep β] {K : PySem.W.Frag} {σ : L2.St} {H : Hp} {te : TE} {u : TS} {D : Ends} {n : Nat} {xs : List α}
/-- a new list in a slot, as others -/
theorem q_setN (K : PySem.W.Frag) {s' : V → L2.St} (h : EL K te σ H xs) (s : ∀ v, SetAt σ n v (s' v)) (k : ∀ l H1, H l = none → Ex H H1 → Rep.rel K H1 (.ref l) xs → u D (s' (.ref l)) H1) : tSeq (tAsg te (gName n)) u D σ H :=
  h H (Ex.refl H) _ fun l ws H1 hn e hl rs => by
    show u D (σ.set n (some (.ref l))) H1
    rw [(s _).eq]
    have o1 : Eo l (upd H1 l (MutO l ws)) H1 := fun a o ne h => by
      rw [upd_ne ne] at h
      exact h
    exact k l H1 hn e ⟨l, ws, rfl, hl, rels_moY (o1.y upd_same) rs⟩
theorem l_setN (K : PySem.W.Frag) {s' : V → L2.St} (h : EL K te σ H xs) (s : ∀ v, SetAt σ n v (s' v)) (k : ∀ l H1, H l = none → Ex H H1 → Rep.rel K H1 (.ref l) xs → D.nx (s' (.ref l)) H1) : tAsg te (gName n) D σ H :=
  q_setN (u := fun D' σ' H' => D'.nx σ' H') (D := D) K h s k
/-- anything put at the end of a list that is of no more use -/
theorem q_appX (K : PySem.W.Frag) {l : Addr} {ws : List V} {x : β} (hn : σ[n]? = some (some (.ref l))) (hl : H l = some (MutO l ws)) (hr : rels K H ws xs) (h : ER K te σ H x) (hz : xs.length < 100000)
    (k : ∀ ws' H1, Eo l H H1 → H1 l = some (MutO l ws') → u D σ H1) : tSeq (tDrop (tApp n (tCons te tNil))) u D σ H := by
  refine ⟨l, ws, hn, hl, ?_⟩
  refine h H (Ex.refl H) _ fun v H1 e r => ?_
  refine ⟨ws, v, rfl, e _ _ hl, by rw [rels_len hr]; exact sz_lt hz, ?_⟩
  exact k (ws ++ [v]) _ (Eo.upd e) upd_same
theorem el_lc0 : EL (α := α) K (tLst tNil) σ H [] := el_lst eas_nil (Nat.zero_le _)
end
end Sf

namespace Sf
open PySem PySem.Spec PyProof.Rows L2 Evl
/-! ### sorted(set(ints)), any number of them -/
abbrev ob0 (w : World) : Obj := { cls := .type "set", dict := none, data := .set #[] 0 (.fresh 0 0 (!w.params.followText "set-order")) }
abbrev hp0 (w : World) (s : Shared) : Heap := s.heap.push (ob0 w)
section
variable {P : Program} {w : World} {A : Around} {E : Value → Shared → Prop} {s : Shared}
/-- what set(list) leaves -/
abbrev Gath (w : World) (s : Shared) (ns : List Int) (h' : Heap) : Prop := (∃ c, c ≤ ns.length ∧ SetR w h' s.heap.objs.size (fun j => decide (j ∈ ns)) c) ∧ ∀ b o, s.heap.get? b = some o → h'.get? b = some o
theorem set_ofL {l : Addr} {items : Array Value} (ns : List Int) {Q : Value → Shared → Prop} (hn : A.handled = none) (hl : s.heap.IsList l items) (hi : IntsAre items.toList ns) (hb : ns.length + 1 < scanBound)
    (k : ∀ h' tk, Gath w s ns h' → Q (.ref s.heap.objs.size) { s with heap := h', toks := tk }) : wpAny (model P w) A (call (.type "set") [.ref l]) Q E s := by
  have hsz : items.size = ns.length := (Array.length_toList (xs := items)).symm.trans (IntsAre.length hi)
  obtain ⟨_, _, mro⟩ := F.called_set.mro
  have a1 := F.called_set.made
  have a2 := F.called_set.sub
  have a3 := F.called_set.notType
  have a4 := F.called_set.canCreate
  have a5 := F.typeCall_set_1 (.ref l)
  refine wpAny_call (codeAny_of_tree ?_)
  show wpAny _ _ (callAny (.type "set") _) _ _ _
  refine wpAny_pure ⟨Code.quiet_builtin _ (by decide +kernel), codeAny_builtin F.entry_type_call ?_⟩
  rw [Around.under_plain (weight_type_call_type "set" ([.ref l] : List Value) []) rfl]
  repeat (any_goals (first | assumption | wp_step))
  refine codeAny_mono (code_set_led1 (.ref l) (E := E) (Q₁ := fun obj s1 => obj = .ref s.heap.objs.size ∧ s1 = { s with heap := hp0 w s }) ⟨rfl, rfl⟩) fun r s1 hr => ?_
  match r, hr with
  | .error e, hr => exact hr
  | .ok (.ret obj), hr =>
    obtain ⟨rfl, rfl⟩ := hr
    have g0 : (hp0 w s).get? s.heap.objs.size = some (ob0 w) := Heap.get?_push_size _ rfl
    have ty : Shared.TypeIs { s with heap := hp0 w s } (.ref s.heap.objs.size) "set" := ⟨_, g0, rfl⟩
    have b1 := F.called_set.init.lookup
    have b2 := F.called_set.init.bind (.ref s.heap.objs.size)
    repeat (any_goals (first | assumption | wp_step))
    refine codeAny_mono (codeAny_call_builtin (R := wants (fun r s2 => r = .none ∧ ∃ h' tk, s2 = { s with heap := h', toks := tk } ∧ Gath w s ns h') E) F.called_set.init.plain F.entry_set_init (check_set_init_1 ty ?_)) fun r2 s2 hr2 => ?_
    · obtain ⟨⟨oc, od, oda, osl⟩, ho, hc, m, hd⟩ := hl
      simp only at hc hd
      subst hc hd
      have ho' : (hp0 w s).get? l = some { cls := .type "list", dict := od, data := .seq items m, slots := osl } := Heap.get?_push_of_some _ ho
      have c1 := F.sub_list_set
      have c2 := F.sub_list_frozenset
      have c3 : (Value.type "list" == Value.type "dict") = false := by decide
      have il : (hp0 w s).IsList l items := ⟨_, ho', rfl, m, rfl⟩
      unfold Builtin.«set.__init__» noKeywords Builtin.Frozenset.updateFrom
      generalize hp : pyIter = ITER
      wp_walk
      subst hp
      refine wpAny_pyIter_list il (wpAny_bind (wpAny_runValue ?_))
      have lt0 : l < s.heap.objs.size := Heap.lt_size ho
      have sz0 : (hp0 w s).objs.size = s.heap.objs.size + 1 := Heap.size_push ..
      have n1 : l ≠ (hp0 w s).objs.size := by
        rw [sz0]
        exact Nat.ne_of_lt (Nat.lt_succ_of_lt lt0)
      have n2 : s.heap.objs.size ∉ [(hp0 w s).objs.size, l] := by
        rw [sz0, List.mem_cons, List.mem_singleton, not_or]
        exact ⟨Nat.ne_of_lt (Nat.lt_succ_self _), Nat.ne_of_gt lt0⟩
      have val : ∀ (i : Nat) (v : Value), items[i]? = some v → ∃ z t, ns[i]? = some z ∧ v = .int z t := fun i v hv => by
        obtain ⟨t, e⟩ := IntsAre.int_at hi i v (by rw [Array.getElem?_toList]; exact hv)
        have li : i < ns.length := hsz ▸ (Array.getElem?_eq_some_iff.mp hv).1
        rw [List.getD_eq_getElem?_getD, List.getElem?_eq_getElem li] at e
        exact ⟨_, t, List.getElem?_eq_getElem li, e⟩
      have w0 : A.in1.in1.in1.handled = none := by simp [hn]
      refine set_update_ints ((Walks.list w0 _ l n1 items).toS) s.heap.objs.size n2 ns hsz hb val (items.size - 0) 0 _ (by omega) (Nat.zero_le _) ⟨⟨_, Heap.get?_push_size _ rfl, rfl, rfl⟩, il.push _⟩ ⟨0, Nat.le_refl 0, setR_new_at (Heap.get?_push_of_some _ g0)⟩ ?_
      rintro ⟨h', gn, dr, tk', os'⟩ c mv hc hS
      have eg : gn = s.gens := mv.gens
      have ed : dr = s.drawn := mv.drawn
      have eo : os' = s.os := mv.os
      subst eg ed eo
      show wpAny _ _ _ _ _ _
      refine wpAny_pure ?_
      show wpAny _ _ (ret Value.none) _ _ _
      refine wpAny_pure ⟨rfl, h', tk', rfl, ⟨c, by omega, hS⟩, fun b o e => ?_⟩
      have lb : b < s.heap.objs.size := Heap.lt_size e
      refine mv.heap b o ?_ (Heap.get?_push_of_some _ (Heap.get?_push_of_some _ e))
      rw [List.mem_cons, List.mem_singleton, sz0, not_or]
      exact ⟨Nat.ne_of_lt lb, Nat.ne_of_lt (Nat.lt_succ_of_lt lb)⟩
    · match r2, hr2 with
      | .error e, hr2 => exact hr2
      | .ok (.ret r), hr2 =>
        obtain ⟨rfl, h', tk, rfl, hG⟩ := hr2
        repeat (any_goals (first | assumption | wp_step))
        exact k _ _ hG
/-- the members of a set, sorted -/
theorem sort_ofS {a : Addr} {S : Int → Bool} {n : Nat} {Q : Value → Shared → Prop} (R : SetR w s.heap a S n) (hn : A.handled = none) (hz : n ≤ sizeLine)
    (k : ∀ s' p out c ns, (∀ b o, s.heap.get? b = some o → s'.heap.get? b = some o) → s'.gens = s.gens → s'.os = s.os → s.heap.objs.size ≤ p → s'.heap.get? p = some (seqObj "list" out c) →
      IntsAre out.toList ns → ns.Pairwise (· < ·) → (∀ z, z ∈ ns ↔ S z = true) → Q (.ref p) s') : wpAny (model P w) A (call (.builtin "sorted") [.ref a]) Q E s := by
  obtain ⟨o, es, ep, t, ho, hx, hd, good, nodup, mem, hb, fits, size, ris, led⟩ := R
  refine Calls.call_function_entry kind_sorted plain_sorted entry_sorted (args_sorted1 _) ?_
  unfold Builtin.«sorted»
  refine wpAny_bind (m := checkCount "sorted" 1 1 _) (wpAny_pure (wpAny_bind (collect_set (A := A.in1) hn ⟨o, ho, hx.1, hd⟩ fits hb ris led fun s1 vs keep grow gens os perm => ?_)))
  have lv : vs.length = n := (perm.length_eq.trans (List.length_map ..)).trans (Array.length_toList.trans size)
  have iv : ∀ v ∈ vs, ∃ i t, v = Value.int i t := fun v hv => by
    obtain ⟨e, he, q⟩ := List.mem_map.mp (perm.mem_iff.mp hv)
    obtain ⟨z, tk, h1, _⟩ := good e he
    exact ⟨z, tk, q ▸ h1⟩
  have hI := SrtO.ints_iv iv
  have pk : (vs.map SrtO.iv).Perm (es.toList.map keyOf) := by
    have q := perm.map SrtO.iv
    rw [List.map_map] at q
    refine q.trans (List.Perm.of_eq (List.map_congr_left fun e he => ?_))
    obtain ⟨z, tk, h1, _⟩ := good e he
    show SrtO.iv e.2 = keyOf e
    unfold keyOf
    rw [h1]
    rfl
  refine wpAny_bind (wpAny_newList ?_ (by rw [lv]; exact hz))
  have oL : (s1.heap.push (seqObj "list" vs.toArray 0)).get? s1.heap.objs.size = some (seqObj "list" vs.toArray 0) := Heap.get?_push_size _ rfl
  refine wpAny_bind (wpAny_holding (wpAny_call_entry slot_list_sort ⟨_, oL, rfl⟩ entry_list_sort (SrtO.list_sort_ord SrtO.swo_int oL (by rw [lv]; exact hz) (fun h2 => SrtO.ints_sortable hI h2) fun out h1 h2 => ⟨_, rfl, ?_⟩) (args_list_sort _)))
  obtain ⟨k1, k2, k3⟩ := SrtO.ints_out hI h1 h2
  obtain ⟨c, hc⟩ := sortedHeap_at (vs := vs) (out := out.toArray) oL
  have pn := k2.trans pk
  refine wpAny_pure ⟨_, rfl, k _ s1.heap.objs.size out.toArray c _ (fun b u e => ?_) gens os grow hc k1 (lt_of_le_nodup _ k3 (pn.nodup_iff.mpr nodup)) fun z => by rw [pn.mem_iff, ← mem z]⟩
  have lb := Heap.lt_size (keep b u e)
  show (sortedHeap (s1.heap.push (seqObj "list" vs.toArray 0)) s1.heap.objs.size vs out.toArray).get? b = some u
  rw [sortedHeap_old (Nat.ne_of_lt lb) (by rw [size_push']; exact Nat.lt_succ_of_lt lb)]
  exact Heap.get?_push_of_some _ (keep b u e)
end
/-- the ints of a list, each once, from the least on -/
def insU (x : Int) : List Int → List Int
  | [] => [x]
  | y :: r => if x < y then x :: y :: r else if x = y then y :: r else y :: insU x r
def sortU (xs : List Int) : List Int := xs.foldr insU []
theorem insU_mem {x z : Int} : ∀ {l : List Int}, z ∈ insU x l ↔ z = x ∨ z ∈ l
  | [] => by simp [insU]
  | y :: r => by
    unfold insU
    split
    · simp
    · split
      · next h => subst h; simp
      · rw [List.mem_cons, insU_mem (l := r), List.mem_cons]
        constructor
        · rintro (h | h | h)
          · exact .inr (.inl h)
          · exact .inl h
          · exact .inr (.inr h)
        · rintro (h | h | h)
          · exact .inr (.inl h)
          · exact .inl h
          · exact .inr (.inr h)
theorem insU_pw {x : Int} : ∀ {l : List Int}, l.Pairwise (· < ·) → (insU x l).Pairwise (· < ·)
  | [], _ => by simp [insU]
  | y :: r, h => by
    obtain ⟨h1, h2⟩ := List.pairwise_cons.mp h
    unfold insU
    split
    · next c =>
      refine List.pairwise_cons.mpr ⟨fun z hz => ?_, h⟩
      rcases List.mem_cons.mp hz with e | e
      · omega
      · have := h1 z e
        omega
    · split
      · exact h
      · refine List.pairwise_cons.mpr ⟨fun z hz => ?_, insU_pw h2⟩
        rcases insU_mem.mp hz with e | e
        · omega
        · exact h1 z e
theorem sortU_mem {z : Int} : ∀ {xs : List Int}, z ∈ sortU xs ↔ z ∈ xs
  | [] => Iff.rfl
  | x :: r => by
    show z ∈ insU x (sortU r) ↔ _
    rw [insU_mem, sortU_mem (xs := r), List.mem_cons]
theorem sortU_pw : ∀ {xs : List Int}, (sortU xs).Pairwise (· < ·)
  | [] => .nil
  | x :: r => insU_pw (sortU_pw (xs := r))
/-- strictly rising lists with the same members are one -/
theorem pw_eq : ∀ {a b : List Int}, a.Pairwise (· < ·) → b.Pairwise (· < ·) → (∀ z, z ∈ a ↔ z ∈ b) → a = b
  | [], [], _, _, _ => rfl
  | [], y :: b, _, _, h => nomatch (h y).mpr (List.mem_cons_self ..)
  | x :: a, [], _, _, h => nomatch (h x).mp (List.mem_cons_self ..)
  | x :: a, y :: b, ha, hb, h => by
    obtain ⟨a1, a2⟩ := List.pairwise_cons.mp ha
    obtain ⟨b1, b2⟩ := List.pairwise_cons.mp hb
    have e : x = y := by
      rcases List.mem_cons.mp ((h x).mp (List.mem_cons_self ..)) with e | e
      · exact e
      · rcases List.mem_cons.mp ((h y).mpr (List.mem_cons_self ..)) with e2 | e2
        · exact e2.symm
        · have := b1 x e
          have := a1 y e2
          omega
    subst e
    rw [pw_eq a2 b2 fun z => ⟨fun hz => ?_, fun hz => ?_⟩]
    · rcases List.mem_cons.mp ((h z).mp (List.mem_cons_of_mem _ hz)) with e | e
      · have := a1 z hz
        omega
      · exact e
    · rcases List.mem_cons.mp ((h z).mpr (List.mem_cons_of_mem _ hz)) with e | e
      · have := b1 z hz
        omega
      · exact e
theorem sortU_congr {a b : List Int} (h : ∀ z, z ∈ a ↔ z ∈ b) : sortU a = sortU b := pw_eq sortU_pw sortU_pw fun z => by rw [sortU_mem, sortU_mem, h z]
/-! sorted(set(x)) as one expression -/
def tSortSet (K : PySem.W.Frag) (ta : TE) : TE := fun σ H Q => ta σ H fun x H1 => ∃ (l : Addr) (ns : List Int), x = .ref l ∧ SqL K H1 l (ns.map V.int) ∧ ns.length ≤ 4000 ∧ ∀ p, H1 p = none → Q (.ref p) (upd H1 p (.lst ((sortU ns).map V.int)))
theorem sortU_len {xs : List Int} : (sortU xs).length ≤ xs.length := by
  have h : ∀ (x : Int) (l : List Int), (insU x l).length ≤ l.length + 1 := by
    intro x l
    induction l with
    | nil => exact Nat.le_refl _
    | cons y r ih =>
      unfold insU
      split
      · exact Nat.le_refl _
      · split
        · exact Nat.le_succ _
        · exact Nat.succ_le_succ ih
  induction xs with
  | nil => exact Nat.le_refl _
  | cons x r ih => exact Nat.le_trans (h x (sortU r)) (Nat.succ_le_succ ih)
theorem pe_sortSet {X : Cx} {a : Expr} {ta : TE} {p p2 q pos : Pos} (hg : Gl X "sorted") (hm : X.mg "sorted" = none) (hg2 : Gl X "set") (hm2 : X.mg "set" = none) (ha : PE X a ta) (hc : X.calm = true := by rfl)
    (na : starEach [a] X.env = (false, eval a X.env) :: starEach [] X.env := by rfl) : PE X (.Call (.Name "sorted" p) [.Call (.Name "set" p2) [a] [] q] [] pos) (tSortSet X.K ta) := by
  refine ⟨fun pins s σ H Q I h => ?_⟩
  refine Call_ (ld_blt I hg hm (u := .builtin "sorted") (by decide +kernel) (PyProof.Rows.callWith_builtin1 (PyProof.Rows.args_cons ?_ rfl) rfl rfl))
  refine Call_ (ld_blt I hg2 hm2 boot_set (PyProof.Rows.callWith_type1 (PyProof.Rows.args_cons (thn (ha.run pins s σ H _ I h) fun v s1 ⟨x, H1, I1, r1, q1⟩ => PyProof.Rows.args_nil ?_) na) na rfl))
  obtain ⟨l, ns, rfl, hq, hl, q1⟩ := q1
  cases r1
  obtain ⟨its, r, pl, hz⟩ := I1.list hq
  refine set_ofL ns (I1.ok.hd hc) pl.isList (by simpa using RZ.intsAre_vals r) (by unfold scanBound; omega) fun h' tk ⟨⟨c, hc2, hS⟩, keep⟩ => PyProof.Rows.args_nil ?_
  have I2 : Inv X pins σ H1 { s1 with heap := h', toks := tk } := I1.kept keep
  refine sort_ofS hS (I1.ok.hd hc) (by rw [sizeLine_eq]; omega) fun s' b out c' ms k g o hp hob hi hpw hmem => ?_
  have em : ms = sortU ns := pw_eq hpw sortU_pw fun z => by rw [hmem z, sortU_mem, decide_eq_true_eq]
  subst em
  have hn : H1 b = none := I2.hok.fresh hp
  have new : ObjOk X.prog X.w (upd H1 b (.lst ((sortU ns).map V.int))) s'.heap b (.lst ((sortU ns).map V.int)) :=
    ⟨by rw [List.length_map]; have := sortU_len (xs := ns); exact sz_of (by omega), out.toList, c', vals_of_ints hi, by rw [hob]⟩
  have I3 := I2.call' (s' := s') (ch := []) o (Un.laid k hp hn) (I2.hok.laid k hp new) (by rw [g]; exact I2.bare) (fun _ z => nomatch z)
  exact ⟨.ref b, _, I3, rfl, q1 b hn⟩
theorem er_sortSet {K : PySem.W.Frag} {σ : L2.St} {H : Hp} {ta : TE} {xs : List Int} (h : ER K ta σ H xs) (hl : xs.length ≤ 4000) : ER K (tSortSet K ta) σ H (sortU xs) := fun H1 e Q q => h H1 e _ fun v H2 e2 ⟨a, vs, hv, hs, hr⟩ => by
  have hi := rels_ints hr
  subst hi
  exact ⟨a, xs, hv, sq_of hs, hl, fun p hp => q _ _ (e2.trans (Ex.new hp)) ⟨p, _, rfl, upd_same, ints_rels⟩⟩
end Sf

namespace Sf
open PySem PySem.Spec PyProof.Rows L2 Evl
/-! ### enumerate(tuple) -/
abbrev eob (N : Addr) : Obj := { cls := .type "enumerate", data := .fields #[.none, .bool false, .ref N, rawInt 0, .none, .none] }
theorem enum1_new {v : Value} {o : Obj} {G : Heap → Prop} (B : Begins v o G) : Meets (Builtin.«enumerate.__new__» ⟨[.type "enumerate", v], []⟩) (fun _ R s => G s.heap ∧ R (.ok (.ret (.ref (s.heap.push o).objs.size))) { s with heap := (s.heap.push o).push (eob s.heap.objs.size) }) := .of_wp fun prog w A R s ⟨g, h⟩ => by
  obtain ⟨hp, gn, dr, tk, os⟩ := s
  have sub := sub_enumerate
  have it : ∀ {A' : Around} {E : Value → Shared → Prop} {Q : Value → Shared → Prop}, Q (.ref hp.objs.size) ⟨hp.push o, gn, dr, tk, os⟩ → wpAny (model prog w) A' (pyIter v) Q E ⟨hp, gn, dr, tk, os⟩ := fun q => B.iter prog w _ _ _ _ g q
  wp_walk using it
  refine wpAny_stack_any fun st => wpAny_pure ?_
  split
  · rename_i c _ _ _ _ _
    by_cases hc : (c == Value.type "enumerate") = true
    · simp only [hc]
      wp_walk using it
      exact ⟨_, rfl, h⟩
    · simp only [Bool.not_eq_true] at hc
      simp only [hc]
      wp_walk using it
      exact ⟨_, rfl, h⟩
  · wp_walk using it
    exact ⟨_, rfl, h⟩
theorem enum1_call {prog : Program} {w : World} {A : Around} {E : Value → Shared → Prop} {s : Shared} {v : Value} {o : Obj} {G : Heap → Prop} {Q : Value → Shared → Prop} (B : Begins v o G) (g : G s.heap)
    (k : ∀ h', IsEnum h' (s.heap.objs.size + 1) s.heap.objs.size 0 .none → h'.get? s.heap.objs.size = some o → (∀ b u, s.heap.get? b = some u → h'.get? b = some u) → Q (.ref (s.heap.objs.size + 1)) { s with heap := h' }) :
    wpAny (model prog w) A (call (.type "enumerate") [v]) Q E s := by
  refine callType_new F.called_enumerate (by decide) (F.typeCall_enumerate_1 _) (F.newCall_enumerate_1 _) (fun obj => F.args_object_init_2 obj _) F.entry_enumerate_new (enum1_new B) ⟨g, ?_⟩
  have sz : (s.heap.push o).objs.size = s.heap.objs.size + 1 := Heap.size_push ..
  rw [sz]
  have he : IsEnum ((s.heap.push o).push (eob s.heap.objs.size)) (s.heap.objs.size + 1) s.heap.objs.size 0 .none := by
    rw [← sz]
    exact Heap.get?_push_size (s.heap.push o) rfl
  exact ⟨⟨_, he, rfl⟩, k _ he (Heap.get?_push_of_some _ (Heap.get?_push_size _ B.free)) fun b u q => Heap.get?_push_of_some _ (Heap.get?_push_of_some _ q)⟩
/-- the tuple at a, each item in a new pair behind its place -/
def IteT (K : PySem.W.Frag) (a : Addr) (xs : List V) : It where
  go := fun i H => SqT K H a xs ∧ i < xs.length
  yld := fun i H v H' => ∃ T x, v = .ref T ∧ H T = none ∧ H' = upd H T (.tup [.int (i : Nat), x]) ∧ xs[i]? = some x
  stop := fun i H => SqT K H a xs ∧ xs.length ≤ i
theorem tupIt_ne {h : Heap} {a it : Addr} {i : Nat} {its : Array Value} (hit : h.IsTupleIter it a i) (ht : h.IsTuple a its) : a ≠ it := fun z => by
  obtain ⟨o, q, c, _⟩ := hit
  obtain ⟨o', q', c', _⟩ := ht
  rw [z, q] at q'
  cases q'
  rw [c] at c'
  exact absurd c' (by decide)
theorem tupEn_ne {h : Heap} {a e it : Addr} {i : Int} {old : Value} {its : Array Value} (he : IsEnum h e it i old) (ht : h.IsTuple a its) : a ≠ e := fun z => by
  obtain ⟨o', q', c', _⟩ := ht
  rw [z] at q'
  have q2 : h.get? e = some _ := he
  rw [q'] at q2
  cases q2
  exact absurd (show Value.type "enumerate" = Value.type "tuple" from c') (by decide)
theorem turn_enumT {P : Program} {w : World} {K : PySem.W.Frag} {elts : List Expr} {kk : Nat} {tpos : Pos} (a e it : Addr) (xs : List V) : Turn P w K (.Tuple elts kk tpos) (IteT K a xs) [e, it] e (fun i h => (∃ old, IsEnum h e it ((i : Nat) : Int) old) ∧ h.IsTupleIter it a i ∧ e ≠ it ∧ i ≤ xs.length) := by
  refine ⟨by simp, ?_, ?_, ?_, ?_, ?_⟩
  · rintro i h ⟨⟨old, he⟩, ⟨o, ho, hc, hd⟩, _⟩ b hb
    rcases List.mem_cons.mp hb with z | z
    · rw [z]
      exact ⟨_, he, fun v q => nomatch q⟩
    · rw [List.mem_singleton.mp z]
      exact ⟨o, ho, fun v q => by rw [hd] at q; cases q⟩
  · rintro i h h' ⟨⟨old, he⟩, hi, hne⟩ k
    exact ⟨⟨old, k e (by simp) _ he⟩, hi.at fun o q => k it (by simp) o q, hne⟩
  · intro X hP hw hK hc i pins s σ H E I hf ⟨⟨old, he⟩, hit, hne, hle⟩ ⟨hq, hlt⟩
    subst hP hw hK
    obtain ⟨its, rv, p, hz⟩ := I.tuple hq
    obtain ⟨u, hu, ru⟩ := rv.get (List.getElem?_eq_getElem hlt)
    have ht : s.heap.IsTuple a its.toArray := p
    have elt : e < s.heap.objs.size := Heap.lt_size he
    have ilt : it < s.heap.objs.size := by
      obtain ⟨_, q, _⟩ := hit
      exact Heap.lt_size q
    have ane := tupIt_ne hit ht
    have ane2 := tupEn_ne he ht
    have il : i < its.toArray.size := by
      rw [List.size_toArray, ← rv.length]
      exact hlt
    refine wpAny_pyNext_enum_itemD (Draws.tuple (by simpa using I.ok.hd hc) it a ane its.toArray) he ⟨hit, ht⟩ il hne (by simp [hne, Ne.symm ane2]) fun y h' tk hy ho hst hT hsz hk => ?_
    have ey : y = u := by
      rw [List.getElem?_toArray, hu] at hy
      exact (Option.some.inj hy).symm
    subst ey
    refine ⟨_, rfl, wpAny_letOwnedTupleGo_enum (s := { s with heap := h', toks := tk + 1 }) ho fun h2 he2 sb => ?_⟩
    have hT2 : h2.get? s.heap.objs.size = some { cls := .type "tuple", data := .seq #[.int i tk, y] } := (sb.2 _ (Nat.ne_of_gt elt)).trans hT
    have new : ObjOk X.prog X.w (upd H s.heap.objs.size (.tup [.int (i : Nat), xs[i]])) h2 s.heap.objs.size (.tup [.int (i : Nat), xs[i]]) :=
      ⟨by show 2 ≤ sizeLine; decide, [.int i tk, y], .cons ⟨_, rfl⟩ (.cons ru .nil), ⟨_, hT2, rfl, _, rfl⟩⟩
    have I1 : Inv X pins σ (upd H s.heap.objs.size (.tup [.int (i : Nat), xs[i]])) { s with heap := h2, toks := tk + 1 } :=
      I.turnedNew (ch := [e, it]) (fun b ob hb q => (sb.2 b (fun z => hb (by rw [z]; exact List.mem_cons_self ..))).trans (hk b ob (fun z => hb (by rw [z]; exact List.mem_cons_self ..)) (fun z => hb (by rw [z]; exact List.mem_cons_of_mem _ (List.mem_cons_self ..))) q)) hf (Nat.le_refl _) new
    refine ⟨.ref s.heap.objs.size, _, I1, rfl, ⟨_, xs[i], rfl, I.hok.fresh (Nat.le_refl _), rfl, List.getElem?_eq_getElem hlt⟩, ⟨⟨y, by rw [show ((i + 1 : Nat) : Int) = (i : Int) + 1 by omega]; exact he2⟩, hst.1.at fun o q => (sb.2 it (Ne.symm hne)).trans q, hne, hlt⟩, fun b hb => ?_⟩
    have lb : b < s.heap.objs.size := by
      rcases List.mem_cons.mp hb with z | z
      · rw [z]; exact elt
      · rw [List.mem_singleton.mp z]; exact ilt
    rw [upd_ne (Nat.ne_of_lt lb)]
    exact (hf b hb).1
  · intro X hP hw hK hc i pins s σ H E I hf ⟨⟨old, he⟩, hit, hne, hle⟩ ⟨hq, hlt⟩
    subst hP hw hK
    obtain ⟨its, rv, p, hz⟩ := I.tuple hq
    have ht : s.heap.IsTuple a its.toArray := p
    have ei : i = its.toArray.size := by
      rw [List.size_toArray, ← rv.length]
      omega
    subst ei
    obtain ⟨f0, f1, f2, f3, f4, f5⟩ := hf it (by simp)
    exact wpAny_pyNext_enum_endD (Draws.tuple (by simpa using I.ok.hd hc) it a (tupIt_ne hit ht) its.toArray) he ⟨hit, ht⟩ fun h' eb => ⟨rfl, I.turned (t' := s.toks) (fun b o hb q => eb b o hb q) f0 f1 f3 f4 f5⟩
  · intro A i s Q E ⟨⟨old, he⟩, _⟩ h
    exact wpAny_pyIter_enum he h
def iEnumT (K : PySem.W.Frag) (ta : TA) : TI := fun σ H R => ta σ H fun vs H1 => ∃ a xs, vs = [.ref a] ∧ SqT K H1 a xs ∧ R (IteT K a xs) H1
theorem pi_enumT {X : Cx} {e : Expr} {ta : TA} {p pos tpos : Pos} {elts : List Expr} {kk : Nat} (hg : Gl X "enumerate") (hm : X.mg "enumerate" = none) (ha : PA X [e] ta) (hs : starEach [e] X.env = [(false, eval e X.env)] := by rfl) :
    PI X (.Tuple elts kk tpos) (.Call (.Name "enumerate" p) [e] [] pos) (iEnumT X.K ta) := by
  refine ⟨fun pins s σ H R I h => Call_ (ld_blt I hg hm boot_enumerate (PyProof.Rows.callWith_type1 (thn (ha.run pos pins s σ H _ I h) fun us s1 ⟨vs, H1, I1, r1, a, xs, ex, hq, q⟩ => ?_) hs rfl))⟩
  subst ex
  obtain ⟨u, eu, ru⟩ := r1.one
  subst eu
  cases ru
  obtain ⟨its, rv, p', hz⟩ := I1.tuple hq
  have ht : s1.heap.IsTuple a its.toArray := p'
  refine enum1_call (begins_tuple a its.toArray) ht fun h' he hit hk => wpAny_pyIter_enum he ?_
  have I2 : Inv X pins σ H1 { s1 with heap := h' } := I1.kept (t' := s1.toks) hk
  refine ⟨s1.heap.objs.size + 1, [s1.heap.objs.size + 1, s1.heap.objs.size], _, _, H1, rfl, I2, turn_enumT a (s1.heap.objs.size + 1) s1.heap.objs.size xs, ⟨⟨.none, he⟩, ⟨_, hit, rfl, rfl⟩, Nat.succ_ne_self _, Nat.zero_le _⟩, fun b hb => ?_, q⟩
  have hle : s1.heap.objs.size ≤ b := by
    rcases List.mem_cons.mp hb with z | z
    · rw [z]; exact Nat.le_succ _
    · rw [List.mem_singleton.mp z]; exact Nat.le_refl _
  exact I1.fpOk hle (I1.hok.fresh hle)
section
variable {α β γ : Type} [Rep α] [Rep β] [Rep γ] {K : PySem.W.Frag} {σ : L2.St} {H : Hp} {ta : TE}
theorem wk_enumT {xs : List α} (h : ER K ta σ H (Tpl.mk xs)) : Wk K (iEnumT K (tCons ta tNil)) σ H (enum xs) := fun H1 e R k => h H1 e _ fun v H2 e2 ⟨a, vs, hv, hs, hr⟩ => by
  subst hv
  have hl : (enum xs).length = vs.length := by simp [enum, rels_len hr]
  refine ⟨a, vs, rfl, hs, k _ H2 (fun H => SqT K H a vs) (fun i H v H' => ∃ T x, v = .ref T ∧ H T = none ∧ H' = upd H T (.tup [.int (i : Nat), x]) ∧ vs[i]? = some x) e2 ⟨fun i H hi g => ⟨g, by omega⟩, fun H g => ⟨g, by omega⟩, fun i H x H' hi g y => y⟩ (fun H3 e3 => ey_t e3 hs) fun i Ha v Hb hi ea y => ?_⟩
  obtain ⟨T, x1, rfl, hT, rfl, h2⟩ := y
  obtain ⟨x, h3, h4⟩ := rels_get hr h2
  have n := Ex.new (o := .tup [.int (i : Nat), x1]) hT
  exact ⟨n, _, enum_get h3, T, _, _, rfl, st_of upd_same, rfl, Rep.moY (ea.trans n.y) h4⟩
/-- the target is two names: their slots are set in the turn, wiped behind -/
theorem g2_ok {n m : Nat} {x : α × β} {s0 : L2.St} {s1 : V → V → L2.St} {s2 : V → V → L2.St} {v : V} {H1 : Hp} {Q : L2.St → Hp → Prop} {vs : List Nat} (r : Rep.rel K H1 v x) (h0 : wipe σ vs = s0) (hs : ∀ v w, SetAt s0 n v (s1 v w)) (hs2 : ∀ v w, SetAt (s1 v w) m w (s2 v w)) (hw : ∀ v w, wipe (s2 v w) vs = s0)
    (q : ∀ v1 v2, Rep.rel K H1 v1 x.1 → Rep.rel K H1 v2 x.2 → wipe (s2 v1 v2) vs = wipe σ vs → Q (s2 v1 v2) H1) : gTup K 2 (gCons (gName n) (gCons (gName m) gNil)) v (wipe σ vs) H1 Q := by
  obtain ⟨a, v1, v2, hv, hq, r1, r2⟩ := r
  refine ⟨a, [v1, v2], hv, hq, rfl, v1, [v2], rfl, v2, [], rfl, rfl, ?_⟩
  rw [h0, (hs v1 v2).eq, (hs2 v1 v2).eq]
  exact q v1 v2 r1 r2 (by rw [hw, h0])
end
/-! ### tuple(list) -/
def rTupC (K : PySem.W.Frag) : List V → Hp → VK → Prop := fun xs H Q => ∃ p ys, xs = [.ref p] ∧ ((SqL K H p ys ∧ ∀ l, H l = none → Q (.ref l) (upd H l (.tup ys))) ∨ (SqT K H p ys ∧ Q (.ref p) H))
theorem call_tupC {X : Cx} : CallR X (.type "tuple") (rTupC X.K) := call_tuple_of
section
variable {α : Type} [Rep α] {K : PySem.W.Frag} {σ : L2.St} {H : Hp} {ta te : TE}
theorem er_tupC {xs : List α} (h : ER K ta σ H xs) : ER K (tCB (rTupC K) (tCons ta tNil)) σ H (Tpl.mk xs) := fun H1 e Q q => h H1 e _ fun v H2 e2 ⟨a, vs, hv, hs, hr⟩ => by
  subst hv
  refine ⟨a, vs, rfl, .inl ⟨sq_of hs, fun l hl => ?_⟩⟩
  have n := Ex.new (o := .tup vs) hl
  exact q _ _ (e2.trans n) ⟨l, vs, rfl, st_of upd_same, rels_mono n hr⟩
theorem en_tupC {P : List α → Prop} (h : EN K ta σ H P) : EN K (tCB (rTupC K) (tCons ta tNil)) σ H (fun x : Tpl α => P x.l) := fun H1 e Q q => h H1 e _ fun xs v H2 p e2 ⟨a, vs, hv, hs, hr⟩ => by
  subst hv
  refine ⟨a, vs, rfl, .inl ⟨sq_of hs, fun l hl => ?_⟩⟩
  have n := Ex.new (o := .tup vs) hl
  exact q (Tpl.mk xs) _ _ p (e2.trans n) ⟨l, vs, rfl, st_of upd_same, rels_mono n hr⟩
/-- seven parts that make a field -/
def fldOf : List PyData → Fld
  | [.int l, .int h, .int s, .int b, .str o, .str e, .int g] => ⟨l, h, s, b, o, e, g⟩
  | _ => ⟨0, 0, 0, 0, "", "", 0⟩
theorem fldOf_ok {ds : List PyData} (h : isField (.tuple ds) = true) : fokB (fldOf ds) = true ∧ ds = (fldOf ds).ds := by
  unfold isField at h
  split at h
  · next e =>
    cases e
    exact ⟨h, rfl⟩
  · cases h
theorem fokB_ok {f : Fld} (h : fokB f = true) : FOk f := by
  unfold fokB at h
  simp only [Bool.and_eq_true, decide_eq_true_eq] at h
  obtain ⟨⟨⟨⟨h1, h2⟩, h3⟩, h4⟩, h5⟩ := h
  obtain ⟨a, b, c, d, e, g, i⟩ := h1
  exact ⟨a, b, c, d, e, g, i, by simpa using h2, by simpa using h3, h4.1, h4.2, h5⟩
theorem er_fldOf {ds : List PyData} (h : ER K te σ H (Tpl.mk ds)) (hf : isField (.tuple ds) = true) : ER K te σ H (fldOf ds) := fun H1 e Q q => h H1 e Q fun v H2 e2 ⟨a, vs, hv, hs, hr⟩ => by
  refine q v H2 e2 ⟨a, hv, ?_⟩
  have e3 := (fldOf_ok hf).2
  rw [e3] at hr
  have : vs = (fldOf ds).vs := by
    generalize fldOf ds = f at hr
    unfold Fld.ds at hr
    have go : ∀ {vs : List V} {ds : List PyData}, rels K H2 vs ds → ∀ ws : List V, (∀ (i : Nat) (d : PyData), ds[i]? = some d → ∃ w, ws[i]? = some w ∧ ∀ v, Rep.rel K H2 v d → v = w) → ws.length = ds.length → vs = ws := by
      intro vs ds h
      induction h with
      | nil =>
        intro ws _ hl
        exact (List.length_eq_zero_iff.mp hl).symm
      | @cons v d vs ds r _ ih =>
        intro ws hh hl
        match ws, hl with
        | w :: ws, hl =>
          obtain ⟨w', e, g⟩ := hh 0 d rfl
          cases e
          rw [g v r, ih ws (fun i d' hd => hh (i + 1) d' hd) (by simpa using hl)]
    refine go hr f.vs (fun i d hd => ?_) rfl
    match i, hd with
    | 0, hd => cases hd; exact ⟨_, rfl, fun v r => by cases r; rfl⟩
    | 1, hd => cases hd; exact ⟨_, rfl, fun v r => by cases r; rfl⟩
    | 2, hd => cases hd; exact ⟨_, rfl, fun v r => by cases r; rfl⟩
    | 3, hd => cases hd; exact ⟨_, rfl, fun v r => by cases r; rfl⟩
    | 4, hd => cases hd; exact ⟨_, rfl, fun v r => by cases r; rfl⟩
    | 5, hd => cases hd; exact ⟨_, rfl, fun v r => by cases r; rfl⟩
    | 6, hd => cases hd; exact ⟨_, rfl, fun v r => by cases r; rfl⟩
    | i + 7, hd => simp at hd
  rw [← this]
  exact hs
theorem er_lenT3 {α β γ : Type} [Rep α] [Rep β] [Rep γ] {x : Tri α β γ} (h : ER K te σ H x) : ER K (tCB (rLenQ K) (tCons te tNil)) σ H (3 : Int) := fun H1 e Q q => h H1 e _ fun v H2 e2 ⟨a, v1, v2, v3, hv, hs, r1, r2, r3⟩ => ⟨a, [v1, v2, v3], by rw [hv], .inr hs, q _ H2 e2 rfl⟩
end
/-! ### list(range(a, b)), list(range(a, b, c)) -/
section
variable {K : PySem.W.Frag} {σ : L2.St} {H : Hp} {ta tb tc : TE} {i j c : Int}
theorem rg_rng {a b : Int} : rgV a b = (rng a (b - a).toNat).map V.int := by
  unfold rgV rng
  rw [List.map_map]
  rfl
theorem er_listRg1 (h : ER K ta σ H j) (hj : 0 ≤ j ∧ j ≤ 100000) : ER K (tLstRg (tRg1 ta)) σ H (rng 0 j.toNat) := fun H1 e Q q => h H1 e _ fun v H2 e2 r => by
  cases r
  refine ⟨j, rfl, RgOk.of_le (Int.le_refl 0) (by omega) (by omega) hj.1, fun p hp => ?_⟩
  rw [rg_rng, show j - 0 = j by omega]
  exact q _ _ (e2.trans (Ex.new hp)) ⟨p, _, rfl, upd_same, ints_rels⟩
theorem er_listRg2 (h : ER K ta σ H i) (h2 : ER K tb σ H j) (hj : -(2 ^ 62) ≤ i ∧ i < 2 ^ 62 ∧ -(2 ^ 62) ≤ j ∧ j < 2 ^ 62) (hl : j - i ≤ 100000) : ER K (tLstRg (tRg2 ta tb)) σ H (rng i (j - i).toNat) := fun H1 e Q q => h H1 e _ fun v H2 e2 r => h2 H2 (e.trans e2) _ fun v' H3 e3 r3 => by
  cases r
  cases r3
  refine ⟨i, j, rfl, rfl, ⟨hj.1, hj.2.1, hj.2.2.1, hj.2.2.2, by omega⟩, fun p hp => ?_⟩
  rw [rg_rng]
  exact q _ _ ((e2.trans e3).trans (Ex.new hp)) ⟨p, _, rfl, upd_same, ints_rels⟩
/-- i, i + c, .. (n of them) -/
def rgC (i c : Int) (n : Nat) : List Int := (List.range n).map fun k : Nat => i + (k : Int) * c
def tLstRgC (t : TA) : TE := fun σ H Q => t σ H fun vs H3 => ∃ (i j c : Int) (n : Nat), vs = [.int i, .int j, .int c] ∧ RgC i j c n ∧ n ≤ 100000 ∧ ∀ p, H3 p = none → Q (.ref p) (upd H3 p (.lst ((rgC i c n).map V.int)))
theorem pe_listRgC {X : Cx} {a b d : Expr} {p p2 pos pos2 : Pos} {tA : TA} (hc : X.calm = true) (hg : Gl X "list") (hm : X.mg "list" = none) (hg2 : Gl X "range") (hm2 : X.mg "range" = none) (hA : PA X [a, b, d] tA)
    (n1 : starEach [a, b, d] X.env = (false, eval a X.env) :: starEach [b, d] X.env := by rfl) (n2 : (backTo pos2 (starEach [b, d] X.env)).any (·.1) = false := by rfl)
    (n3 : starEach [.Call (.Name "range" p2) [a, b, d] [] pos2] X.env = (false, eval (.Call (.Name "range" p2) [a, b, d] [] pos2) X.env) :: starEach [] X.env := by rfl) :
    PE X (.Call (.Name "list" p) [.Call (.Name "range" p2) [a, b, d] [] pos2] [] pos) (tLstRgC tA) := by
  refine ⟨fun pins s σ H Q I h => Call_ (ld_blt I hg hm boot_list (PyProof.Rows.callWith_type1 (args_cons ?_ n3) n3))⟩
  refine Call_ (ld_blt I hg2 hm2 boot_range (PyProof.Rows.callWith_type1 (thn (hA.run pos2 pins s σ H _ I h) fun us s1 ⟨vs, H1, I1, r1, i, j, c, n, ev, ok, hn, q⟩ => ?_) n1 n2))
  · subst ev
    obtain ⟨c0, c1, c2, c3⟩ := ok
    rcases r1 with _ | ⟨r1, _ | ⟨r2, _ | ⟨r3, _ | _⟩⟩⟩
    obtain ⟨t1, rfl⟩ := r1
    obtain ⟨t2, rfl⟩ := r2
    obtain ⟨t3, rfl⟩ := r3
    refine call_range_3 c0 (args_nil ?_) (.inl (PyProof.noPylong_small c1))
    have I2 : Inv X pins σ H1 { s1 with heap := s1.heap.push { cls := .type "range", data := .fields #[.int i t1, .int j t2, .int c t3] } } := I1.kept (t' := s1.toks) fun b o e => Heap.get?_push_of_some _ e
    refine call_list_range (n := n) (I1.ok.hd hc) (IsRange.new ..) c2 c3 (by omega) fun h' tk acc c' hk e' hi => ?_
    have hv : Vals ((rgC i c n).map V.int) acc.toList := by
      have hl : acc.toList.length = n := (Array.length_toList (xs := acc)).trans hi.1
      unfold rgC
      rw [List.map_map, ← hl]
      refine vals_of_get acc.toList _ fun k u hu => ?_
      obtain ⟨t, rfl⟩ := hi.2 k u (by rw [← hu, Array.getElem?_toList])
      exact ⟨t, rfl⟩
    refine ⟨.ref _, upd H1 _ (.lst ((rgC i c n).map V.int)), I2.laid hk (Nat.le_refl _) (show ObjOk X.prog X.w _ _ _ (.lst ((rgC i c n).map V.int)) from ⟨?_, acc.toList, c', hv, ?_⟩), rfl, q _ (I2.hok.fresh (Nat.le_refl _))⟩
    · rw [List.length_map]
      unfold rgC
      rw [List.length_map, List.length_range]
      exact sz_of hn
    · rw [Array.toArray_toList]
      exact e'
theorem rgC_ok (hi : -(2 ^ 60) ≤ i ∧ i < 2 ^ 60) (hj : -(2 ^ 60) ≤ j ∧ j < 2 ^ 60) (hc : 0 < c) (hc2 : c < 1073741824) : RgC i j c (if i < j then ((j - i - 1) / c + 1).toNat else 0) := by
  have e : Builtin.Range.rangeSize i j c = if i < j then (j - i - 1) / c + 1 else 0 := by
    unfold Builtin.Range.rangeSize
    rw [if_pos hc]
  have d0 : i < j → 0 ≤ (j - i - 1) / c := fun h => Int.ediv_nonneg (by omega) (by omega)
  have d1 : i < j → (j - i - 1) / c ≤ j - i - 1 := fun h => Int.ediv_le_self _ (by omega)
  have d2 : i < j → (j - i - 1) / c * c ≤ j - i - 1 := fun h => (div_le (x := j - i - 1) hc).1
  refine ⟨by omega, by omega, ?_, ?_⟩
  · unfold Builtin.Range.small
    rw [e]
    simp only [Builtin.Range.rangeFitsLong, Bool.and_eq_true, Bool.or_eq_true, decide_eq_true_eq, beq_iff_eq, if_pos hc]
    split <;> omega
  · rw [e]
    split <;> omega
theorem er_listRgC (h : ER K ta σ H i) (h2 : ER K tb σ H j) (h3 : ER K tc σ H c) (hi : -(2 ^ 60) ≤ i ∧ i < 2 ^ 60) (hj : -(2 ^ 60) ≤ j ∧ j < 2 ^ 60) (hc : 0 < c) (hc2 : c < 1073741824) (hn : j - i ≤ 100000 * c) :
    ER K (tLstRgC (tCons ta (tCons tb (tCons tc tNil)))) σ H (rgC i c (if i < j then ((j - i - 1) / c + 1).toNat else 0)) := fun H1 e Q q => h H1 e _ fun v H2 e2 r => h2 H2 (e.trans e2) _ fun v' H3 e3 r3 => h3 H3 ((e.trans e2).trans e3) _ fun v4 H4 e4 r4 => by
  cases r
  cases r3
  cases r4
  refine ⟨i, j, c, _, rfl, rgC_ok hi hj hc hc2, ?_, fun p hp => q _ _ (((e2.trans e3).trans e4).trans (Ex.new hp)) ⟨p, _, rfl, upd_same, ints_rels⟩⟩
  split
  · have : (j - i - 1) / c < 100000 := (Int.ediv_lt_iff_lt_mul hc).mpr (by omega)
    omega
  · omega
end
section
variable {α β γ : Type} [Rep α] [Rep β] [Rep γ] {K : PySem.W.Frag} {σ : L2.St} {H : Hp} {te : TE}
theorem er_ofP2 {x : α} {y : β} {v w : V} (h : EV K te σ H [v, w]) (r1 : ∀ H, Rep.rel K H v x) (r2 : ∀ H, Rep.rel K H w y) : ER K te σ H (x, y) := fun H1 e Q q => h H1 e Q fun p H2 e2 hs => q (.ref p) H2 e2 ⟨p, v, w, rfl, hs, r1 H2, r2 H2⟩
theorem er_ofT3 {x : α} {y : β} {z : γ} {v w u : V} (h : EV K te σ H [v, w, u]) (r1 : ∀ H, Rep.rel K H v x) (r2 : ∀ H, Rep.rel K H w y) (r3 : ∀ H, Rep.rel K H u z) : ER K te σ H (Tri.mk x y z) := fun H1 e Q q => h H1 e Q fun p H2 e2 hs => q (.ref p) H2 e2 ⟨p, v, w, u, rfl, hs, r1 H2, r2 H2, r3 H2⟩
theorem ev_ofT3 {x : Tri Str Str Int} (h : ER K te σ H x) : EV K te σ H [V.str x.a, V.str x.b, V.int x.c] := fun H1 e Q q => h H1 e Q fun v H2 e2 ⟨a, v1, v2, v3, hv, hs, r1, r2, r3⟩ => by
  subst hv
  cases r1
  cases r2
  cases r3
  exact q a H2 e2 hs
theorem enum_mem {xs : List α} {y : Int × α} (h : y ∈ enum xs) : y.2 ∈ xs := by
  unfold enum at h
  obtain ⟨p, hp, rfl⟩ := List.mem_map.mp h
  exact List.fst_mem_of_mem_zipIdx hp
theorem enum_len {xs : List α} : (enum xs).length = xs.length := by simp [enum]
end
end Sf

namespace Sf
open PySem PySem.Spec PyProof.Rows L2 Evl
/-! ### the head: what the top leaves, told by names, tuples of texts too -/
def tabsB (ts : List (Str × List Str)) (K : PySem.W.Frag) : Bool := ts.all fun p => He.tupB K p.1 (p.2.map He.Dv.str)
def obsS (n : Nat) (fa : List He.Fa) (fn : List He.DefD) (ts : List (Str × List Str)) (g : Addr → Option Obj) : He.AlD × Bool := (He.obsDG n fa fn g, tabsB ts (He.frG g (He.asD g n)))
def hookS (n : Nat) (fa : List He.Fa) (fn : List He.DefD) (ts : List (Str × List Str)) : PySem.W.Hook where
  α := He.AlD × Bool
  obs := fun s => obsS n fa fn ts s.heap.get?
  val := fun _ => (He.valD fn, true)
  says := fun _ h => ∃ K : PySem.W.Frag, K.In h ∧ He.SaysD fa fn K ∧ tabsB ts K = true
  of := fun _ _ e => ⟨_, He.frG_in, congrArg (fun z : He.AlD × Bool => z.1) e, congrArg (fun z : He.AlD × Bool => z.2) e⟩
  keeps := fun _ _ _ ⟨K, hK, c⟩ k => ⟨K, PySem.W.Frag.In.keeps hK k, c⟩
theorem obsS_eq {n : Nat} {fa : List He.Fa} {fn : List He.DefD} {ts : List (Str × List Str)} {g : Addr → Option Obj} {s : Shared} (h : ∀ a, g a = s.heap.get? a) : obsS n fa fn ts g = (hookS n fa fn ts).obs s := by
  have e : g = s.heap.get? := funext h
  rw [e] <;> rfl
theorem tab_of {ts : List (Str × List Str)} {K : PySem.W.Frag} (h : tabsB ts K = true) (i : Nat) {p : Str × List Str} (hp : ts[i]? = some p) (H : Hp) : SqT K H (He.ga K p.1) (p.2.map V.str) := by
  have h1 := List.all_eq_true.mp h p (List.mem_of_getElem? hp)
  have h2 := He.tupB_ok h1 H
  rw [List.map_map] at h2
  exact h2
end Sf

namespace Sf
open PySem PySem.Spec PyProof.Rows L2 Evl
/-! ### what was seen -/
abbrev Seen1 := Tri Int Sg Int
def fits1 (f : Fld) (t : Seen1) : Bool := (decide (f.low ≤ t.a) && decide (t.a ≤ f.high)) && decide (pressKey f t.a t.b.c = t.c)
def doesFit (f : Fld) (l : List Seen1) : Bool := l.all (fits1 f)
theorem fit_test {f : Fld} {y : Seen1} : (!isBetween (Enc.enc y.a) f.low f.high || !decide (pressKey f y.a y.b.c = y.c)) = !fits1 f y := by
  show (!(decide (f.low ≤ y.a) && decide (y.a ≤ f.high)) || _) = _
  unfold fits1
  simp only [Bool.not_and]
theorem fit_no {f : Fld} {l : List Seen1} {y : Seen1} (hm : y ∈ l) (h : (!isBetween (Enc.enc y.a) f.low f.high || !decide (pressKey f y.a y.b.c = y.c)) = true) : false = doesFit f l := by
  rw [fit_test, Bool.not_eq_true'] at h
  symm
  rw [← Bool.not_eq_true]
  intro z
  have := List.all_eq_true.mp z y hm
  rw [h] at this
  cases this
theorem fit_snoc {f : Fld} {pre : List Seen1} {y : Seen1} (hp : ∀ x ∈ pre, fits1 f x = true) (h : (!isBetween (Enc.enc y.a) f.low f.high || !decide (pressKey f y.a y.b.c = y.c)) = false) : ∀ x ∈ pre ++ [y], fits1 f x = true := by
  rw [fit_test, Bool.not_eq_false'] at h
  intro x hx
  rcases List.mem_append.mp hx with z | z
  · exact hp x z
  · rw [List.mem_singleton.mp z]
    exact h
theorem fit_yes {f : Fld} {l : List Seen1} (hp : ∀ x ∈ l, fits1 f x = true) : true = doesFit f l := (List.all_eq_true.mpr hp).symm
abbrev Man := Tri Str Str Int
abbrev OFFS3 : List Str := ["add", "near", "next"]
abbrev ENDS3 : List Str := ["round", "stay", "stop"]
def withMan (f : Fld) (m : Man) : Fld := Fld.mk f.low f.high f.step f.base m.a m.b m.c
def mans (f : Fld) (l : List Seen1) (o e : Str) : List Man := ((rng 2 11).map fun g => Tri.mk o e g).filter fun m => doesFit (withMan f m) l
def mannersFor (f : Fld) (l : List Seen1) : List Man := OFFS3.flatMap fun o => ENDS3.flatMap fun e => mans f l o e
theorem mans_len {f : Fld} {l : List Seen1} {o e : Str} : (mans f l o e).length ≤ 11 := by
  have := List.length_filter_le (fun m : Man => doesFit (withMan f m) l) ((rng 2 11).map fun g => Tri.mk o e g)
  rw [List.length_map, rng_len] at this
  exact this
theorem man33 {f : Fld} {l : List Seen1} (o : Str) : (ENDS3.flatMap fun e => mans f l o e).length ≤ 33 := by
  simp only [List.flatMap_cons, List.flatMap_nil, List.length_append, List.length_nil]
  have h1 := mans_len (f := f) (l := l) (o := o) (e := "round")
  have h2 := mans_len (f := f) (l := l) (o := o) (e := "stay")
  have h3 := mans_len (f := f) (l := l) (o := o) (e := "stop")
  omega
/-! ### values that stand for all -/
def half (f : Fld) : Int := (f.step + 1) / 2
def rests0 (f : Fld) : List Int := [0, 1, half f - 1, half f, half f + 1, f.step - 1]
def restsE (f : Fld) (e : Int) : List Int := ([-1, 0, 1] : List Int).map fun m => (e - f.base) % f.step + m
def restsAll (f : Fld) : List Int := rests0 f ++ [f.low, f.high].flatMap (restsE f)
def restsOf (f : Fld) : List Int := sortU ((restsAll f).map fun r => r % f.step)
theorem restsAll_len {f : Fld} : (restsAll f).length = 12 := rfl
theorem restsOf_len {f : Fld} : (restsOf f).length ≤ 12 := by
  have := sortU_len (xs := (restsAll f).map fun r => r % f.step)
  rw [List.length_map, restsAll_len] at this
  exact this
def mid (f : Fld) : Int := (f.low + f.high) / 2
def placeOf (f : Fld) (c : Int) : Int := (c - f.base) / f.step
def nearOf (f : Fld) (many c : Int) : Int := if c = mid f then 1 else many + 2
def rowAt (f : Fld) (i : Int) : List Int := (restsOf f).map fun r => f.base + i * f.step + r
def blockAt (f : Fld) (many c : Int) : List Int := (rng (placeOf f c - nearOf f many c) (2 * nearOf f many c + 1).toNat).flatMap (rowAt f)
def spots0 (f : Fld) : List Int := [f.low, f.low + 1, f.high - 1, f.high]
def spots (f : Fld) (many : Int) : List Int := spots0 f ++ [f.low, mid f, f.high].flatMap (blockAt f many)
def insideB (f : Fld) (v : Int) : Bool := decide (f.low ≤ v) && decide (v ≤ f.high)
def valuesOf (f : Fld) (many : Int) : List Int := if f.high - f.low ≤ 400 then rng f.low (f.high + 1 - f.low).toNat else sortU ((spots f many).filter (insideB f))
theorem flat_len {α β : Type} {g : α → List β} {n : Nat} : ∀ {l : List α}, (∀ x ∈ l, (g x).length ≤ n) → (l.flatMap g).length ≤ n * l.length
  | [], _ => Nat.zero_le _
  | x :: r, h => by
    have h1 := h x (List.mem_cons_self ..)
    have h2 := flat_len (l := r) fun y hy => h y (List.mem_cons_of_mem _ hy)
    rw [List.flatMap_cons, List.length_append, List.length_cons, Nat.mul_succ]
    omega
theorem row_len {f : Fld} {i : Int} : (rowAt f i).length ≤ 12 := by
  unfold rowAt
  rw [List.length_map]
  exact restsOf_len
theorem block_len {f : Fld} {many c : Int} (h : 0 ≤ many ∧ many ≤ 79) : (blockAt f many c).length ≤ 1956 ∧ (c = mid f → (blockAt f many c).length ≤ 36) := by
  have h1 := flat_len (g := rowAt f) (n := 12) (l := rng (placeOf f c - nearOf f many c) (2 * nearOf f many c + 1).toNat) fun x _ => row_len
  rw [rng_len] at h1
  have hn : 1 ≤ nearOf f many c ∧ nearOf f many c ≤ 81 ∧ (c = mid f → nearOf f many c = 1) := by
    unfold nearOf
    split
    · exact ⟨by omega, by omega, fun _ => rfl⟩
    · next g => exact ⟨by omega, by omega, fun z => absurd z g⟩
  unfold blockAt
  exact ⟨by omega, fun e => by have := hn.2.2 e; omega⟩
theorem spots_len {f : Fld} {many : Int} (h : 0 ≤ many ∧ many ≤ 79) : (spots f many).length ≤ 4000 := by
  have a := (block_len (f := f) (c := f.low) h).1
  have b := (block_len (f := f) (c := mid f) h).2 rfl
  have c := (block_len (f := f) (c := f.high) h).1
  unfold spots spots0
  simp only [List.flatMap_cons, List.flatMap_nil, List.length_append, List.length_cons, List.length_nil]
  omega
theorem values_len {f : Fld} {many : Int} (h : f.high - f.low ≤ 400 ∨ (0 ≤ many ∧ many ≤ 79)) : (valuesOf f many).length ≤ 4000 := by
  unfold valuesOf
  split
  · rw [rng_len]
    omega
  · have h1 := sortU_len (xs := (spots f many).filter (insideB f))
    have h2 := List.length_filter_le (insideB f) (spots f many)
    have h3 := spots_len (f := f) (many := many) (by omega)
    omega
theorem values_len2 {f : Fld} {many : Int} (h : f.high - f.low ≤ 400 ∨ (0 ≤ many ∧ many ≤ 14)) : (valuesOf f many).length ≤ 900 := by
  unfold valuesOf
  split
  · rw [rng_len]
    omega
  · have h1 := sortU_len (xs := (spots f many).filter (insideB f))
    have h2 := List.length_filter_le (insideB f) (spots f many)
    have g : ∀ c, (blockAt f many c).length ≤ 396 := fun c => by
      have k := flat_len (g := rowAt f) (n := 12) (l := rng (placeOf f c - nearOf f many c) (2 * nearOf f many c + 1).toNat) fun x _ => row_len
      rw [rng_len] at k
      have hn : 1 ≤ nearOf f many c ∧ nearOf f many c ≤ 16 := by
        unfold nearOf
        split <;> omega
      unfold blockAt
      omega
    have a := g f.low
    have b := (block_len (f := f) (many := many) (c := mid f) (by omega)).2 rfl
    have c := g f.high
    have h3 : (spots f many).length ≤ 900 := by
      unfold spots spots0
      simp only [List.flatMap_cons, List.flatMap_nil, List.length_append, List.length_cons, List.length_nil]
      omega
    omega
theorem values_in {f : Fld} {many v : Int} (h : v ∈ valuesOf f many) : f.low ≤ v ∧ v ≤ f.high := by
  unfold valuesOf at h
  split at h
  · have := rng_mem.mp h
    omega
  · have := (List.mem_filter.mp (sortU_mem.mp h)).2
    unfold insideB at this
    simp only [Bool.and_eq_true, decide_eq_true_eq] at this
    exact this
/-- small fields: all values -/
theorem values_all {f : Fld} {many v : Int} (hs : f.high - f.low ≤ 400) : v ∈ valuesOf f many ↔ f.low ≤ v ∧ v ≤ f.high := by
  unfold valuesOf
  rw [if_pos hs, rng_mem]
  omega
theorem flat_pre {α β : Type} {l pre post : List α} {y : α} {g : α → List β} {n m : Nat} (hx : l = pre ++ y :: post) (hl : l.length ≤ m) (hg : ∀ x, (g x).length ≤ n) : (pre.flatMap g).length ≤ n * m := by
  have h1 := flat_len (g := g) (n := n) (l := pre) fun x _ => hg x
  have h2 := congrArg List.length hx
  rw [List.length_append, List.length_cons] at h2
  exact Nat.le_trans h1 (Nat.mul_le_mul_left n (by omega))
theorem block_eq {f : Fld} {many y place near : Int} (dp : place = (y - f.base) / f.step) (dn : near = if (!decide (y = ((f.low + f.high) / 2))) = true then (many + 2) else 1) : (rng (place - near) (((place + near) + 1) - (place - near) : Int).toNat).flatMap (rowAt f) = blockAt f many y := by
  have en : near = nearOf f many y := by
    rw [dn]
    unfold nearOf mid
    by_cases h : y = (f.low + f.high) / 2
    · rw [decide_eq_true h, if_pos h]
      rfl
    · rw [decide_eq_false h, if_neg h]
      rfl
  unfold blockAt placeOf
  rw [← dp, ← en, show place + near + 1 - (place - near) = 2 * near + 1 by omega]
theorem div_abs {x s : Int} (hs : 1 ≤ s) : (0 ≤ x → 0 ≤ x / s ∧ x / s ≤ x) ∧ (x ≤ 0 → x ≤ x / s ∧ x / s ≤ 0) := by
  have a := div_le (x := x) (y := s) (by omega)
  constructor
  · intro h
    exact ⟨Int.ediv_nonneg h (by omega), Int.ediv_le_self _ h⟩
  · intro h
    refine ⟨(Int.le_ediv_iff_mul_le (by omega)).mpr ?_, ?_⟩
    · have h1 : x * s ≤ x * 1 := Int.mul_le_mul_of_nonpos_left h hs
      omega
    · have h1 : x / s < 1 := (Int.ediv_lt_iff_lt_mul (by omega)).mpr (by omega)
      omega
/-! ### the first value and key at which two fields part -/
abbrev keys6 : List Sg := sgs "udUDhe"
def sameAt (one other : Fld) (v : Int) (k : Sg) : Prop := pressKey one v k.c = pressKey other v k.c
instance (one other : Fld) (v : Int) (k : Sg) : Decidable (sameAt one other v k) := by unfold sameAt; infer_instance
def firstKey (one other : Fld) (v : Int) : List Sg → Option Sg
  | [] => none
  | k :: r => if sameAt one other v k then firstKey one other v r else some k
def firstVal (one other : Fld) : List Int → Option (Int × Sg)
  | [] => none
  | v :: r => match firstKey one other v keys6 with
    | some k => some (v, k)
    | none => firstVal one other r
theorem firstKey_none {one other : Fld} {v : Int} : ∀ {ks : List Sg}, firstKey one other v ks = none ↔ ∀ k ∈ ks, sameAt one other v k
  | [] => ⟨fun _ _ h => (nomatch h), fun _ => rfl⟩
  | k :: r => by
    unfold firstKey
    split
    · next h =>
      rw [firstKey_none (ks := r)]
      exact ⟨fun g x hx => (List.mem_cons.mp hx).elim (fun z => z ▸ h) (fun z => g x z), fun g x hx => g x (List.mem_cons_of_mem _ hx)⟩
    · next h => exact ⟨fun z => (nomatch z), fun g => absurd (g k (List.mem_cons_self ..)) h⟩
theorem firstKey_at {one other : Fld} {v : Int} {k : Sg} {b : List Sg} : ∀ {a : List Sg}, (∀ x ∈ a, sameAt one other v x) → ¬ sameAt one other v k → firstKey one other v (a ++ k :: b) = some k
  | [], _, h => by
    show (if sameAt one other v k then firstKey one other v b else some k) = _
    rw [if_neg h]
  | x :: a, ha, h => by
    show (if sameAt one other v x then firstKey one other v (a ++ k :: b) else some x) = _
    rw [if_pos (ha x (List.mem_cons_self ..))]
    exact firstKey_at (fun y hy => ha y (List.mem_cons_of_mem _ hy)) h
theorem firstVal_none {one other : Fld} : ∀ {vs : List Int}, firstVal one other vs = none ↔ ∀ v ∈ vs, ∀ k ∈ keys6, sameAt one other v k
  | [] => ⟨fun _ _ h => (nomatch h), fun _ => rfl⟩
  | v :: r => by
    unfold firstVal
    split
    · next k h =>
      constructor
      · intro z
        cases z
      · intro g
        have := firstKey_none.mpr (g v (List.mem_cons_self ..))
        rw [h] at this
        cases this
    · next h =>
      rw [firstVal_none (vs := r)]
      have h1 := firstKey_none.mp h
      exact ⟨fun g x hx => (List.mem_cons.mp hx).elim (fun z => z ▸ h1) (fun z => g x z), fun g x hx => g x (List.mem_cons_of_mem _ hx)⟩
theorem firstVal_at {one other : Fld} {v : Int} {k : Sg} {b : List Int} (hk : firstKey one other v keys6 = some k) : ∀ {a : List Int}, (∀ x ∈ a, ∀ k ∈ keys6, sameAt one other x k) → firstVal one other (a ++ v :: b) = some (v, k)
  | [], _ => by
    show (match firstKey one other v keys6 with | some k => some (v, k) | none => firstVal one other b) = _
    rw [hk]
  | x :: a, ha => by
    show (match firstKey one other x keys6 with | some k => some (x, k) | none => firstVal one other (a ++ v :: b)) = _
    rw [firstKey_none.mpr (ha x (List.mem_cons_self ..))]
    exact firstVal_at hk fun y hy => ha y (List.mem_cons_of_mem _ hy)
theorem firstKey_some {one other : Fld} {v : Int} {k : Sg} : ∀ {ks : List Sg}, firstKey one other v ks = some k → k ∈ ks ∧ ¬ sameAt one other v k
  | [], h => nomatch h
  | x :: r, h => by
    unfold firstKey at h
    split at h
    · obtain ⟨a, b⟩ := firstKey_some (ks := r) h
      exact ⟨List.mem_cons_of_mem _ a, b⟩
    · next hx =>
      cases h
      exact ⟨List.mem_cons_self .., hx⟩
theorem firstVal_some {one other : Fld} {p : Int × Sg} : ∀ {vs : List Int}, firstVal one other vs = some p → p.1 ∈ vs ∧ firstKey one other p.1 keys6 = some p.2
  | [], h => nomatch h
  | v :: r, h => by
    unfold firstVal at h
    split at h
    · next k hk =>
      cases h
      exact ⟨List.mem_cons_self .., hk⟩
    · obtain ⟨a, b⟩ := firstVal_some (vs := r) h
      exact ⟨List.mem_cons_of_mem _ a, b⟩
theorem sameAt_symm {one other : Fld} {v : Int} {k : Sg} : sameAt one other v k ↔ sameAt other one v k := ⟨Eq.symm, Eq.symm⟩
theorem firstKey_symm {one other : Fld} {v : Int} : ∀ {ks : List Sg}, firstKey one other v ks = firstKey other one v ks
  | [] => rfl
  | k :: r => by
    unfold firstKey
    simp only [sameAt_symm (one := one), firstKey_symm (ks := r)]
theorem firstVal_symm {one other : Fld} : ∀ {vs : List Int}, firstVal one other vs = firstVal other one vs
  | [] => rfl
  | v :: r => by
    unfold firstVal
    rw [firstKey_symm, firstVal_symm (vs := r)]
def partSpots (one other : Fld) : List Int := sortU (valuesOf one (one.big + 1) ++ valuesOf other (other.big + 1))
def partOf (one other : Fld) : Option (Int × Sg) := firstVal one other (partSpots one other)
theorem partOf_symm {one other : Fld} : partOf one other = partOf other one := by
  have e : partSpots one other = partSpots other one := sortU_congr fun z => by
    simp only [List.mem_append]
    exact or_comm
  unfold partOf
  rw [firstVal_symm, e]
theorem part_go1 {one other : Fld} {v : Int} {k : Sg} {kpre kpost : List Sg} {vs vpre vpost : List Int} (hk : keys6 = kpre ++ k :: kpost) (hv : vs = vpre ++ v :: vpost) (h1 : ∀ x ∈ vpre, ∀ k ∈ keys6, sameAt one other x k) (h2 : ∀ x ∈ kpre, sameAt one other v x) (h3 : ¬ sameAt one other v k) : some (v, k) = firstVal one other vs := by
  rw [hv]
  refine (firstVal_at ?_ h1).symm
  rw [hk]
  exact firstKey_at h2 h3
/-! ### small fields -/
theorem partSpots_all {one other : Fld} {v : Int} (hs : one.high - one.low ≤ 400) (hl : other.low = one.low) (hh : other.high = one.high) : v ∈ partSpots one other ↔ one.low ≤ v ∧ v ≤ one.high := by
  unfold partSpots
  rw [sortU_mem, List.mem_append, values_all hs, values_all (by rw [hl, hh]; exact hs), hl, hh, or_self]
theorem partSpots_rng {one other : Fld} (hs : one.high - one.low ≤ 400) (hl : other.low = one.low) (hh : other.high = one.high) : partSpots one other = rng one.low (one.high + 1 - one.low).toNat := by
  refine pw_eq sortU_pw ?_ fun z => ?_
  · unfold rng
    rw [List.pairwise_map]
    refine List.Pairwise.imp ?_ List.pairwise_lt_range
    intro a b h
    omega
  · refine (partSpots_all (v := z) hs hl hh).trans ?_
    rw [rng_mem]
    omega
/-! ### rows -/
def partHere (f : Fld) (a b : List Nat) : Option Int := (valuesOf f (max (a.length : Int) (b.length : Int) * f.big)).find? fun v => !decide (pressRow f v a = pressRow f v b)
theorem find_at {α : Type} {p : α → Bool} {x : α} {b : List α} : ∀ {a : List α}, (∀ y ∈ a, p y = false) → p x = true → (a ++ x :: b).find? p = some x
  | [], _, h => by rw [List.nil_append, List.find?_cons_of_pos h]
  | y :: a, ha, h => by
    rw [List.cons_append, List.find?_cons_of_neg (by rw [ha y (List.mem_cons_self ..)]; exact Bool.false_ne_true)]
    exact find_at (fun z hz => ha z (List.mem_cons_of_mem _ hz)) h
/-! ### a near field -/
theorem encT {ds : List PyData} : (Enc.enc (Tpl.mk ds) : PyData) = .tuple ds := by
  show PyData.tuple (ds.map id) = _
  rw [List.map_id]
def NearDs (f : Fld) (ds : List PyData) : Prop := ds.length = 7 ∧ ds[0]? = some (.int f.low) ∧ ds[1]? = some (.int f.high)
theorem near_set {f : Fld} {ds : List PyData} {k : Nat} {x : PyData} (h : NearDs f ds) (hk : 2 ≤ k) : NearDs f (ds.set k x) := by
  obtain ⟨h1, h2, h3⟩ := h
  refine ⟨by rw [List.length_set]; exact h1, ?_, ?_⟩
  · rw [List.getElem?_set_ne (by omega)]
    exact h2
  · rw [List.getElem?_set_ne (by omega)]
    exact h3
theorem near_0 {f : Fld} : NearDs f f.ds := ⟨rfl, rfl, rfl⟩
theorem near_ix {f : Fld} {ds : List PyData} {k : Nat} (h : NearDs f ds) (hk : k < 7) : L2.ixN ds.length (k : Int) = some k := by
  rw [h.1]
  unfold L2.ixN
  rw [if_pos (by omega), if_pos (by omega)]
  simp
/-- what a near field keeps -/
structure NearPost (f z : Fld) : Prop where
  ok : FOk z
  low : z.low = f.low
  high : z.high = f.high
theorem near_post {f : Fld} {ds : List PyData} (hf : FOk f) (h : NearDs f ds) : NearPost f (if isField (Enc.enc (Tpl.mk ds)) = true then fldOf ds else f) := by
  split
  · next z =>
    rw [encT] at z
    obtain ⟨k1, k2⟩ := fldOf_ok z
    obtain ⟨h1, h2, h3⟩ := h
    rw [k2] at h2 h3
    have e2 : PyData.int (fldOf ds).low = .int f.low := Option.some.inj h2
    have e3 : PyData.int (fldOf ds).high = .int f.high := Option.some.inj h3
    injection e2 with e2
    injection e3 with e3
    exact ⟨fokB_ok k1, e2, e3⟩
  · exact ⟨hf, rfl, rfl⟩
/-! ### rows with a key left out, put in -/
theorem cutS_list {z : Str} {lo hi : Option Int} : (cutS z lo hi).cps.toList = (z.cps.toList.drop (HT.sIx z.length 0 lo)).take (HT.sIx z.length z.length hi - HT.sIx z.length 0 lo) := by
  unfold cutS
  simp
theorem sIx_some {n d : Nat} {i : Int} (h : 0 ≤ i) : HT.sIx n d (some i) = min i.toNat n := by
  unfold HT.sIx
  simp only []
  split <;> omega
theorem cut_to {z : Str} {i : Int} (h : 0 ≤ i) : (cutS z none (some i)).cps.toList = z.cps.toList.take i.toNat := by
  rw [cutS_list, sIx_some h]
  show (z.cps.toList.drop 0).take (min i.toNat z.length - 0) = _
  rw [List.drop_zero, Nat.sub_zero, lenL, ← List.take_eq_take_min]
theorem cut_from {z : Str} {i : Int} (h : 0 ≤ i) : (cutS z (some i) none).cps.toList = z.cps.toList.drop i.toNat := by
  rw [cutS_list, sIx_some h]
  show (z.cps.toList.drop (min i.toNat z.length)).take (z.length - min i.toNat z.length) = _
  rw [lenL]
  by_cases c : i.toNat ≤ z.cps.toList.length
  · rw [Nat.min_eq_left c, List.take_of_length_le (by rw [List.length_drop]; omega)]
  · rw [Nat.min_eq_right (by omega), List.drop_eq_nil_of_le (Nat.le_refl _), List.drop_eq_nil_of_le (by omega), List.take_nil]
def without (z : Str) (i : Int) : Str := cutS z none (some i) ++ cutS z (some (i + 1)) none
theorem without_list {z : Str} {i : Int} (h : 0 ≤ i) : (without z i).cps.toList = z.cps.toList.take i.toNat ++ z.cps.toList.drop (i.toNat + 1) := by
  unfold without
  rw [catL, cut_to h, cut_from (by omega), show (i + 1).toNat = i.toNat + 1 by omega]
theorem without_ok {z : Str} {i : Int} (h : 0 ≤ i) (hz : rowOk z) : rowOk (without z i) := by
  unfold rowOk
  rw [without_list h]
  refine ⟨?_, fun c hc => ?_⟩
  · rw [List.length_append, List.length_take, List.length_drop]
    have := hz.1
    omega
  · rcases List.mem_append.mp hc with k | k
    · exact hz.2 c (List.mem_of_mem_take k)
    · exact hz.2 c (List.mem_of_mem_drop k)
theorem row_len40 {z : Str} (h : rowOk z) : z.length ≤ 40 := by
  rw [lenL]
  exact h.1
theorem cat_ok {x y : Str} (hx : ∀ c ∈ x.cps.toList, isKey c) (hy : ∀ c ∈ y.cps.toList, isKey c) (h : x.length + y.length ≤ 40) : rowOk (x ++ y) := by
  unfold rowOk
  rw [catL]
  refine ⟨by rw [List.length_append, ← lenL, ← lenL]; exact h, fun c hc => ?_⟩
  rcases List.mem_append.mp hc with k | k
  · exact hx c k
  · exact hy c k
theorem lenCat {x y : Str} : (x ++ y).length = x.length + y.length := by
  rw [lenL, catL, List.length_append, ← lenL, ← lenL]
/-- rows may be compared -/
def RB (f : Fld) (n : Int) : Prop := f.high - f.low ≤ 400 ∨ n * f.big ≤ 79
def partRows (f : Fld) (a b : Str) : Option Int := partHere f a.cps.toList b.cps.toList
def idleKeys (f : Fld) (z : Str) : List Int := (rng 0 z.length).filter fun i => (partRows f z (without z i)).isNone
def fixedB (f : Fld) (z : Str) : Bool := (valuesOf f ((z.length : Int) * f.big)).any fun v => decide (pressRow f v z.cps.toList = v)
theorem cutS_le {z : Str} {lo hi : Option Int} : (cutS z lo hi).length ≤ z.length := by
  rw [lenL, cutS_list, List.length_take, List.length_drop, lenL]
  omega
theorem without_le {z : Str} {i : Int} (h : 0 ≤ i) : (without z i).length ≤ z.length := by
  rw [lenL, without_list h, List.length_append, List.length_take, List.length_drop, lenL]
  omega
theorem idle_rb {f : Fld} {z : Str} {i : Int} (h : 0 ≤ i) (hn : RB f (z.length : Int)) : RB f (max (z.length : Int) ((without z i).length : Int)) := by
  have := without_le (z := z) h
  rw [show max (z.length : Int) ((without z i).length : Int) = (z.length : Int) by omega]
  exact hn
theorem rng_0 {n : Nat} {i : Int} (h : i ∈ rng 0 n) : 0 ≤ i := (rng_mem.mp h).1
theorem here_some {f : Fld} {a b : Str} {v : Int} {l pre post : List Int} (hl : l = valuesOf f (max (a.length : Int) (b.length : Int) * f.big)) (hx : l = pre ++ v :: post) (hp : ∀ x ∈ pre, pressRow f x a.cps.toList = pressRow f x b.cps.toList) (h : (!decide (pressRow f v a.cps.toList = pressRow f v b.cps.toList)) = true) : some v = partRows f a b := by
  unfold partRows partHere
  rw [← lenL, ← lenL, ← hl, hx]
  exact (find_at (p := fun v => !decide (pressRow f v a.cps.toList = pressRow f v b.cps.toList)) (x := v) (fun y hy => by rw [decide_eq_true (hp y hy)]; rfl) h).symm
theorem here_none {f : Fld} {a b : Str} {l : List Int} (hl : l = valuesOf f (max (a.length : Int) (b.length : Int) * f.big)) (hp : ∀ x ∈ l, pressRow f x a.cps.toList = pressRow f x b.cps.toList) : none = partRows f a b := by
  unfold partRows partHere
  rw [← lenL, ← lenL, ← hl]
  symm
  rw [List.find?_eq_none]
  intro x hx
  rw [decide_eq_true (hp x hx)]
  exact Bool.false_ne_true
theorem partRows_none {f : Fld} {a b : Str} : partRows f a b = none ↔ ∀ v ∈ valuesOf f (max (a.length : Int) (b.length : Int) * f.big), pressRow f v a.cps.toList = pressRow f v b.cps.toList := by
  unfold partRows partHere
  rw [← lenL, ← lenL, List.find?_eq_none]
  constructor
  · intro h v hv
    have := h v hv
    simpa using this
  · intro h v hv
    rw [decide_eq_true (h v hv)]
    exact Bool.false_ne_true
theorem partRows_some {f : Fld} {a b : Str} {v : Int} (h : partRows f a b = some v) : v ∈ valuesOf f (max (a.length : Int) (b.length : Int) * f.big) ∧ pressRow f v a.cps.toList ≠ pressRow f v b.cps.toList := by
  unfold partRows partHere at h
  rw [← lenL, ← lenL] at h
  refine ⟨List.mem_of_find?_eq_some h, ?_⟩
  have := List.find?_some h
  simpa using this
/-! ### a list of drawn things is made, to be changed -/
theorem n_newL {α : Type} [Rep α] (K : PySem.W.Frag) {σ : L2.St} {H : Hp} {tA : TA} {u : TS} {D : Ends} {n m : Nat} {P : α → Prop} {s' : V → L2.St} (h : ENs K tA σ H m P) (hm : m ≤ 100000) (s : ∀ v, SetAt σ n v (s' v)) (g : ∀ l, (s' (.ref l))[n]? = some (some (.ref l)))
    (k : ∀ (xs : List α) l ws H1, xs.length = m → (∀ x ∈ xs, P x) → H l = none → Ex H H1 → H1 l = some (MutO l ws) → rels K H1 ws xs → u D (s' (.ref l)) H1) : tSeq (tAsg (tLst tA) (gName n)) (tClose n u) D σ H :=
  h H (Ex.refl H) _ fun xs vs H1 hl hp e rs => ⟨by rw [rels_len rs, hl]; exact sz_of hm, fun p hq => by
    show tClose n u D (σ.set n (some (.ref p))) (upd H1 p (.lst vs))
    rw [(s _).eq]
    refine ⟨p, vs, g p, upd_same, ?_⟩
    rw [upd_upd]
    exact k xs p vs _ hl hp (fresh_back e hq) (e.trans (Ex.new hq)) upd_same (rels_mono (Ex.new hq) rs)⟩
theorem atI_last {α : Type} {xs : List α} {d : α} (h : 1 ≤ xs.length) : atI xs (-1) = some (xs.getD (xs.length - 1) d) := by
  unfold atI
  have e : L2.ixN xs.length (-1) = some (xs.length - 1) := by
    unfold L2.ixN
    rw [if_neg (by omega), if_pos (by omega)]
    congr 1
    omega
  rw [e]
  show xs[xs.length - 1]? = _
  rw [List.getD_eq_getElem?_getD, List.getElem?_eq_getElem (by omega)]
  rfl
theorem ixN_last {α : Type} {xs : List α} (h : 1 ≤ xs.length) : L2.ixN xs.length (-1) = some (xs.length - 1) := by
  unfold L2.ixN
  rw [if_neg (by omega), if_pos (by omega)]
  congr 1
  omega
theorem getD_mem {α : Type} {xs : List α} {i : Nat} {d : α} (h : i < xs.length) : xs.getD i d ∈ xs := by
  rw [List.getD_eq_getElem?_getD, List.getElem?_eq_getElem h]
  exact List.getElem_mem h
theorem nb_t {b : Bool} (h : (!b) = true) : b = false := by
  cases b
  · rfl
  · cases h
theorem nb_f {b : Bool} (h : (!b) = false) : b = true := by
  cases b
  · cases h
  · rfl
theorem n_setL {α : Type} [Rep α] (K : PySem.W.Frag) {σ : L2.St} {H : Hp} {tA : TA} {u : TS} {D : Ends} {n m : Nat} {P : α → Prop} {s' : V → L2.St} (h : ENs K tA σ H m P) (hm : m ≤ 100000) (s : ∀ v, SetAt σ n v (s' v))
    (k : ∀ (xs : List α) v H1, xs.length = m → (∀ x ∈ xs, P x) → Ex H H1 → Rep.rel K H1 v xs → u D (s' v) H1) : tSeq (tAsg (tLst tA) (gName n)) u D σ H :=
  h H (Ex.refl H) _ fun xs vs H1 hl hp e rs => ⟨by rw [rels_len rs, hl]; exact sz_of hm, fun p hq => by
    show u D (σ.set n (some (.ref p))) (upd H1 p (.lst vs))
    rw [(s _).eq]
    exact k xs (.ref p) _ hl hp (e.trans (Ex.new hq)) ⟨p, vs, rfl, upd_same, rels_mono (Ex.new hq) rs⟩⟩
section
variable {α β γ : Type} [Rep α] [Rep β] [Rep γ] {K : PySem.W.Frag} {σ : L2.St} {H : Hp} {te tb : TE} {tl th : TO} {r : V → Option Int → Option Int → Hp → VK → Prop} {P1 : α → Prop} {P2 : β → Prop} {P : γ → Prop}
theorem en_slV (ha : EN K te σ H P1) (h : ∀ x v H1, Ex H H1 → P1 x → Rep.rel K H1 v x → EN K (tSl r (tC v) tl th) σ H1 P) : EN K (tSl r te tl th) σ H P := fun H1 e Q q =>
  ha H1 e _ fun x v H2 p1 e2 r1 => h x v H2 (e.trans e2) p1 r1 H2 (Ex.refl _) Q fun z v' H4 p e4 r4 => q z v' H4 p (e2.trans e4) r4
theorem en_slL (ha : EN K te σ H P1) (hb : EN K tb σ H P2) (h : ∀ x y v w H1, Ex H H1 → P1 x → P2 y → Rep.rel K H1 v x → Rep.rel K H1 w y → EN K (tSl r (tC v) (tPart (tC w)) th) σ H1 P) : EN K (tSl r te (tPart tb) th) σ H P := fun H1 e Q q =>
  ha H1 e _ fun x v H2 p1 e2 r1 => hb H2 (e.trans e2) _ fun y w H3 p2 e3 r2 => h x y v w H3 ((e.trans e2).trans e3) p1 p2 (Rep.mono e3 r1) r2 H3 (Ex.refl _) Q fun z v' H4 p e4 r4 => q z v' H4 p ((e2.trans e3).trans e4) r4
end
theorem cutS_mem {z : Str} {lo hi : Option Int} {c : Nat} (h : c ∈ (cutS z lo hi).cps.toList) : c ∈ z.cps.toList := by
  rw [cutS_list] at h
  exact List.mem_of_mem_drop (List.mem_of_mem_take h)
theorem tl_app {x y : Str} : (x ++ y).cps.toList = x.cps.toList ++ y.cps.toList := Array.toList_append
theorem paired_ex {α β : Type} {P : α → β → Prop} {as : List α} {bs : List β} (h : Paired P as bs) : ∀ b ∈ bs, ∃ a ∈ as, P a b := by
  induction h with
  | nil => exact fun _ h => nomatch h
  | cons r _ ih =>
    intro b hb
    rcases List.mem_cons.mp hb with z | z
    · subst z; exact ⟨_, List.mem_cons_self .., r⟩
    · obtain ⟨a, h1, h2⟩ := ih b z
      exact ⟨a, List.mem_cons_of_mem _ h1, h2⟩
theorem er_slL {α : Type} [Rep α] {K : PySem.W.Frag} {σ : L2.St} {H : Hp} {te : TE} {tl th : TO} {xs : List α} {lo hi : Option Int} (h : ER K te σ H xs) (hl : EO K tl σ H lo) (hh : EO K th σ H hi) : ER K (tSl (rSlL K) te tl th) σ H (cutL xs lo hi) := fun H1 e Q q =>
  h H1 e _ fun v H2 e2 r => hl H2 (e.trans e2) _ fun H3 e3 => hh H3 ((e.trans e2).trans e3) _ fun H4 e4 => by
    obtain ⟨a, vs, hv, hs, hr⟩ := Rep.mono (e3.trans e4) r
    exact ⟨a, vs, hv, sq_of hs, fun p hp => q (.ref p) _ (((e2.trans e3).trans e4).trans (Ex.new hp)) ⟨p, cutV vs lo hi, rfl, upd_same, rels_mono (Ex.new hp) (cutV_rels hr lo hi)⟩⟩
theorem cutL_to {α : Type} {xs : List α} {n : Nat} : cutL xs none (some (n : Int)) = xs.take n := by
  unfold cutL
  rw [sIx_some (by omega)]
  show (xs.drop 0).take (min (n : Int).toNat xs.length - 0) = _
  rw [List.drop_zero, Nat.sub_zero, show (n : Int).toNat = n by omega]
  exact List.take_eq_take_min.symm
theorem in_bls {b : Bool} {xs : List Bool} : inV (.bl b) (xs.map V.bl) = decide (b ∈ xs) := by
  unfold inV
  induction xs with
  | nil => rfl
  | cons x r ih =>
    rw [List.map_cons, List.any_cons, ih]
    show (x == b || _) = _
    rw [Bool.eq_iff_iff]
    simp only [Bool.or_eq_true, beq_iff_eq, decide_eq_true_eq, List.mem_cons]
    exact or_congr_left ⟨Eq.symm, Eq.symm⟩
theorem flat_bls {xs : List Bool} : (xs.map V.bl).all flatV = true := by
  rw [List.all_map]
  exact List.all_eq_true.mpr fun _ _ => rfl
theorem er_ninB {K : PySem.W.Frag} {σ : L2.St} {H : Hp} {ta tb : TE} {b : Bool} {xs : List Bool} (ha : ER K ta σ H b) (hb : ER K tb σ H xs) : ER K (tOp (rIn K true) ta tb) σ H (!decide (b ∈ xs)) := fun H1 e Q q =>
  ha H1 e _ fun v H2 e2 r => hb H2 (e.trans e2) _ fun w H3 e3 ⟨p, vs, hw, hs, hr⟩ => by
    cases r
    have h1 := rels_bls hr
    subst h1
    exact ⟨p, _, hw, .inl (sq_of hs), rfl, flat_bls, q _ H3 (e2.trans e3) (by rw [if_pos rfl, in_bls]; rfl)⟩
section
variable {α β : Type} [Rep α] [Rep β] {K : PySem.W.Frag} {σ : L2.St} {H : Hp} {te : TE} {tt : TT}
theorem el_lc [Imm β] [ImmX β] {wi : TI} {xs : List α} {vs : List Nat} {gt : TG} (f : α → Bool) (g : α → β) (h : Wk K wi σ H xs) (hz : xs.length ≤ 100000)
    (ht : ∀ x v H1, x ∈ xs → Ex H H1 → Rep.rel K H1 v x → ∀ Q : L2.St → Hp → Prop, (∀ σ2 H2, Ex H1 H2 → wipe σ2 vs = wipe σ vs → ET K tt σ2 H2 (f x) → (f x = true → ER K te σ2 H2 (g x)) → Q σ2 H2) → gt v (wipe σ vs) H1 Q) :
    EL K (tLc wi gt tt te vs) σ H ((xs.filter f).map g) := fun H0 e Q q => by
  refine h H0 e _ fun J H2 G Y e2 w hG hY => ?_
  intro Dl hD
  have hx0 : ∀ i x, xs[i]? = some x → xs.take (i + 1) = xs.take i ++ [x] := fun i x hx => by
    rw [List.take_add_one, hx]
    rfl
  refine lc_it w (fun i H' => Ex H2 H' ∧ ∃ ws, H' Dl = some (.lst ws) ∧ rels K H' ws (((xs.take i).filter f).map g)) ⟨Ex.new hD, [], upd_same, by rw [List.take_zero]; exact .nil⟩ (fun i H' _ p => hG H' p.1.y) (fun i v H' H'' hi p y => ?_) (fun H' p => ?_)
  · obtain ⟨p1, ws, p2, p3⟩ := p
    obtain ⟨e3, x, hx, r⟩ := hY i H' v H'' hi p1.y y
    have hm : x ∈ xs := List.mem_of_getElem? hx
    refine ht x v H'' hm ((e.trans e2).trans (p1.trans e3)) r _ fun σ2 H3 e4 hw t1 t2 => ⟨hw, ?_⟩
    refine t1 H3 (Ex.refl _) _ fun H4 e5 => ?_
    have hl : ws.length ≤ i := by
      rw [rels_len p3, List.length_map]
      exact Nat.le_trans (List.length_filter_le ..) (by rw [List.length_take]; omega)
    have p1' : Ex H2 H4 := ((p1.trans e3).trans e4).trans e5
    have p2' : H4 Dl = some (.lst ws) := e5 _ _ (e4 _ _ (e3 _ _ p2))
    cases hf : f x with
    | true =>
      show te σ2 H4 _
      refine t2 hf H4 e5 _ fun y H5 e6 ry => ⟨ws, e6 _ _ p2', sz_lt (by omega), Ex.mut (p1'.trans e6) hD, ws ++ [y], upd_same, ?_⟩
      have fin : rels K H5 (ws ++ [y]) (((xs.take (i + 1)).filter f).map g) := by
        rw [hx0 i x hx, List.filter_append, List.map_append, List.filter_cons, if_pos hf]
        exact rels_snoc (rels_mono ((((e3.trans e4).trans e5)).trans e6) p3) ry
      exact rels_imm (e6 _ _ p2') fin
    | false =>
      show Ex H2 H4 ∧ _
      refine ⟨p1', ws, p2', ?_⟩
      rw [hx0 i x hx, List.filter_append, List.map_append, List.filter_cons, if_neg (by rw [hf]; decide)]
      show rels K H4 ws (_ ++ [])
      rw [List.append_nil]
      exact rels_mono ((e3.trans e4).trans e5) p3
  · obtain ⟨p1, ws, p2, p3⟩ := p
    rw [List.take_length] at p3
    exact q Dl ws H' (fresh_back e2 hD) (e2.trans p1) p2 (Paired.mapP p3 fun _ _ => ImmX.imm p2)
theorem el_lcY [Imm β] [ImmX β] {wi : TI} {xs : List α} {vs : List Nat} {gt : TG} (g : α → β) (h : Wk K wi σ H xs) (hz : xs.length ≤ 100000)
    (ht : ∀ x v H1, x ∈ xs → Ex H H1 → Rep.rel K H1 v x → ∀ Q : L2.St → Hp → Prop, (∀ σ2 H2, Ex H1 H2 → wipe σ2 vs = wipe σ vs → ER K te σ2 H2 (g x) → Q σ2 H2) → gt v (wipe σ vs) H1 Q) :
    EL K (tLc wi gt tYes te vs) σ H (xs.map g) := by
  have z := el_lc (tt := tYes) (te := te) (vs := vs) (gt := gt) (fun _ => true) g h hz fun x v H1 hx e r Q q => ht x v H1 hx e r Q fun σ2 H2 e2 hw t2 => q σ2 H2 e2 hw (fun H3 _ Q' q' => q' H3 (Ex.refl _)) (fun _ => t2)
  have ef : xs.filter (fun _ => true) = xs := List.filter_eq_self.mpr fun _ _ => rfl
  rw [ef] at z
  exact z
end
theorem etn_isNo {α : Type} [Rep α] [NN α] {K : PySem.W.Frag} {σ : L2.St} {H : Hp} {ta : TE} {P : Option α → Prop} (h : EN K ta σ H P) (hp : ∀ x, P x → x.isNone = false) : ETN K (tTest (tOp rIsN ta (tC .non))) σ H (fun b => b = false) := fun H1 e Q q =>
  h H1 e _ fun x v H2 p e2 r => (et_t (er_isNone (er_c (x := x) r)) : ET K (tTest (tOp rIsN (tC v) (tC .non))) σ H2 x.isNone) H2 (Ex.refl _) Q fun H3 e3 => q _ H3 (hp x p) (e2.trans e3)
end Sf

namespace Sf
open PySem PySem.Spec PyProof.Rows L2 Evl
theorem k04_due {one other : Fld} (hs : one.high - one.low ≤ 400) (hl : other.low = one.low) (hh : other.high = one.high) : partOf one other = firstVal one other (rng one.low (one.high + 1 - one.low).toNat) := by
  unfold partOf
  rw [partSpots_rng hs hl hh]
theorem k04_self {f : Fld} : partOf f f = none := by
  unfold partOf
  rw [firstVal_none]
  intro v _ k _
  rfl
theorem k04_row {one other : Fld} (ho : FL one) (hs : one.high - one.low ≤ 400) (hl : other.low = one.low) (hh : other.high = one.high) (h : partOf one other = none) : ∀ {z : List Nat} {v : Int}, (one.low ≤ v ∧ v ≤ one.high) → (∀ c ∈ z, isKey c) → pressRow one v z = pressRow other v z
  | [], _, _, _ => rfl
  | c :: r, v, hv, hz => by
    have hc := hz c (List.mem_cons_self ..)
    have e1 : pressKey one v c = pressKey other v c := by
      have k := firstVal_none.mp h v ((partSpots_all hs hl hh).mpr hv) (Sg.mk c) (sgs_keys.mpr hc)
      exact k
    show pressRow one (pressKey one v c) r = pressRow other (pressKey other v c) r
    rw [← e1]
    exact k04_row ho hs hl hh h (pressKey_in ho hv hc) fun x hx => hz x (List.mem_cons_of_mem _ hx)
theorem isNone_due {α : Type} {x : Option α} [DecidableEq α] : x.isNone = decide (x = none) := by
  cases x
  · rfl
  · simp
theorem k04_mid {f x : Fld} (hf : FOk f) (h : x = f ∨ x = f ∨ NearPost f x) : NearPost f x := by
  rcases h with z | z | z
  · rw [z]; exact ⟨hf, rfl, rfl⟩
  · rw [z]; exact ⟨hf, rfl, rfl⟩
  · exact z
theorem key_big {c : Nat} (h : isKey c) : c < 0x110000 := by
  unfold isKey at h
  omega
theorem good_first {o p : Fld} {l : List Int} : EqT.good (firstVal o p l) := fun y h => by
  obtain ⟨_, h2⟩ := firstVal_some h
  exact ⟨trivial, key_big (sgs_keys.mp (firstKey_some h2).1)⟩
theorem good_part {o p : Fld} : EqT.good (partOf o p) := good_first
theorem goodS {v : Int} {k : Nat} (h : k < 0x110000) : EqT.good (some (v, Sg.mk k)) := fun y e => by
  cases e
  exact ⟨trivial, h⟩
end Sf

namespace Sf
open PySem PySem.Spec PyProof.Rows L2 Evl
def isOn (f : Fld) (v : Int) : Bool := decide ((v - f.base) % f.step = 0)
/-- the last place up to which all hold -/
def lastT (p : Nat → Bool) : Nat → Nat
  | 0 => 0
  | n + 1 => if p n = true then n + 1 else lastT p n
theorem lastT_le {p : Nat → Bool} : ∀ n, lastT p n ≤ n
  | 0 => Nat.le_refl _
  | n + 1 => by
    unfold lastT
    split
    · omega
    · have := lastT_le (p := p) n
      omega
theorem lastT_hi {p : Nat → Bool} : ∀ n i, lastT p n ≤ i → i < n → p i = false
  | 0, i, _, h => by omega
  | n + 1, i, h1, h2 => by
    unfold lastT at h1
    split at h1
    · omega
    · next h =>
      by_cases e : i = n
      · subst e
        exact no_of h
      · exact lastT_hi n i h1 (by omega)
theorem lastT_lo {p : Nat → Bool} (hp : ∀ i, p (i + 1) = true → p i = true) : ∀ n i, i < lastT p n → p i = true
  | 0, i, h => by
    unfold lastT at h
    omega
  | n + 1, i, h => by
    unfold lastT at h
    split at h
    · next h1 =>
      have g : ∀ k, k ≤ n → p (n - k) = true := by
        intro k
        induction k with
        | zero => exact fun _ => h1
        | succ k ih =>
          intro hk
          apply hp
          have := ih (by omega)
          rw [show n - (k + 1) + 1 = n - k by omega]
          exact this
      have := g (n - i) (by omega)
      rw [show n - (n - i) = i by omega] at this
      exact this
    · exact lastT_lo hp n i h
theorem slide_div {s p : Int} (s0 : 1 ≤ s) (s1 : s ≤ 1000000000000) (p0 : 1 ≤ p) (p1 : p ≤ 4000000000000) : 0 < 2 * s * p ∧ 2 * s * p < 1267650600228229401496703205376 := by
  have h1 : 0 < 2 * s * p := Int.mul_pos (by omega) (by omega)
  have h2 : 2 * s * p ≤ 2 * s * 4000000000000 := Int.mul_le_mul_of_nonneg_left p1 (by omega)
  omega
def rawAt (f : Fld) (w d : Int) : Int := f.base + (2 * ((f.low - f.base) * (w - 1) + (f.high - f.low) * d) + f.step * (w - 1)) / (2 * f.step * (w - 1)) * f.step
def valueAt (f : Fld) (w d : Int) : Int := max (gridOf f).1 (min (gridOf f).2 (rawAt f w d))
theorem raw_mono {f : Fld} {w d d' : Int} (hf : FL f) (hw : 2 ≤ w) (h : d ≤ d') : rawAt f w d ≤ rawAt f w d' := by
  obtain ⟨l0, lh, h1, s0, s1, b0, b1⟩ := hf
  unfold rawAt
  have h2 : (f.high - f.low) * d ≤ (f.high - f.low) * d' := Int.mul_le_mul_of_nonneg_left h (by omega)
  have hp : 0 < 2 * f.step * (w - 1) := Int.mul_pos (by omega) (by omega)
  have h3 := Int.ediv_le_ediv hp (show 2 * ((f.low - f.base) * (w - 1) + (f.high - f.low) * d) + f.step * (w - 1) ≤ 2 * ((f.low - f.base) * (w - 1) + (f.high - f.low) * d') + f.step * (w - 1) by omega)
  have h4 := Int.mul_le_mul_of_nonneg_right h3 (show 0 ≤ f.step by omega)
  omega
theorem value_mono {f : Fld} {w d d' : Int} (hf : FL f) (hw : 2 ≤ w) (h : d ≤ d') : valueAt f w d ≤ valueAt f w d' := by
  have := raw_mono (d := d) (d' := d') hf hw h
  unfold valueAt
  omega
def firstDot (f : Fld) (w v : Int) : Int := (lastT (fun i => decide (valueAt f w (i : Nat) < v)) w.toNat : Nat)
theorem firstDot_le {f : Fld} {w v : Int} (hw : 0 ≤ w) : 0 ≤ firstDot f w v ∧ firstDot f w v ≤ w := by
  have := lastT_le (p := fun i => decide (valueAt f w (i : Nat) < v)) w.toNat
  unfold firstDot
  omega
theorem firstDot_lo {f : Fld} {w v : Int} (hf : FL f) (hw : 2 ≤ w) : ∀ d, 0 ≤ d → d < firstDot f w v → valueAt f w d < v := by
  intro d h0 h1
  have h2 := lastT_lo (p := fun i => decide (valueAt f w (i : Nat) < v)) (fun i hi => by
    simp only [decide_eq_true_eq] at hi ⊢
    have := value_mono (d := ((i : Nat) : Int)) (d' := ((i + 1 : Nat) : Int)) hf hw (by omega)
    omega) w.toNat d.toNat (by
    unfold firstDot at h1
    omega)
  simp only [decide_eq_true_eq] at h2
  rw [show ((d.toNat : Nat) : Int) = d by omega] at h2
  exact h2
theorem firstDot_hi {f : Fld} {w v : Int} : ∀ d, firstDot f w v ≤ d → d < w → v ≤ valueAt f w d := by
  intro d h0 h1
  have hd : 0 ≤ d := by
    unfold firstDot at h0
    omega
  have h2 := lastT_hi (p := fun i => decide (valueAt f w (i : Nat) < v)) w.toNat d.toNat (by
    unfold firstDot at h0
    omega) (by omega)
  simp only [decide_eq_false_iff_not] at h2
  rw [show ((d.toNat : Nat) : Int) = d by omega] at h2
  omega
theorem firstDot_eq {f : Fld} {w v D : Int} (hf : FL f) (hw : 2 ≤ w) (h0 : 0 ≤ D) (h1 : D ≤ w) (hlo : ∀ d, 0 ≤ d → d < D → valueAt f w d < v) (hhi : ∀ d, D ≤ d → d < w → v ≤ valueAt f w d) : firstDot f w v = D := by
  have a := firstDot_le (f := f) (w := w) (v := v) (by omega)
  by_cases h : firstDot f w v < D
  · have b := hlo _ a.1 h
    have c := firstDot_hi (f := f) (w := w) (v := v) _ (Int.le_refl _) (by omega)
    omega
  · by_cases h2 : D < firstDot f w v
    · have b := firstDot_lo (v := v) hf hw D h0 h2
      have c := hhi D (Int.le_refl _) (by omega)
      omega
    · omega
def rangeOf (f : Fld) (w v : Int) : Option (Int × Int) :=
  if (decide (firstDot f w v = w) || !decide (valueAt f w (firstDot f w v) = v)) = true then none else some (firstDot f w v, firstDot f w (v + 1) - 1)
def dotsFor (f : Fld) (w v : Int) : Option (Int × Int) := if isOn f v = true then rangeOf f w v else none
def everyOf (f : Fld) : Int := ((gridOf f).2 - (gridOf f).1) / f.step + 1
def countOf (f : Fld) (w : Int) : Int :=
  if (decide (everyOf f = 1) || decide (f.high - f.low ≤ f.step * (w - 1))) = true then everyOf f else firstDot f w (gridOf f).2 - firstDot f w ((gridOf f).1 + 1) + 2
abbrev WOk (w : Int) : Prop := 2 ≤ w ∧ w ≤ 1000000
abbrev WOx (w : Int) : Prop := 2 ≤ w ∧ w ≤ 4000000000000
theorem wok_x {w : Int} (h : WOk w) : WOx w := ⟨h.1, Int.le_trans h.2 (by decide)⟩
/-- the first value that is missed, by halving -/
def missGo (f : Fld) (w first start : Int) : Nat → Int → Int → Int
  | 0, lo, _ => lo
  | n + 1, lo, hi => if lo < hi then (if first + ((lo + hi) / 2 + 1) * f.step < valueAt f w (start + (lo + hi) / 2) then missGo f w first start n lo ((lo + hi) / 2) else missGo f w first start n ((lo + hi) / 2 + 1) hi) else lo
def enoughGo (f : Fld) : Nat → Int → Int
  | 0, w => w
  | n + 1, w => if countOf f w < everyOf f then enoughGo f n (w + 1) else w
end Sf

namespace Sf
open PySem PySem.Spec PyProof.Rows L2 Evl
/-! ### one key, held -/
def iterK (f : Fld) (c : Nat) : Nat → Int → Int
  | 0, v => v
  | n + 1, v => iterK f c n (pressKey f v c)
theorem iterK_add {f : Fld} {c : Nat} : ∀ (m n : Nat) (v : Int), iterK f c (m + n) v = iterK f c n (iterK f c m v)
  | 0, n, v => by rw [Nat.zero_add]; rfl
  | m + 1, n, v => by
    rw [show m + 1 + n = (m + n) + 1 by omega]
    exact iterK_add m n (pressKey f v c)
theorem iterK_one {f : Fld} {c : Nat} {v : Int} : iterK f c 1 v = pressKey f v c := rfl
theorem iterK_succ {f : Fld} {c : Nat} (n : Nat) (v : Int) : iterK f c (n + 1) v = pressKey f (iterK f c n v) c := by
  rw [iterK_add n 1 v]
  rfl
theorem iterK_in {f : Fld} {c : Nat} (hf : FL f) (hk : isKey c) : ∀ (n : Nat) {v : Int}, (f.low ≤ v ∧ v ≤ f.high) → f.low ≤ iterK f c n v ∧ iterK f c n v ≤ f.high
  | 0, v, hv => hv
  | n + 1, v, hv => iterK_in hf hk n (pressKey_in hf hv hk)
theorem iterK_stay {f : Fld} {c : Nat} {v : Int} (h : pressKey f v c = v) : ∀ n : Nat, iterK f c n v = v
  | 0 => rfl
  | n + 1 => by
    show iterK f c n (pressKey f v c) = v
    rw [h]
    exact iterK_stay h n
theorem iterK_period {f : Fld} {c p : Nat} {v : Int} (h : iterK f c p v = v) : ∀ k : Nat, iterK f c (p * k) v = v
  | 0 => rfl
  | k + 1 => by
    rw [Nat.mul_succ, iterK_add, iterK_period h k]
    exact h
theorem iterK_mod {f : Fld} {c p n : Nat} {v : Int} (h : iterK f c p v = v) : iterK f c n v = iterK f c (n % p) v := by
  have e : n = p * (n / p) + n % p := (Nat.div_add_mod n p).symm
  have h1 : iterK f c (p * (n / p) + n % p) v = iterK f c (n % p) v := by rw [iterK_add, iterK_period h]
  rw [← e] at h1
  exact h1
/-- a value on a step, or with add: an aim is so many steps away -/
theorem aim_exact {f : Fld} {v m : Int} (hs : 1 ≤ f.step) (h : f.off = "add" ∨ isOn f v = true) : aimOf f v m = v + m * f.step := by
  unfold aimOf
  by_cases ha : f.off = "add"
  · rw [if_pos ha]
  · rw [if_neg ha]
    have ho := of_decide_eq_true (h.resolve_left ha)
    have e : v - f.base = f.step * ((v - f.base) / f.step) := by
      have := Int.emod_add_mul_ediv (v - f.base) f.step
      omega
    have e2 : f.step * ((v - f.base) / f.step) = ((v - f.base) / f.step) * f.step := Int.mul_comm _ _
    generalize (v - f.base) / f.step = k at e e2
    have e3 : v = f.base + k * f.step := by omega
    split
    · rw [show (2 * (v - f.base) + f.step) / (2 * f.step) = k from div_eq (by omega) (by
        have z : k * (2 * f.step) = 2 * (k * f.step) := by rw [Int.mul_left_comm]
        omega) (by
        have z : k * (2 * f.step) = 2 * (k * f.step) := by rw [Int.mul_left_comm]
        omega), Int.add_mul]
      omega
    · split
      · rw [Int.add_mul]
        omega
      · rw [show (f.base - v) / f.step = -k from div_eq (by omega) (by rw [Int.neg_mul]; omega) (by rw [Int.neg_mul]; omega), Int.neg_neg, Int.add_mul]
        omega
theorem on_step {f : Fld} {v k : Int} (h : isOn f v = true) : isOn f (v + k * f.step) = true := by
  unfold isOn at h ⊢
  rw [decide_eq_true_eq] at h ⊢
  rw [show v + k * f.step - f.base = (v - f.base) + k * f.step by omega, Int.add_mul_emod_self_right]
  exact h
theorem press_exact {f : Fld} {v : Int} {c : Nat} (hs : 1 ≤ f.step) (hm : isMove c) (h : f.off = "add" ∨ isOn f v = true) (hi : f.low ≤ v + manySteps f c * f.step ∧ v + manySteps f c * f.step ≤ f.high) : pressKey f v c = v + manySteps f c * f.step := by
  rw [pressKey_move hm, aim_exact hs h, if_pos hi]
def absI (m : Int) : Int := if m < 0 then -m else m
def roomOf (f : Fld) (v m : Int) : Int := if ((!isOn f v) && (!decide (f.off = "add"))) = true then 0 else (if decide (0 < m) = true then f.high - v else v - f.low) / (absI m * f.step)
theorem room_far {f : Fld} {v m : Int} (h : ((!isOn f v) && (!decide (f.off = "add"))) = false) : roomOf f v m = (if decide (0 < m) = true then f.high - v else v - f.low) / (absI m * f.step) := by
  unfold roomOf
  rw [if_neg (by rw [h]; exact Bool.false_ne_true)]
theorem many_ne {f : Fld} {c : Nat} (hb : 2 ≤ f.big) (hm : isMove c) : 1 ≤ manySteps f c ∨ manySteps f c ≤ -1 := by
  by_cases h : isUp c
  · exact .inl (many_up hb h).1
  · exact .inr (many_dn hb hm h).1
theorem room_0 {f : Fld} {v m : Int} (hs : 1 ≤ f.step) (hv : f.low ≤ v ∧ v ≤ f.high) (hm : 1 ≤ m ∨ m ≤ -1) : 0 ≤ roomOf f v m := by
  unfold roomOf
  split
  · omega
  · refine Int.ediv_nonneg (by split <;> omega) (Int.mul_nonneg ?_ (by omega))
    unfold absI
    split <;> omega
theorem room_le {f : Fld} {v m : Int} (hs : 1 ≤ f.step) (hv : f.low ≤ v ∧ v ≤ f.high) (hm : 1 ≤ m ∨ m ≤ -1) : roomOf f v m ≤ f.high - f.low := by
  unfold roomOf
  split
  · omega
  · refine Int.le_trans (Int.ediv_le_self _ (by split <;> omega)) (by split <;> omega)
/-- jumps within the room -/
theorem room_in {f : Fld} {v m i : Int} (hs : 1 ≤ f.step) (hv : f.low ≤ v ∧ v ≤ f.high) (hm : 1 ≤ m ∨ m ≤ -1) (h0 : 0 ≤ i) (hi : i ≤ roomOf f v m) : (f.low ≤ v + i * m * f.step ∧ v + i * m * f.step ≤ f.high) ∧ (1 ≤ i → f.off = "add" ∨ isOn f v = true) ∧ (1 ≤ i → 1 ≤ m → f.low < v + i * m * f.step) ∧ (1 ≤ i → m ≤ -1 → v + i * m * f.step < f.high) := by
  unfold roomOf at hi
  split at hi
  · have : i = 0 := by omega
    subst this
    rw [Int.zero_mul, Int.zero_mul]
    exact ⟨by omega, fun h => by omega, fun h => by omega, fun h => by omega⟩
  · next hc =>
    have hor : f.off = "add" ∨ isOn f v = true := by
      by_cases ha : f.off = "add"
      · exact .inl ha
      · refine .inr ?_
        rw [decide_eq_false ha] at hc
        simpa using hc
    have e : i * m * f.step = i * (m * f.step) := Int.mul_assoc ..
    rcases hm with hm | hm
    · rw [if_pos (decide_eq_true (by omega))] at hi
      have ea : absI m = m := by
        unfold absI
        rw [if_neg (by omega)]
      rw [ea] at hi
      have hp : 0 < m * f.step := Int.mul_pos (by omega) (by omega)
      have h1 : i * (m * f.step) ≤ f.high - v := (Int.le_ediv_iff_mul_le hp).mp hi
      have h2 : 0 ≤ i * (m * f.step) := Int.mul_nonneg h0 (by omega)
      refine ⟨by omega, fun _ => hor, fun h _ => ?_, fun _ _ => by omega⟩
      have h3 : 1 * (m * f.step) ≤ i * (m * f.step) := Int.mul_le_mul_of_nonneg_right h (by omega)
      omega
    · rw [if_neg (by rw [decide_eq_true_eq]; omega)] at hi
      have ea : absI m = -m := by
        unfold absI
        rw [if_pos (by omega)]
      rw [ea] at hi
      have hp : 0 < -m * f.step := Int.mul_pos (by omega) (by omega)
      have h1 : i * (-m * f.step) ≤ v - f.low := (Int.le_ediv_iff_mul_le hp).mp hi
      have h2 : 0 ≤ i * (-m * f.step) := Int.mul_nonneg h0 (by omega)
      have e2 : i * (-m * f.step) = -(i * (m * f.step)) := by rw [Int.neg_mul, Int.mul_neg]
      refine ⟨by omega, fun _ => hor, fun _ _ => by omega, fun h _ => ?_⟩
      have h3 : 1 * (-m * f.step) ≤ i * (-m * f.step) := Int.mul_le_mul_of_nonneg_right h (by omega)
      omega
theorem jump_eq {f : Fld} {v : Int} {c : Nat} (hs : 1 ≤ f.step) (hb : 2 ≤ f.big) (hv : f.low ≤ v ∧ v ≤ f.high) (hm : isMove c) : ∀ n : Nat, (n : Int) ≤ roomOf f v (manySteps f c) → iterK f c n v = v + (n : Int) * manySteps f c * f.step
  | 0, _ => by
    rw [show ((0 : Nat) : Int) = 0 from rfl, Int.zero_mul, Int.zero_mul]
    show v = v + 0
    omega
  | n + 1, h => by
    have hn := many_ne (f := f) hb hm
    have ih := jump_eq hs hb hv hm n (by omega)
    have k := room_in (i := ((n + 1 : Nat) : Int)) hs hv hn (by omega) h
    rw [iterK_succ, ih]
    have e : v + (n : Int) * manySteps f c * f.step + manySteps f c * f.step = v + ((n + 1 : Nat) : Int) * manySteps f c * f.step := by
      rw [show ((n + 1 : Nat) : Int) = (n : Int) + 1 by omega, Int.add_mul, Int.add_mul, Int.one_mul]
      omega
    rw [press_exact hs hm ?_ (by rw [e]; exact k.1), e]
    exact (k.2.1 (by omega)).imp id fun z => on_step z
theorem emod_le {a p : Int} (ha : 0 ≤ a) (hp : 0 < p) : a % p ≤ a := by
  have := Int.emod_add_mul_ediv a p
  have h2 : 0 ≤ p * (a / p) := Int.mul_nonneg (by omega) (Int.ediv_nonneg ha (by omega))
  omega
theorem many_12 {f : Fld} {c : Nat} (hb : 2 ≤ f.big) (hb2 : f.big ≤ 12) (hm : isMove c) : -12 ≤ manySteps f c ∧ manySteps f c ≤ 12 := by
  by_cases h : isUp c
  · have := many_up hb h
    omega
  · have := many_dn hb hm h
    omega
def MarkI (f : Fld) (c : Nat) (B v t : Int) (M : List Int) : Prop := M = [] ∨
  (f.ends = "round" ∧ ∃ m0, M = [m0] ∧ t ≤ m0 ∧ v = iterK f c (m0 - t).toNat B ∧ ∀ j : Nat, 0 < j → (j : Int) ≤ m0 - t → iterK f c j B ≠ B) ∨
  (f.ends = "round" ∧ ∃ m0 m1 t0, M = [m0, m1] ∧ t ≤ t0 ∧ v = iterK f c (t0 - t).toNat B ∧ ∀ j : Nat, 0 < j → (j : Int) ≤ t0 → iterK f c j B ≠ B)
abbrev beginOf (f : Fld) (c : Nat) : Int := if decide (0 < manySteps f c) = true then f.low else f.high
structure HoldI (f : Fld) (c : Nat) (N : Nat) (v0 v t : Int) (M : List Int) : Prop where
  vi : f.low ≤ v ∧ v ≤ f.high
  t0 : 0 ≤ t
  t1 : t ≤ 1000000000000000000
  it : iterK f c t.toNat v = iterK f c N v0
  mrk : MarkI f c (beginOf f c) v t M
section
variable {f : Fld} {c N : Nat} {v0 v t new : Int} {M : List Int}
theorem hold_0 (hv : f.low ≤ v ∧ v ≤ f.high) (h0 : 0 ≤ t) (h1 : t ≤ 1000000000000000000) : HoldI f c t.toNat v v t [] := ⟨hv, h0, h1, rfl, .inl rfl⟩
theorem hold_jump (hf : FL f) (hb : 2 ≤ f.big) (hm : isMove c) (h : HoldI f c N v0 v t M) {j : Int} (hj : j = min t (roomOf f v (manySteps f c))) : HoldI f c N v0 (v + j * manySteps f c * f.step) (t - j) M := by
  have hs : 1 ≤ f.step := hf.2.2.2.1
  obtain ⟨vi, t0, t1, it, mk⟩ := h
  have hn := many_ne (f := f) hb hm
  have r0 := room_0 (m := manySteps f c) hs vi hn
  have j0 : 0 ≤ j := by omega
  have jr : j ≤ roomOf f v (manySteps f c) := by omega
  have jt : j ≤ t := by omega
  have e := jump_eq hs hb vi hm j.toNat (by omega)
  rw [show ((j.toNat : Nat) : Int) = j by omega] at e
  have ri := room_in hs vi hn j0 jr
  have nb : ∀ i : Nat, 0 < i → (i : Int) ≤ j → iterK f c i v ≠ beginOf f c := by
    intro i h0 h1
    rw [jump_eq hs hb vi hm i (by omega)]
    have k := room_in (i := (i : Int)) hs vi hn (by omega) (by omega)
    unfold beginOf
    split
    · next h2 =>
      have := of_decide_eq_true h2
      have := k.2.2.1 (by omega) (by omega)
      omega
    · next h2 =>
      rw [decide_eq_true_eq] at h2
      have := k.2.2.2 (by omega) (by omega)
      omega
  refine ⟨ri.1, by omega, by omega, ?_, ?_⟩
  · rw [← e, ← iterK_add, show j.toNat + (t - j).toNat = t.toNat by omega]
    exact it
  · rcases mk with z | ⟨rd, m0, z1, z2, z3, z4⟩ | ⟨rd, m0, m1, s0, z1, z2, z3, z4⟩
    · exact .inl z
    · refine .inr (.inl ⟨rd, m0, z1, by omega, ?_, fun i h0 h1 => ?_⟩)
      · rw [← e, show (m0 - (t - j)).toNat = (m0 - t).toNat + j.toNat by omega, iterK_add, ← z3]
      · by_cases hi : (i : Int) ≤ m0 - t
        · exact z4 i h0 hi
        · rw [show i = (m0 - t).toNat + (i - (m0 - t).toNat) by omega, iterK_add, ← z3]
          exact nb _ (by omega) (by omega)
    · refine .inr (.inr ⟨rd, m0, m1, s0, z1, by omega, ?_, z4⟩)
      rw [← e, show (s0 - (t - j)).toNat = (s0 - t).toNat + j.toNat by omega, iterK_add, ← z3]
theorem hold_end (h : HoldI f c N v0 v t M) (ht : ¬ 0 < t) : v = iterK f c N v0 := by
  have := h.t0
  rw [← h.it, show t.toNat = 0 by omega]
  rfl
theorem hold_stay (h : HoldI f c N v0 v t M) (e : pressKey f v c = v) : v = iterK f c N v0 := by
  rw [← h.it, iterK_stay e]
theorem hold_it (h : HoldI f c N v0 v t M) (ht : 0 < t) (e : new = pressKey f v c) : iterK f c (t - 1).toNat new = iterK f c N v0 := by
  rw [← h.it, show t.toNat = (t - 1).toNat + 1 by omega, e]
  rfl
theorem hold_press (hf : FL f) (hk : isKey c) (h : HoldI f c N v0 v t M) (ht : 0 < t) (e : new = pressKey f v c) (hn : ¬ (new = beginOf f c ∧ f.ends = "round")) : HoldI f c N v0 new (t - 1) M := by
  have hi := hold_it h ht e
  obtain ⟨vi, t0, t1, it, mk⟩ := h
  refine ⟨by rw [e]; exact pressKey_in hf vi hk, by omega, by omega, hi, ?_⟩
  rcases mk with z | ⟨rd, m0, z1, z2, z3, z4⟩ | ⟨rd, m0, m1, s0, z1, z2, z3, z4⟩
  · exact .inl z
  · refine .inr (.inl ⟨rd, m0, z1, by omega, ?_, fun i h0 h1 => ?_⟩)
    · rw [e, show (m0 - (t - 1)).toNat = (m0 - t).toNat + 1 by omega, iterK_succ, ← z3]
    · by_cases hi : (i : Int) ≤ m0 - t
      · exact z4 i h0 hi
      · rw [show i = (m0 - t).toNat + 1 by omega, iterK_succ, ← z3, ← e]
        exact fun z => hn ⟨z, rd⟩
  · refine .inr (.inr ⟨rd, m0, m1, s0, z1, by omega, ?_, z4⟩)
    rw [e, show (s0 - (t - 1)).toNat = (s0 - t).toNat + 1 by omega, iterK_succ, ← z3]
theorem hold_mark (hf : FL f) (hk : isKey c) (h : HoldI f c N v0 v t M) (ht : 0 < t) (e : new = pressKey f v c) (hn : new = beginOf f c) (rd : f.ends = "round") :
    ((M ++ [t - 1]).length ≤ 2 ∧ (¬ ((M ++ [t - 1]).length : Int) = 2 → HoldI f c N v0 new (t - 1) (M ++ [t - 1]))) ∧ (((M ++ [t - 1]).length : Int) = 2 → 0 < (M ++ [t - 1]).getD 0 0 - (M ++ [t - 1]).getD 1 0 ∧ HoldI f c N v0 new ((t - 1) % ((M ++ [t - 1]).getD 0 0 - (M ++ [t - 1]).getD 1 0)) (M ++ [t - 1])) := by
  have hi := hold_it h ht e
  obtain ⟨vi, t0, t1, it, mk⟩ := h
  have vn : f.low ≤ new ∧ new ≤ f.high := by rw [e]; exact pressKey_in hf vi hk
  rcases mk with z | ⟨_, m0, z1, z2, z3, z4⟩ | ⟨_, m0, m1, s0, z1, z2, z3, z4⟩
  · subst z
    refine ⟨⟨by show (1 : Nat) ≤ 2; decide, fun _ => ⟨vn, by omega, by omega, hi, .inr (.inl ⟨rd, t - 1, rfl, Int.le_refl _, ?_, fun j h0 h1 => by omega⟩)⟩⟩, fun z => absurd (show ((1 : Nat) : Int) = 2 from z) (by decide)⟩
    rw [Int.sub_self]
    exact hn
  · subst z1
    refine ⟨⟨by show (2 : Nat) ≤ 2; decide, fun z => absurd rfl z⟩, fun _ => ?_⟩
    show 0 < m0 - (t - 1) ∧ HoldI f c N v0 new ((t - 1) % (m0 - (t - 1))) [m0, t - 1]
    have hp : 0 < m0 - (t - 1) := by omega
    have eB : iterK f c (m0 - (t - 1)).toNat (beginOf f c) = beginOf f c := by
      rw [show (m0 - (t - 1)).toNat = (m0 - t).toNat + 1 by omega, iterK_succ, ← z3, ← e]
      exact hn
    have q0 := Int.emod_nonneg (t - 1) (show m0 - (t - 1) ≠ 0 by omega)
    have q1 := Int.emod_lt_of_pos (t - 1) hp
    have q2 : (t - 1) % (m0 - (t - 1)) ≤ t - 1 := by
      have := Int.emod_add_mul_ediv (t - 1) (m0 - (t - 1))
      have h2 : 0 ≤ (m0 - (t - 1)) * ((t - 1) / (m0 - (t - 1))) := Int.mul_nonneg (by omega) (Int.ediv_nonneg (by omega) (by omega))
      omega
    refine ⟨hp, vn, q0, by omega, ?_, .inr (.inr ⟨rd, m0, t - 1, (t - 1) % (m0 - (t - 1)), rfl, Int.le_refl _, by rw [Int.sub_self]; exact hn, fun j h0 h1 => z4 j h0 (by omega)⟩)⟩
    rw [← hi, hn, iterK_mod (n := (t - 1).toNat) eB]
    congr 1
    have : ((t - 1).toNat % (m0 - (t - 1)).toNat : Nat) = ((t - 1) % (m0 - (t - 1))).toNat := by
      have h3 : (((t - 1).toNat % (m0 - (t - 1)).toNat : Nat) : Int) = (t - 1) % (m0 - (t - 1)) := by
        rw [Int.natCast_emod, show (((t - 1).toNat : Nat) : Int) = t - 1 by omega, show (((m0 - (t - 1)).toNat : Nat) : Int) = m0 - (t - 1) by omega]
      omega
    omega
  · exfalso
    refine z4 ((s0 - t).toNat + 1) (by omega) (by omega) ?_
    rw [iterK_succ, ← z3, ← e]
    exact hn
theorem hold_he {f : Fld} {c : Nat} {n v : Int} (hc : c = 104 ∨ c = 101) : (if decide (0 < n) = true then pressKey f v c else v) = iterK f c n.toNat v := by
  by_cases h : 0 < n
  · rw [if_pos (decide_eq_true h), show n.toNat = (n.toNat - 1) + 1 by omega]
    show _ = iterK f c (n.toNat - 1) (pressKey f v c)
    have hp : ∀ w, pressKey f w c = pressKey f v c := by
      intro w
      rcases hc with z | z <;> (subst z; rfl)
    exact (iterK_stay (hp _) _).symm
  · rw [if_neg (by rw [decide_eq_true_eq]; exact h), show n.toNat = 0 by omega]
    rfl
end
end Sf

namespace Sf
open PySem PySem.Spec PyProof.Rows L2 Evl
/-! ### the values tried stand for all: parts of a step on which rows do the same -/
section
variable {f : Fld}
def idxF (f : Fld) (v : Int) : Int := (v - f.base) / f.step
def rstF (f : Fld) (v : Int) : Int := (v - f.base) % f.step
theorem idx_rst (v : Int) : v = f.base + idxF f v * f.step + rstF f v := by
  unfold idxF rstF
  have h := Int.emod_add_mul_ediv (v - f.base) f.step
  rw [Int.mul_comm] at h
  omega
theorem rst_lt (hs : 1 ≤ f.step) (v : Int) : 0 ≤ rstF f v ∧ rstF f v < f.step := ⟨Int.emod_nonneg _ (by omega), Int.emod_lt_of_pos _ (by omega)⟩
theorem idx_mk (hs : 1 ≤ f.step) {i r : Int} (h0 : 0 ≤ r) (h1 : r < f.step) : idxF f (f.base + i * f.step + r) = i ∧ rstF f (f.base + i * f.step + r) = r := by
  unfold idxF rstF
  rw [show f.base + i * f.step + r - f.base = r + i * f.step by omega, Int.add_mul_ediv_right _ _ (by omega), Int.add_mul_emod_self_right, Int.emod_eq_of_lt h0 h1, Int.ediv_eq_zero_of_lt h0 h1]
  exact ⟨by omega, rfl⟩
theorem idx_shift (hs : 1 ≤ f.step) (v k : Int) : idxF f (v + k * f.step) = idxF f v + k ∧ rstF f (v + k * f.step) = rstF f v := by
  unfold idxF rstF
  rw [show v + k * f.step - f.base = (v - f.base) + k * f.step by omega, Int.add_mul_ediv_right _ _ (by omega), Int.add_mul_emod_self_right]
  exact ⟨rfl, rfl⟩
theorem mul_lt_idx {s i j : Int} (hs : 1 ≤ s) (h : i < j) : i * s + s ≤ j * s := by
  have := Int.mul_le_mul_of_nonneg_right (show i + 1 ≤ j by omega) (show 0 ≤ s by omega)
  rw [Int.add_mul] at this
  omega
theorem cmp_idx (hs : 1 ≤ f.step) (x y : Int) : x ≤ y ↔ idxF f x < idxF f y ∨ (idxF f x = idxF f y ∧ rstF f x ≤ rstF f y) := by
  have hx := idx_rst (f := f) x
  have hy := idx_rst (f := f) y
  have rx := rst_lt hs x
  have ry := rst_lt hs y
  generalize idxF f x = i at *
  generalize idxF f y = j at *
  rcases (by omega : i < j ∨ i = j ∨ j < i) with h | h | h
  · have := mul_lt_idx hs h
    omega
  · subst h
    omega
  · have := mul_lt_idx hs h
    omega
/-- the places where rows begin to do otherwise -/
def brk (f : Fld) : List Int := [1, half f, rstF f f.low, rstF f f.low + 1, rstF f f.high, rstF f f.high + 1]
structure Cell (f : Fld) (v w : Int) : Prop where
  i : idxF f v = idxF f w
  r : ∀ t ∈ brk f, (t ≤ rstF f v ↔ t ≤ rstF f w)
theorem Cell.rfl' {v : Int} : Cell f v v := ⟨rfl, fun _ _ => Iff.rfl⟩
theorem cell_low (hs : 1 ≤ f.step) {v w : Int} (C : Cell f v w) (k : Int) : f.low ≤ v + k * f.step ↔ f.low ≤ w + k * f.step := by
  rw [cmp_idx hs f.low (v + k * f.step), cmp_idx hs f.low (w + k * f.step), (idx_shift hs v k).1, (idx_shift hs v k).2, (idx_shift hs w k).1, (idx_shift hs w k).2, C.i, C.r _ (by unfold brk; simp)]
theorem cell_high (hs : 1 ≤ f.step) {v w : Int} (C : Cell f v w) (k : Int) : v + k * f.step ≤ f.high ↔ w + k * f.step ≤ f.high := by
  have h := C.r (rstF f f.high + 1) (by unfold brk; simp)
  rw [cmp_idx hs (v + k * f.step), cmp_idx hs (w + k * f.step), (idx_shift hs v k).1, (idx_shift hs v k).2, (idx_shift hs w k).1, (idx_shift hs w k).2, C.i]
  omega
theorem cell_in (hs : 1 ≤ f.step) {v w : Int} (C : Cell f v w) (h : f.low ≤ v ∧ v ≤ f.high) : f.low ≤ w ∧ w ≤ f.high := by
  have h1 := cell_low hs C 0
  have h2 := cell_high hs C 0
  rw [Int.zero_mul, Int.add_zero, Int.add_zero] at h1 h2
  exact ⟨h1.mp h.1, h2.mp h.2⟩
theorem cell_aim (hs : 1 ≤ f.step) (ha : ¬ f.off = "add") {v w : Int} (C : Cell f v w) (m : Int) : aimOf f v m = aimOf f w m := by
  have h1 := C.r 1 (by unfold brk; simp)
  have hh := C.r (half f) (by unfold brk; simp)
  unfold half at hh
  have hx := idx_rst (f := f) v
  have hy := idx_rst (f := f) w
  have rx := rst_lt hs v
  have ry := rst_lt hs w
  have hi := C.i
  unfold aimOf
  rw [if_neg ha, if_neg ha]
  split
  · have e : ∀ x : Int, x = f.base + idxF f x * f.step + rstF f x → 0 ≤ rstF f x ∧ rstF f x < f.step → (2 * (x - f.base) + f.step) / (2 * f.step) = idxF f x + (if (f.step + 1) / 2 ≤ rstF f x then 1 else 0) := fun x hx rx => by
      generalize idxF f x = i at *
      generalize rstF f x = r at *
      have e2 : i * (2 * f.step) = 2 * (i * f.step) := by rw [Int.mul_left_comm]
      split
      · exact div_eq (by omega) (by rw [Int.add_mul]; omega) (by rw [Int.add_mul]; omega)
      · exact div_eq (by omega) (by rw [Int.add_mul]; omega) (by rw [Int.add_mul]; omega)
    rw [e v hx rx, e w hy ry, hi]
    by_cases z : (f.step + 1) / 2 ≤ rstF f v
    · rw [if_pos z, if_pos (hh.mp z)]
    · rw [if_neg z, if_neg (fun q => z (hh.mpr q))]
  · split
    · show f.base + (idxF f v + m) * f.step = f.base + (idxF f w + m) * f.step
      rw [hi]
    · have e : ∀ x : Int, x = f.base + idxF f x * f.step + rstF f x → 0 ≤ rstF f x ∧ rstF f x < f.step → (f.base - x) / f.step = -(idxF f x) - (if 1 ≤ rstF f x then 1 else 0) := fun x hx rx => by
        generalize idxF f x = i at *
        generalize rstF f x = r at *
        split
        · exact div_eq (by omega) (by rw [Int.sub_mul, Int.neg_mul]; omega) (by rw [Int.sub_mul, Int.neg_mul]; omega)
        · exact div_eq (by omega) (by rw [Int.sub_mul, Int.neg_mul]; omega) (by rw [Int.sub_mul, Int.neg_mul]; omega)
      rw [e v hx rx, e w hy ry, hi]
      by_cases z : 1 ≤ rstF f v
      · rw [if_pos z, if_pos (h1.mp z)]
      · rw [if_neg z, if_neg (fun q => z (h1.mpr q))]
/-- moved alike, or led to one value -/
def Uni (f : Fld) (v0 : Int) (g : Int → Int) : Prop := (∃ k, (k = 0 ∨ f.off = "add") ∧ ∀ v, Cell f v0 v → g v = v + k * f.step) ∨ ∃ c, ∀ v, Cell f v0 v → g v = c
theorem uni_key (hf : FOk f) {v0 : Int} {c : Nat} (hc : isKey c) {g : Int → Int} (h : Uni f v0 g) : Uni f v0 (fun v => pressKey f (g v) c) := by
  have hs := hf.s0
  rcases h with ⟨k, hk, h⟩ | ⟨c0, h⟩
  · rcases key_cases hc with hm | hm | hm
    · by_cases ha : f.off = "add"
      · have aim : ∀ v, Cell f v0 v → aimOf f (g v) (manySteps f c) = v + (k + manySteps f c) * f.step := fun v C => by
          rw [aim_exact hs (.inl ha), h v C, Int.add_mul]
          omega
        by_cases hr : f.low ≤ v0 + (k + manySteps f c) * f.step ∧ v0 + (k + manySteps f c) * f.step ≤ f.high
        · left
          refine ⟨k + manySteps f c, .inr ha, fun v C => ?_⟩
          dsimp only
          rw [pressKey_move hm, aim v C, if_pos ⟨(cell_low hs C _).mp hr.1, (cell_high hs C _).mp hr.2⟩]
        · have hr2 : ∀ v, Cell f v0 v → ¬ (f.low ≤ v + (k + manySteps f c) * f.step ∧ v + (k + manySteps f c) * f.step ≤ f.high) := fun v C z => hr ⟨(cell_low hs C _).mpr z.1, (cell_high hs C _).mpr z.2⟩
          by_cases hy : f.ends = "stay"
          · left
            refine ⟨k, hk, fun v C => ?_⟩
            dsimp only
            rw [pressKey_move hm, aim v C, if_neg (hr2 v C), if_pos hy]
            exact h v C
          · right
            refine ⟨if f.ends = "round" then (if v0 + (k + manySteps f c) * f.step > f.high then f.low else f.high) else (if v0 + (k + manySteps f c) * f.step > f.high then f.high else f.low), fun v C => ?_⟩
            dsimp only
            rw [pressKey_move hm, aim v C, if_neg (hr2 v C), if_neg hy]
            have hx : (v + (k + manySteps f c) * f.step > f.high) ↔ (v0 + (k + manySteps f c) * f.step > f.high) := by
              have := cell_high hs C (k + manySteps f c)
              omega
            simp only [hx]
      · have hk0 : k = 0 := hk.resolve_right ha
        subst hk0
        have aim : ∀ v, Cell f v0 v → aimOf f (g v) (manySteps f c) = aimOf f v0 (manySteps f c) := fun v C => by
          rw [h v C, Int.zero_mul, Int.add_zero]
          exact (cell_aim hs ha C _).symm
        by_cases hy : f.ends = "stay"
        · by_cases hr : f.low ≤ aimOf f v0 (manySteps f c) ∧ aimOf f v0 (manySteps f c) ≤ f.high
          · right
            refine ⟨aimOf f v0 (manySteps f c), fun v C => ?_⟩
            dsimp only
            rw [pressKey_move hm, aim v C, if_pos hr]
          · left
            refine ⟨0, .inl rfl, fun v C => ?_⟩
            dsimp only
            rw [pressKey_move hm, aim v C, if_neg hr, if_pos hy]
            exact h v C
        · right
          refine ⟨pressKey f v0 c, fun v C => ?_⟩
          dsimp only
          rw [pressKey_move hm, pressKey_move hm, aim v C]
          simp only [if_neg hy]
    · right
      subst hm
      exact ⟨f.low, fun v _ => rfl⟩
    · right
      subst hm
      exact ⟨f.high, fun v _ => rfl⟩
  · right
    exact ⟨pressKey f c0 c, fun v C => by dsimp only; rw [h v C]⟩
theorem uni_row (hf : FOk f) {v0 : Int} : ∀ (R : List Nat), (∀ c ∈ R, isKey c) → ∀ g : Int → Int, Uni f v0 g → Uni f v0 (fun v => pressRow f (g v) R)
  | [], _, g, h => h
  | c :: R, hk, g, h => uni_row hf R (fun x hx => hk x (List.mem_cons_of_mem _ hx)) (fun v => pressKey f (g v) c) (uni_key hf (hk c (List.mem_cons_self ..)) h)
theorem uni_press (hf : FOk f) (v0 : Int) {R : List Nat} (hk : ∀ c ∈ R, isKey c) : Uni f v0 (fun v => pressRow f v R) := uni_row hf R hk (fun v => v) (.inl ⟨0, .inl rfl, fun v _ => by dsimp only; omega⟩)
/-! the least and the greatest value of a part -/
theorem cut_lo {x : Int} (hx : 0 ≤ x) : ∀ T : List Int, ∃ y, (y = 0 ∨ y ∈ T) ∧ 0 ≤ y ∧ y ≤ x ∧ ∀ t ∈ T, (t ≤ y ↔ t ≤ x) ∨ t ≤ 0
  | [] => ⟨0, .inl rfl, Int.le_refl _, hx, fun _ h => nomatch h⟩
  | t :: T => by
    obtain ⟨y, h1, h2, h3, h4⟩ := cut_lo hx T
    by_cases z : y < t ∧ t ≤ x
    · refine ⟨t, .inr (List.mem_cons_self ..), by omega, z.2, fun u hu => ?_⟩
      rcases List.mem_cons.mp hu with e | e
      · subst e
        exact .inl ⟨fun _ => z.2, fun _ => Int.le_refl _⟩
      · rcases h4 u e with q | q
        · exact .inl (by omega)
        · exact .inr q
    · refine ⟨y, h1.imp_right (List.mem_cons_of_mem _), h2, h3, fun u hu => ?_⟩
      rcases List.mem_cons.mp hu with e | e
      · subst e
        exact .inl (by omega)
      · exact h4 u e
theorem cut_hi {x s : Int} (hx : x < s) : ∀ T : List Int, ∃ y, (y = s - 1 ∨ y + 1 ∈ T) ∧ y < s ∧ x ≤ y ∧ ∀ t ∈ T, (t ≤ y ↔ t ≤ x) ∨ s ≤ t
  | [] => ⟨s - 1, .inl rfl, by omega, by omega, fun _ h => nomatch h⟩
  | t :: T => by
    obtain ⟨y, h1, h2, h3, h4⟩ := cut_hi hx T
    by_cases z : x < t ∧ t ≤ y
    · refine ⟨t - 1, .inr (by rw [show t - 1 + 1 = t by omega]; exact List.mem_cons_self ..), by omega, by omega, fun u hu => ?_⟩
      rcases List.mem_cons.mp hu with e | e
      · subst e
        exact .inl (by omega)
      · rcases h4 u e with q | q
        · exact .inl (by omega)
        · exact .inr q
    · refine ⟨y, h1.imp_right (List.mem_cons_of_mem _), h2, h3, fun u hu => ?_⟩
      rcases List.mem_cons.mp hu with e | e
      · subst e
        exact .inl (by omega)
      · exact h4 u e
theorem rest_mem (hs : 1 ≤ f.step) {r : Int} (h0 : 0 ≤ r) (h1 : r < f.step) (h : r ∈ restsAll f) : r ∈ restsOf f := by
  unfold restsOf
  rw [sortU_mem, List.mem_map]
  exact ⟨r, h, Int.emod_eq_of_lt h0 h1⟩
theorem restsE_mem {e r : Int} (h : r = rstF f e - 1 ∨ r = rstF f e ∨ r = rstF f e + 1) : r ∈ restsE f e := by
  unfold restsE
  rw [List.mem_map]
  unfold rstF at h
  rcases h with z | z | z
  · exact ⟨-1, by simp, by omega⟩
  · exact ⟨0, by simp, by omega⟩
  · exact ⟨1, by simp, by omega⟩
theorem all_mem {r : Int} (h : r ∈ rests0 f ∨ r ∈ restsE f f.low ∨ r ∈ restsE f f.high) : r ∈ restsAll f := by
  unfold restsAll
  rcases h with z | z | z
  · exact List.mem_append_left _ z
  · exact List.mem_append_right _ (List.mem_flatMap.mpr ⟨f.low, by simp, z⟩)
  · exact List.mem_append_right _ (List.mem_flatMap.mpr ⟨f.high, by simp, z⟩)
theorem cell_ends (hs : 1 ≤ f.step) (v : Int) : ∃ a b, Cell f v a ∧ Cell f v b ∧ rstF f a ∈ restsOf f ∧ rstF f b ∈ restsOf f ∧ a ≤ v ∧ v ≤ b := by
  have hv := idx_rst (f := f) v
  have rv := rst_lt hs v
  have rl := rst_lt hs f.low
  have rh := rst_lt hs f.high
  have hh : 1 ≤ half f ∧ half f ≤ f.step := by unfold half; omega
  obtain ⟨y, y1, y2, y3, y4⟩ := cut_lo (x := rstF f v) rv.1 (brk f)
  obtain ⟨u, u1, u2, u3, u4⟩ := cut_hi (x := rstF f v) rv.2 (brk f)
  have ey := idx_mk (f := f) hs (i := idxF f v) (r := y) y2 (by omega)
  have eu := idx_mk (f := f) hs (i := idxF f v) (r := u) (by omega) u2
  refine ⟨f.base + idxF f v * f.step + y, f.base + idxF f v * f.step + u, ⟨ey.1.symm, fun t ht => ?_⟩, ⟨eu.1.symm, fun t ht => ?_⟩, ?_, ?_, by omega, by omega⟩
  · rw [ey.2]
    rcases y4 t ht with q | q
    · exact q.symm
    · omega
  · rw [eu.2]
    rcases u4 t ht with q | q
    · exact q.symm
    · omega
  · rw [ey.2]
    refine rest_mem hs y2 (by omega) ?_
    rcases y1 with z | z
    · exact all_mem (.inl (by unfold rests0; simp [z]))
    · unfold brk at z
      simp only [List.mem_cons, List.not_mem_nil, or_false] at z
      rcases z with z | z | z | z | z | z
      · exact all_mem (.inl (by unfold rests0; simp [z]))
      · exact all_mem (.inl (by unfold rests0; simp [z]))
      · exact all_mem (.inr (.inl (restsE_mem (.inr (.inl z)))))
      · exact all_mem (.inr (.inl (restsE_mem (.inr (.inr z)))))
      · exact all_mem (.inr (.inr (restsE_mem (.inr (.inl z)))))
      · exact all_mem (.inr (.inr (restsE_mem (.inr (.inr z)))))
  · rw [eu.2]
    refine rest_mem hs (by omega) u2 ?_
    rcases u1 with z | z
    · exact all_mem (.inl (by unfold rests0; simp [z]))
    · unfold brk at z
      simp only [List.mem_cons, List.not_mem_nil, or_false] at z
      rcases z with z | z | z | z | z | z
      · exact all_mem (.inl (by unfold rests0; simp [show u = 0 by omega]))
      · exact all_mem (.inl (by unfold rests0; simp [show u = half f - 1 by omega]))
      · exact all_mem (.inr (.inl (restsE_mem (.inl (by omega)))))
      · exact all_mem (.inr (.inl (restsE_mem (.inr (.inl (by omega))))))
      · exact all_mem (.inr (.inr (restsE_mem (.inl (by omega)))))
      · exact all_mem (.inr (.inr (restsE_mem (.inr (.inl (by omega))))))
/-- two rows that part, part at a rest that is tried -/
theorem suff_cell (hf : FOk f) {A B : List Nat} (hA : ∀ c ∈ A, isKey c) (hB : ∀ c ∈ B, isKey c) {v : Int} (h : pressRow f v A ≠ pressRow f v B) : ∃ w, Cell f v w ∧ rstF f w ∈ restsOf f ∧ pressRow f w A ≠ pressRow f w B := by
  have hs := hf.s0
  obtain ⟨a, b, Ca, Cb, ra, rb, h1, h2⟩ := cell_ends hs v
  by_cases ha : pressRow f a A = pressRow f a B
  · by_cases hb : pressRow f b A = pressRow f b B
    · exfalso
      apply h
      rcases uni_press hf v hA with ⟨k, _, hk⟩ | ⟨c, hk⟩
      · rcases uni_press hf v hB with ⟨l, _, hl⟩ | ⟨d, hl⟩
        · have e1 := hk a Ca
          have e2 := hl a Ca
          have e3 := hk v Cell.rfl'
          have e4 := hl v Cell.rfl'
          dsimp only at e1 e2 e3 e4
          omega
        · have e1 := hk a Ca
          have e2 := hl a Ca
          have e3 := hk b Cb
          have e4 := hl b Cb
          have e5 := hk v Cell.rfl'
          have e6 := hl v Cell.rfl'
          dsimp only at e1 e2 e3 e4 e5 e6
          omega
      · rcases uni_press hf v hB with ⟨l, _, hl⟩ | ⟨d, hl⟩
        · have e1 := hk a Ca
          have e2 := hl a Ca
          have e3 := hk b Cb
          have e4 := hl b Cb
          have e5 := hk v Cell.rfl'
          have e6 := hl v Cell.rfl'
          dsimp only at e1 e2 e3 e4 e5 e6
          omega
        · have e1 := hk a Ca
          have e2 := hl a Ca
          have e3 := hk v Cell.rfl'
          have e4 := hl v Cell.rfl'
          dsimp only at e1 e2 e3 e4
          omega
    · exact ⟨b, Cb, rb, hb⟩
  · exact ⟨a, Ca, ra, ha⟩
/-! far from the ends -/
theorem he_constV {R : List Nat} (h : 104 ∈ R ∨ 101 ∈ R) : ∃ K, ∀ v, pressRow f v R = K := by
  induction R with
  | nil => rcases h with z | z <;> cases z
  | cons c R ih =>
    by_cases h1 : c = 104
    · subst h1
      exact ⟨pressRow f f.low R, fun v => rfl⟩
    · by_cases h2 : c = 101
      · subst h2
        exact ⟨pressRow f f.high R, fun v => rfl⟩
      · obtain ⟨K, hK⟩ := ih (h.imp (fun z => (List.mem_cons.mp z).resolve_left (fun e => h1 e.symm)) (fun z => (List.mem_cons.mp z).resolve_left (fun e => h2 e.symm)))
        exact ⟨K, fun v => hK (pressKey f v c)⟩
def sumS (f : Fld) (R : List Nat) : Int := (R.map (manySteps f)).sum
theorem many_B (hf : FOk f) {c : Nat} (hm : isMove c) : (manySteps f c * f.step ≤ f.big * f.step ∧ -(f.big * f.step) ≤ manySteps f c * f.step) ∧ (f.step ≤ manySteps f c * f.step ∧ 1 ≤ manySteps f c ∨ manySteps f c * f.step ≤ -f.step ∧ manySteps f c ≤ -1) := by
  have hs := hf.s0
  have hg := hf.g0
  have h1 : manySteps f c ≤ f.big ∧ -f.big ≤ manySteps f c ∧ (1 ≤ manySteps f c ∨ manySteps f c ≤ -1) := by
    rcases hm with z | z | z | z <;> (subst z; unfold manySteps; simp; omega)
  have h2 := Int.mul_le_mul_of_nonneg_right h1.1 (show 0 ≤ f.step by omega)
  have h3 := Int.mul_le_mul_of_nonneg_right h1.2.1 (show 0 ≤ f.step by omega)
  rw [Int.neg_mul] at h3
  refine ⟨⟨h2, h3⟩, ?_⟩
  rcases h1.2.2 with z | z
  · have := Int.mul_le_mul_of_nonneg_right z (show 0 ≤ f.step by omega)
    exact .inl ⟨by omega, z⟩
  · have := Int.mul_le_mul_of_nonneg_right z (show 0 ≤ f.step by omega)
    rw [Int.neg_mul] at this
    exact .inr ⟨by omega, z⟩
theorem row_sumS (hf : FOk f) : ∀ (R : List Nat) (v : Int), (∀ c ∈ R, isMove c) → (f.off = "add" ∨ isOn f v = true) → f.low + (R.length : Int) * (f.big * f.step) ≤ v → v + (R.length : Int) * (f.big * f.step) ≤ f.high → pressRow f v R = v + sumS f R * f.step
  | [], v, _, _, _, _ => by
    show v = v + 0 * f.step
    omega
  | c :: R, v, hk, ho, h0, h1 => by
    have hm := hk c (List.mem_cons_self ..)
    have hB := many_B hf hm
    have e : ((c :: R).length : Int) * (f.big * f.step) = (R.length : Int) * (f.big * f.step) + f.big * f.step := by
      rw [List.length_cons, show ((R.length + 1 : Nat) : Int) = (R.length : Int) + 1 by omega, Int.add_mul, Int.one_mul]
    have hn : 0 ≤ (R.length : Int) * (f.big * f.step) := Int.mul_nonneg (by omega) (Int.mul_nonneg (by have := hf.g0; omega) (by have := hf.s0; omega))
    show pressRow f (pressKey f v c) R = v + (manySteps f c + sumS f R) * f.step
    rw [press_exact hf.s0 hm ho (by omega), row_sumS hf R _ (fun x hx => hk x (List.mem_cons_of_mem _ hx)) (ho.imp id fun z => on_step z) (by omega) (by omega), Int.add_mul]
    omega
def FarV (f : Fld) (n : Nat) (v : Int) : Prop := 2 * ((n : Int) * (f.big * f.step)) + f.step ≤ 2 * (v - f.low) ∧ 2 * ((n : Int) * (f.big * f.step)) + f.step ≤ 2 * (f.high - v)
theorem aim_ok2 {v m : Int} : f.off = "add" ∨ isOn f (aimOf f v m) = true := by
  by_cases ha : f.off = "add"
  · exact .inl ha
  · right
    have e : ∃ k, aimOf f v m = f.base + k * f.step := by
      unfold aimOf
      rw [if_neg ha]
      split
      · exact ⟨_, rfl⟩
      · split
        · exact ⟨_, rfl⟩
        · exact ⟨_, rfl⟩
    obtain ⟨k, hk⟩ := e
    unfold isOn
    rw [hk, decide_eq_true_eq, show f.base + k * f.step - f.base = k * f.step by omega, Int.mul_emod_left]
theorem aim_bound (hf : FOk f) {c : Nat} (hm : isMove c) (v : Int) : 2 * v - 2 * (f.big * f.step) - f.step ≤ 2 * aimOf f v (manySteps f c) ∧ 2 * aimOf f v (manySteps f c) ≤ 2 * v + 2 * (f.big * f.step) + f.step := by
  have hs := hf.s0
  have hB := many_B hf hm
  generalize manySteps f c = m at hB
  unfold aimOf
  split
  · omega
  · split
    · have := div_le (x := 2 * (v - f.base) + f.step) (y := 2 * f.step) (by omega)
      have e : (2 * (v - f.base) + f.step) / (2 * f.step) * (2 * f.step) = 2 * ((2 * (v - f.base) + f.step) / (2 * f.step) * f.step) := by rw [Int.mul_left_comm]
      rw [Int.add_mul]
      omega
    · split
      · have := div_le (x := v - f.base) (y := f.step) (by omega)
        rw [Int.add_mul]
        omega
      · have := div_le (x := f.base - v) (y := f.step) (by omega)
        rw [Int.add_mul, Int.neg_mul]
        omega
theorem sdiv {x c s : Int} (hs : 1 ≤ s) : (x + c * s) / s = x / s + c := Int.add_mul_ediv_right _ _ (by omega)
theorem aim_shift (hs : 1 ≤ f.step) (v m d : Int) : aimOf f (v + d * f.step) m = aimOf f v m + d * f.step := by
  unfold aimOf
  split
  · omega
  · split
    · rw [show 2 * (v + d * f.step - f.base) + f.step = (2 * (v - f.base) + f.step) + d * (2 * f.step) by rw [show d * (2 * f.step) = 2 * (d * f.step) by rw [Int.mul_left_comm]]; omega, sdiv (by omega), Int.add_mul, Int.add_mul, Int.add_mul]
      omega
    · split
      · rw [show v + d * f.step - f.base = (v - f.base) + d * f.step by omega, sdiv hs, Int.add_mul, Int.add_mul, Int.add_mul]
        omega
      · rw [show f.base - (v + d * f.step) = (f.base - v) + (-d) * f.step by rw [Int.neg_mul]; omega, sdiv hs, Int.add_mul, Int.add_mul, Int.neg_mul, Int.neg_mul, Int.add_mul, Int.neg_mul]
        omega
theorem far_shift (hf : FOk f) {R : List Nat} (hk : ∀ c ∈ R, isMove c) {v d : Int} (h1 : FarV f R.length v) (h2 : FarV f R.length (v + d * f.step)) : pressRow f (v + d * f.step) R = pressRow f v R + d * f.step := by
  cases R with
  | nil => rfl
  | cons c R =>
    have hs := hf.s0
    have hm := hk c (List.mem_cons_self ..)
    have hR : ∀ x ∈ R, isMove x := fun x hx => hk x (List.mem_cons_of_mem _ hx)
    have hn : 0 ≤ (R.length : Int) * (f.big * f.step) := Int.mul_nonneg (by omega) (Int.mul_nonneg (by have := hf.g0; omega) (by omega))
    have e : ((c :: R).length : Int) * (f.big * f.step) = (R.length : Int) * (f.big * f.step) + f.big * f.step := by
      rw [List.length_cons, show ((R.length + 1 : Nat) : Int) = (R.length : Int) + 1 by omega, Int.add_mul, Int.one_mul]
    unfold FarV at h1 h2
    rw [e] at h1 h2
    have key : ∀ x, 2 * ((R.length : Int) * (f.big * f.step) + f.big * f.step) + f.step ≤ 2 * (x - f.low) → 2 * ((R.length : Int) * (f.big * f.step) + f.big * f.step) + f.step ≤ 2 * (f.high - x) → pressRow f x (c :: R) = aimOf f x (manySteps f c) + sumS f R * f.step := fun x k1 k2 => by
      have hb := aim_bound hf hm x
      show pressRow f (pressKey f x c) R = _
      rw [pressKey_move hm, if_pos ⟨by omega, by omega⟩]
      exact row_sumS hf R _ hR aim_ok2 (by omega) (by omega)
    rw [key v h1.1 h1.2, key _ h2.1 h2.2, aim_shift hs]
    omega
theorem in_block {many c w : Int} (hs : 1 ≤ f.step) (hr : rstF f w ∈ restsOf f) (h : idxF f c - nearOf f many c ≤ idxF f w ∧ idxF f w ≤ idxF f c + nearOf f many c) : w ∈ blockAt f many c := by
  unfold blockAt
  rw [List.mem_flatMap]
  refine ⟨idxF f w, rng_mem.mpr ⟨h.1, ?_⟩, ?_⟩
  · show idxF f w < idxF f c - nearOf f many c + _
    omega
  · unfold rowAt
    exact List.mem_map.mpr ⟨rstF f w, hr, (idx_rst w).symm⟩
theorem is_tried {many w : Int} (hs : 1 ≤ f.step) (hw : 400 < f.high - f.low) (hin : f.low ≤ w ∧ w ≤ f.high) (hr : rstF f w ∈ restsOf f)
    (h : (idxF f f.low - (many + 2) ≤ idxF f w ∧ idxF f w ≤ idxF f f.low + (many + 2)) ∨ (idxF f f.high - (many + 2) ≤ idxF f w ∧ idxF f w ≤ idxF f f.high + (many + 2)) ∨ (idxF f (mid f) - 1 ≤ idxF f w ∧ idxF f w ≤ idxF f (mid f) + 1)) : w ∈ valuesOf f many := by
  unfold valuesOf
  rw [if_neg (by omega), sortU_mem, List.mem_filter]
  refine ⟨?_, by unfold insideB; rw [decide_eq_true hin.1, decide_eq_true hin.2]; rfl⟩
  unfold spots
  refine List.mem_append_right _ (List.mem_flatMap.mpr ?_)
  rcases h with h | h | h
  · exact ⟨f.low, by simp, in_block hs hr (by unfold nearOf; rw [if_neg (by unfold mid; omega)]; exact h)⟩
  · exact ⟨f.high, by simp, in_block hs hr (by unfold nearOf; rw [if_neg (by unfold mid; omega)]; exact h)⟩
  · exact ⟨mid f, by simp, in_block hs hr (by unfold nearOf; rw [if_pos rfl]; exact h)⟩
theorem moves_or {R : List Nat} (hk : ∀ c ∈ R, isKey c) : (104 ∈ R ∨ 101 ∈ R) ∨ ∀ c ∈ R, isMove c := by
  by_cases h : 104 ∈ R ∨ 101 ∈ R
  · exact .inl h
  · right
    intro c hc
    rcases key_cases (hk c hc) with z | z | z
    · exact z
    · exact absurd (.inl (z ▸ hc)) h
    · exact absurd (.inr (z ▸ hc)) h
/-- rows that part somewhere, part at a value that is tried -/
theorem suff (hf : FOk f) {A B : List Nat} (hA : ∀ c ∈ A, isKey c) (hB : ∀ c ∈ B, isKey c) {many v : Int} (mA : (A.length : Int) * f.big ≤ many) (mB : (B.length : Int) * f.big ≤ many) (hv : f.low ≤ v ∧ v ≤ f.high) (h : pressRow f v A ≠ pressRow f v B) : ∃ w ∈ valuesOf f many, pressRow f w A ≠ pressRow f w B := by
  by_cases hw : f.high - f.low ≤ 400
  · exact ⟨v, (values_all hw).mpr hv, h⟩
  have hs := hf.s0
  obtain ⟨w, C, hr, hd⟩ := suff_cell hf hA hB h
  have hin := cell_in hs C hv
  have m0 : 0 ≤ many := Int.le_trans (Int.mul_nonneg (by omega) (by have := hf.g0; omega)) mA
  by_cases t1 : idxF f w ≤ idxF f f.low + (many + 2)
  · refine ⟨w, is_tried hs (by omega) hin hr (.inl ⟨?_, t1⟩), hd⟩
    have := (cmp_idx hs f.low w).mp hin.1
    omega
  by_cases t2 : idxF f f.high - (many + 2) ≤ idxF f w
  · refine ⟨w, is_tried hs (by omega) hin hr (.inr (.inl ⟨t2, ?_⟩)), hd⟩
    have := (cmp_idx hs w f.high).mp hin.2
    omega
  have el := idx_rst (f := f) f.low
  have eh := idx_rst (f := f) f.high
  have em := idx_rst (f := f) (mid f)
  have ew := idx_rst (f := f) w
  have rl := rst_lt hs f.low
  have rh := rst_lt hs f.high
  have rm := rst_lt hs (mid f)
  have rw_ := rst_lt hs w
  have hmid : 2 * mid f ≤ f.low + f.high ∧ f.low + f.high - 1 ≤ 2 * mid f := by unfold mid; omega
  have sl := idx_shift hs w (idxF f (mid f) - idxF f w)
  have sr := idx_shift hs w (idxF f (mid f) + 1 - idxF f w)
  have xA : (A.length : Int) * (f.big * f.step) ≤ many * f.step := by
    rw [← Int.mul_assoc]
    exact Int.mul_le_mul_of_nonneg_right mA (by omega)
  have xB : (B.length : Int) * (f.big * f.step) ≤ many * f.step := by
    rw [← Int.mul_assoc]
    exact Int.mul_le_mul_of_nonneg_right mB (by omega)
  have y1 := Int.mul_le_mul_of_nonneg_right (show idxF f f.low + many + 3 ≤ idxF f w by omega) (show 0 ≤ f.step by omega)
  have y2 := Int.mul_le_mul_of_nonneg_right (show idxF f w + many + 3 ≤ idxF f f.high by omega) (show 0 ≤ f.step by omega)
  have y3 := Int.mul_le_mul_of_nonneg_right (show idxF f f.low + 2 * many + 6 ≤ idxF f f.high by omega) (show 0 ≤ f.step by omega)
  rw [Int.add_mul, Int.add_mul] at y1 y2 y3
  have y4 : 2 * many * f.step = 2 * (many * f.step) := Int.mul_assoc ..
  have d1 : (idxF f (mid f) - idxF f w) * f.step = idxF f (mid f) * f.step - idxF f w * f.step := Int.sub_mul ..
  have d2 : (idxF f (mid f) + 1 - idxF f w) * f.step = idxF f (mid f) * f.step + f.step - idxF f w * f.step := by rw [Int.sub_mul, Int.add_mul]; omega
  generalize e1 : (idxF f (mid f) - idxF f w) = D1 at *
  generalize e2 : (idxF f (mid f) + 1 - idxF f w) = D2 at *
  have far0 : ∀ n : Nat, (n : Int) * (f.big * f.step) ≤ many * f.step → FarV f n w ∧ FarV f n (w + D1 * f.step) ∧ FarV f n (w + D2 * f.step) := fun n hn => by
    unfold FarV
    exact ⟨⟨by omega, by omega⟩, ⟨by omega, by omega⟩, ⟨by omega, by omega⟩⟩
  have in1 : f.low ≤ w + D1 * f.step ∧ w + D1 * f.step ≤ f.high := by
    have hq : 0 ≤ many * f.step := Int.mul_nonneg m0 (by omega)
    constructor <;> omega
  have in2 : f.low ≤ w + D2 * f.step ∧ w + D2 * f.step ≤ f.high := by
    have hq : 0 ≤ many * f.step := Int.mul_nonneg m0 (by omega)
    constructor <;> omega
  have tr1 : w + D1 * f.step ∈ valuesOf f many := is_tried hs (by omega) in1 (by rw [sl.2]; exact hr) (.inr (.inr ⟨by omega, by omega⟩))
  have tr2 : w + D2 * f.step ∈ valuesOf f many := is_tried hs (by omega) in2 (by rw [sr.2]; exact hr) (.inr (.inr ⟨by omega, by omega⟩))
  have fA := far0 _ xA
  have fB := far0 _ xB
  have hne : D1 * f.step ≠ D2 * f.step := by omega
  by_cases q1 : pressRow f (w + D1 * f.step) A = pressRow f (w + D1 * f.step) B
  · by_cases q2 : pressRow f (w + D2 * f.step) A = pressRow f (w + D2 * f.step) B
    · exfalso
      apply hd
      rcases moves_or hA with zA | zA
      · obtain ⟨K, hK⟩ := he_constV (f := f) zA
        rcases moves_or hB with zB | zB
        · obtain ⟨L, hL⟩ := he_constV (f := f) zB
          rw [hK, hL] at q1 ⊢
          exact q1
        · rw [hK, far_shift hf zB fB.1 fB.2.1] at q1
          rw [hK, far_shift hf zB fB.1 fB.2.2] at q2
          omega
      · rcases moves_or hB with zB | zB
        · obtain ⟨L, hL⟩ := he_constV (f := f) zB
          rw [hL, far_shift hf zA fA.1 fA.2.1] at q1
          rw [hL, far_shift hf zA fA.1 fA.2.2] at q2
          omega
        · rw [far_shift hf zA fA.1 fA.2.1, far_shift hf zB fB.1 fB.2.1] at q1
          omega
    · exact ⟨_, tr2, q2⟩
  · exact ⟨_, tr1, q1⟩
/-- what the told likeness of two rows means -/
theorem part_iff (hf : FOk f) {a b : Str} (ha : ∀ c ∈ a.cps.toList, isKey c) (hb : ∀ c ∈ b.cps.toList, isKey c) : (partRows f a b).isNone = true ↔ ∀ v, (f.low ≤ v ∧ v ≤ f.high) → pressRow f v a.cps.toList = pressRow f v b.cps.toList := by
  have hg := hf.g0
  constructor
  · intro h v hv
    by_cases z : pressRow f v a.cps.toList = pressRow f v b.cps.toList
    · exact z
    · exfalso
      obtain ⟨w, hw, hd⟩ := suff hf ha hb (many := max (a.cps.toList.length : Int) (b.cps.toList.length : Int) * f.big) (Int.mul_le_mul_of_nonneg_right (by omega) (by omega)) (Int.mul_le_mul_of_nonneg_right (by omega) (by omega)) hv z
      unfold partRows partHere at h
      cases e : (valuesOf f (max (a.cps.toList.length : Int) (b.cps.toList.length : Int) * f.big)).find? fun v => !decide (pressRow f v a.cps.toList = pressRow f v b.cps.toList) with
      | some y =>
        rw [e] at h
        cases h
      | none =>
        have := List.find?_eq_none.mp e w hw
        rw [decide_eq_false hd] at this
        exact this rfl
  · intro h
    rw [← here_none (f := f) (a := a) (b := b) rfl fun x hx => h x (values_in hx)]
    rfl
end
end Sf

namespace Sf
open PySem PySem.Spec PyProof.Rows L2 Evl
/-! ### the first value at which two fields part is one of those tried (k05)
far from both ends of one of them: its aims on the way from the low end tell the other's step, grid and page; near an end of both: both move the value and the one ahead of it alike, or lead them to one value. -/
theorem aim_grid {f : Fld} (h : ¬ f.off = "add") (v m : Int) : ∃ k, aimOf f v m = f.base + k * f.step := by
  unfold aimOf
  rw [if_neg h]
  split
  · exact ⟨_, rfl⟩
  · split
    · exact ⟨_, rfl⟩
    · exact ⟨_, rfl⟩
theorem ms_ge {s m : Int} (hs : 1 ≤ s) (h : 1 ≤ m) : s ≤ m * s := by
  have := Int.mul_le_mul_of_nonneg_right h (show 0 ≤ s by omega)
  omega
theorem ms_le {s m : Int} (hs : 1 ≤ s) (h : m ≤ -1) : m * s ≤ -s := by
  have := Int.mul_le_mul_of_nonneg_right h (show 0 ≤ s by omega)
  rw [Int.neg_mul] at this
  omega
theorem aim_upW {f : Fld} (hs : 1 ≤ f.step) {m : Int} (hm : 1 ≤ m) (v : Int) : v < aimOf f v m := by
  have h1 := ms_ge hs hm
  unfold aimOf
  split
  · omega
  · split
    · have := div_le (x := 2 * (v - f.base) + f.step) (y := 2 * f.step) (by omega)
      have e : (2 * (v - f.base) + f.step) / (2 * f.step) * (2 * f.step) = 2 * ((2 * (v - f.base) + f.step) / (2 * f.step) * f.step) := by rw [Int.mul_left_comm]
      rw [Int.add_mul]
      omega
    · rw [if_pos (by omega)]
      have := div_le (x := v - f.base) (y := f.step) (by omega)
      rw [Int.add_mul]
      omega
theorem aim_dnW {f : Fld} (hs : 1 ≤ f.step) {m : Int} (hm : m ≤ -1) (v : Int) : aimOf f v m < v := by
  have h1 := ms_le hs hm
  unfold aimOf
  split
  · omega
  · split
    · have := div_le (x := 2 * (v - f.base) + f.step) (y := 2 * f.step) (by omega)
      have e : (2 * (v - f.base) + f.step) / (2 * f.step) * (2 * f.step) = 2 * ((2 * (v - f.base) + f.step) / (2 * f.step) * f.step) := by rw [Int.mul_left_comm]
      rw [Int.add_mul]
      omega
    · rw [if_neg (by omega)]
      have := div_le (x := f.base - v) (y := f.step) (by omega)
      rw [Int.add_mul, Int.neg_mul]
      omega
def Ex1 (f : Fld) : Prop := f.off = "add" ∨ f.step = 1
theorem ex1_aim {f : Fld} (hs : 1 ≤ f.step) (h : Ex1 f) (v m : Int) : aimOf f v m = v + m * f.step :=
  aim_exact hs (h.imp id fun e => by unfold isOn; rw [e, decide_eq_true_eq]; omega)
theorem one_of {s k j b x : Int} (hs : 1 ≤ s) (h1 : x = b + k * s) (h2 : x + 1 = b + j * s) : s = 1 := by
  have e : (j - k) * s = 1 := by rw [Int.sub_mul]; omega
  have := Int.le_of_dvd (by decide : (0 : Int) < 1) ⟨j - k, by rw [Int.mul_comm]; exact e.symm⟩
  omega
theorem le_of_mul {s t k : Int} (ht : 1 ≤ t) (e : k * s = t) : s ≤ t := Int.le_of_dvd (by omega) ⟨k, by rw [Int.mul_comm]; exact e.symm⟩
theorem aim_base {f g : Fld} (hs : 1 ≤ f.step) (ho : g.off = f.off) (hst : g.step = f.step) {q : Int} (hb : g.base = f.base + q * f.step) (v m : Int) : aimOf g v m = aimOf f v m := by
  unfold aimOf
  rw [ho, hst, hb]
  split
  · rfl
  · split
    · have e : (2 * (v - (f.base + q * f.step)) + f.step) / (2 * f.step) = (2 * (v - f.base) + f.step) / (2 * f.step) - q := by
        rw [show 2 * (v - (f.base + q * f.step)) + f.step = (2 * (v - f.base) + f.step) + (-q) * (2 * f.step) by rw [Int.neg_mul, show q * (2 * f.step) = 2 * (q * f.step) from Int.mul_left_comm ..]; omega, sdiv (by omega)]
        omega
      rw [e, Int.add_mul, Int.add_mul, Int.sub_mul]
      omega
    · split
      · have e : (v - (f.base + q * f.step)) / f.step = (v - f.base) / f.step - q := by
          rw [show v - (f.base + q * f.step) = (v - f.base) + (-q) * f.step by rw [Int.neg_mul]; omega, sdiv hs]
          omega
        rw [e, Int.add_mul, Int.add_mul, Int.sub_mul]
        omega
      · have e : (f.base + q * f.step - v) / f.step = (f.base - v) / f.step + q := by
          rw [show f.base + q * f.step - v = (f.base - v) + q * f.step by omega, sdiv hs]
        rw [e, Int.add_mul, Int.add_mul, Int.neg_mul, Int.neg_mul, Int.add_mul]
        omega
/-- near and next part on the last value ahead of a step -/
theorem near_next {f g : Fld} {s i : Int} (hs : 2 ≤ s) (hf : f.off = "near") (hf0 : ¬ f.off = "add") (hg0 : ¬ g.off = "add") (hg : ¬ g.off = "near") (sf : f.step = s) (sg : g.step = s) {q : Int} (hb : g.base = f.base + q * s) : aimOf f (f.base + i * s + (s - 1)) 1 ≠ aimOf g (f.base + i * s + (s - 1)) 1 := by
  unfold aimOf
  rw [if_neg hf0, if_pos hf, if_neg hg0, if_neg hg, if_pos (by decide), sf, sg, hb]
  have e1 : (2 * (f.base + i * s + (s - 1) - f.base) + s) / (2 * s) = i + 1 := by
    have e2 : i * (2 * s) = 2 * (i * s) := Int.mul_left_comm ..
    refine div_eq (by omega) ?_ ?_
    · rw [Int.add_mul]; omega
    · rw [Int.add_mul]; omega
  have e3 : (f.base + i * s + (s - 1) - (f.base + q * s)) / s = i - q := by
    refine div_eq (by omega) ?_ ?_
    · rw [Int.sub_mul]; omega
    · rw [Int.sub_mul]; omega
  rw [e1, e3]
  intro z
  rw [Int.add_mul, Int.add_mul, Int.add_mul, Int.sub_mul] at z
  omega
theorem off_cases {f : Fld} (hf : FOk f) (h : ¬ f.off = "add") : f.off = "near" ∨ ¬ f.off = "near" ∧ f.off = "next" := by
  rcases hf.off with z | z | z
  · exact absurd z h
  · exact .inl z
  · right
    rw [z]
    exact ⟨by decide, rfl⟩
/-- the same aims on a long way: the same aims everywhere -/
theorem stairs {f g : Fld} (hf : FOk f) (hg : FOk g) {a b : Int} (hab : a + 3 * f.step ≤ b) (h : ∀ v, a ≤ v → v < b → aimOf f v 1 = aimOf g v 1) : f.step = g.step ∧ ∀ v m, aimOf f v m = aimOf g v m := by
  have sf := hf.s0
  have sg := hg.s0
  by_cases ef : Ex1 f
  · by_cases eg : Ex1 g
    · have h0 := h a (Int.le_refl _) (by omega)
      rw [ex1_aim sf ef, ex1_aim sg eg] at h0
      have es : f.step = g.step := by omega
      exact ⟨es, fun v m => by rw [ex1_aim sf ef, ex1_aim sg eg, es]⟩
    · have h0 := h a (Int.le_refl _) (by omega)
      have h1 := h (a + 1) (by omega) (by omega)
      rw [ex1_aim sf ef] at h0 h1
      obtain ⟨k, hk⟩ := aim_grid (fun z => eg (.inl z)) a 1
      obtain ⟨j, hj⟩ := aim_grid (fun z => eg (.inl z)) (a + 1) 1
      exact absurd (.inr (one_of sg (x := a + 1 * f.step) (k := k) (j := j) (b := g.base) (by omega) (by omega))) eg
  · by_cases eg : Ex1 g
    · have h0 := h a (Int.le_refl _) (by omega)
      have h1 := h (a + 1) (by omega) (by omega)
      rw [ex1_aim sg eg] at h0 h1
      obtain ⟨k, hk⟩ := aim_grid (fun z => ef (.inl z)) a 1
      obtain ⟨j, hj⟩ := aim_grid (fun z => ef (.inl z)) (a + 1) 1
      exact absurd (.inr (one_of sf (x := a + 1 * g.step) (k := k) (j := j) (b := f.base) (by omega) (by omega))) ef
    · have fo : ¬ f.off = "add" := fun z => ef (.inl z)
      have go : ¬ g.off = "add" := fun z => eg (.inl z)
      have f2 : 2 ≤ f.step := by
        have : f.step ≠ 1 := fun z => ef (.inr z)
        omega
      -- the steps are the same
      have h0 := h a (Int.le_refl _) (by omega)
      have h1 := h (a + f.step) (by omega) (by omega)
      have sh := aim_shift sf a 1 1
      rw [Int.one_mul] at sh
      obtain ⟨k, hk⟩ := aim_grid go a 1
      obtain ⟨j, hj⟩ := aim_grid go (a + f.step) 1
      have gf : g.step ≤ f.step := le_of_mul (k := j - k) sf (by rw [Int.sub_mul]; omega)
      have h2 := h (a + g.step) (by omega) (by omega)
      have sh2 := aim_shift sg a 1 1
      rw [Int.one_mul] at sh2
      obtain ⟨k2, hk2⟩ := aim_grid fo a 1
      obtain ⟨j2, hj2⟩ := aim_grid fo (a + g.step) 1
      have fg : f.step ≤ g.step := le_of_mul (k := j2 - k2) sg (by rw [Int.sub_mul]; omega)
      have es : f.step = g.step := by omega
      have hb : g.base = f.base + (k2 - k) * f.step := by
        rw [← es] at hk
        rw [Int.sub_mul]
        omega
      have hb2 : f.base = g.base + (k - k2) * g.step := by
        rw [← es, Int.sub_mul]
        rw [Int.sub_mul] at hb
        omega
      have e := idx_rst (f := f) a
      have r := rst_lt sf a
      have ew := idx_rst (f := g) a
      have rw_ := rst_lt sg a
      rcases off_cases hf fo with p | ⟨p, p2⟩
      · rcases off_cases hg go with w | ⟨w, w2⟩
        · exact ⟨es, fun v m => (aim_base sf (w.trans p.symm) es.symm hb v m).symm⟩
        · exfalso
          refine near_next (i := idxF f a + 1) f2 p fo go w rfl es.symm hb (h _ ?_ ?_)
          · rw [Int.add_mul]; omega
          · rw [Int.add_mul]; omega
      · rcases off_cases hg go with w | ⟨w, w2⟩
        · exfalso
          refine near_next (i := idxF g a + 1) (s := g.step) (by omega) w go fo p rfl es hb2 (h _ ?_ ?_).symm
          · rw [Int.add_mul]; omega
          · rw [Int.add_mul]; omega
        · exact ⟨es, fun v m => (aim_base sf (w2.trans p2.symm) es.symm hb v m).symm⟩
section
variable {f g : Fld}
def FarK (f : Fld) (v : Int) : Prop := idxF f f.low + f.big + 3 < idxF f v ∧ idxF f v + f.big + 3 < idxF f f.high
theorem farK_mul (hs : 1 ≤ f.step) {v : Int} (h : FarK f v) : f.big * f.step + 3 * f.step ≤ v - f.low ∧ f.big * f.step + 3 * f.step ≤ f.high - v := by
  have el := idx_rst (f := f) f.low
  have eh := idx_rst (f := f) f.high
  have ev := idx_rst (f := f) v
  have rl := rst_lt hs f.low
  have rh := rst_lt hs f.high
  have rv := rst_lt hs v
  have y1 := Int.mul_le_mul_of_nonneg_right (show idxF f f.low + (f.big + 3) + 1 ≤ idxF f v by have := h.1; omega) (show 0 ≤ f.step by omega)
  have y2 := Int.mul_le_mul_of_nonneg_right (show idxF f v + (f.big + 3) + 1 ≤ idxF f f.high by have := h.2; omega) (show 0 ≤ f.step by omega)
  rw [Int.add_mul, Int.add_mul, Int.add_mul] at y1 y2
  omega
/-- a press strictly within the ends, away from the value, is an aim -/
theorem press_aim {v : Int} {c : Nat} (hm : isMove c) (h1 : pressKey g v c ≠ v) (h2 : g.low < pressKey g v c) (h3 : pressKey g v c < g.high) : aimOf g v (manySteps g c) = pressKey g v c := by
  have e := pressKey_move (f := g) (v := v) hm
  split at e
  · exact e.symm
  · split at e
    · exact absurd e h1
    · split at e <;> split at e <;> omega
theorem press_in {v : Int} {c : Nat} (hm : isMove c) (h : f.low ≤ aimOf f v (manySteps f c) ∧ aimOf f v (manySteps f c) ≤ f.high) : pressKey f v c = aimOf f v (manySteps f c) := by
  rw [pressKey_move hm, if_pos h]
theorem far_same (hf : FOk f) (hg : FOk g) (hl : g.low = f.low) (hh : g.high = f.high) {v : Int} (hv : FarK f v) (hmin : ∀ w, f.low ≤ w → w < v → ∀ c, isMove c → pressKey f w c = pressKey g w c) {c : Nat} (hc : isMove c) : pressKey f v c = pressKey g v c := by
  have hs := hf.s0
  have hgs := hg.s0
  have hb0 := hf.g0
  obtain ⟨m1, m2⟩ := farK_mul hs hv
  have hbs : f.step ≤ f.big * f.step := ms_ge hs (by omega)
  have mu : manySteps f 117 = 1 ∧ manySteps g 117 = 1 := ⟨rfl, rfl⟩
  have mU : manySteps f 85 = f.big ∧ manySteps g 85 = g.big := ⟨rfl, rfl⟩
  -- the aims on the way
  have key : ∀ w, f.low ≤ w → w < v → ∀ c, isMove c → 1 ≤ manySteps f c → aimOf g w (manySteps g c) = aimOf f w (manySteps f c) := fun w h1 h2 c hc hp => by
    have ab := aim_bound hf hc w
    have up := aim_upW hs hp w
    have e := press_in (f := f) (v := w) hc ⟨by omega, by omega⟩
    have e2 := hmin w h1 h2 c hc
    rw [e] at e2
    rw [press_aim hc (by omega) (by omega) (by omega), ← e2]
  obtain ⟨es, ea⟩ := stairs hf hg (a := f.low) (b := v) (by omega) fun w h1 h2 => (key w h1 h2 117 (by decide) (by show (1 : Int) ≤ 1; decide)).symm
  have eb : f.big = g.big := by
    have e := key f.low (Int.le_refl _) (by omega) 85 (by decide) (by show 1 ≤ f.big; omega)
    rw [mU.1, mU.2, ← ea] at e
    have hg0 := hg.g0
    have e1 := aim_shift hs f.low f.big 0
    have : ∀ x y : Int, 1 ≤ x → 1 ≤ y → aimOf f f.low x = aimOf f f.low y → x = y := fun x y hx hy z => by
      have zz : x * f.step = y * f.step := by
        unfold aimOf at z
        split at z
        · omega
        · split at z
          · rw [Int.add_mul, Int.add_mul] at z; omega
          · rw [if_pos (by omega), if_pos (by omega), Int.add_mul, Int.add_mul] at z; omega
      exact Int.eq_of_mul_eq_mul_right (by omega) zz
    exact this f.big g.big (by omega) (by omega) e.symm
  have em : manySteps g c = manySteps f c := by
    unfold manySteps
    rw [eb]
  have ab := aim_bound hf hc v
  rw [press_in (f := f) hc ⟨by omega, by omega⟩, press_in (f := g) hc (by rw [em, ← ea]; omega), em, ea]
/-! near the ends -/
theorem rests_ltW (hs : 1 ≤ f.step) {t : Int} (h : t ∈ restsOf f) : 0 ≤ t ∧ t < f.step := by
  unfold restsOf at h
  rw [sortU_mem, List.mem_map] at h
  obtain ⟨r, _, rfl⟩ := h
  exact ⟨Int.emod_nonneg _ (by omega), Int.emod_lt_of_pos _ (by omega)⟩
theorem brk_memW (hs : 1 ≤ f.step) {t : Int} (h : t ∈ brk f) : t ≤ 0 ∨ f.step ≤ t ∨ t ∈ restsOf f := by
  by_cases h0 : t ≤ 0
  · exact .inl h0
  · by_cases h1 : f.step ≤ t
    · exact .inr (.inl h1)
    · right
      right
      refine rest_mem hs (by omega) (by omega) (all_mem ?_)
      unfold brk at h
      simp only [List.mem_cons, List.not_mem_nil, or_false] at h
      rcases h with z | z | z | z | z | z
      · left; unfold rests0; simp [z]
      · left; unfold rests0; simp [z]
      · exact .inr (.inl (restsE_mem (.inr (.inl z))))
      · exact .inr (.inl (restsE_mem (.inr (.inr z))))
      · exact .inr (.inr (restsE_mem (.inr (.inl z))))
      · exact .inr (.inr (restsE_mem (.inr (.inr z))))
theorem cell_of (hs : 1 ≤ f.step) {v : Int} (h : rstF f v ∉ restsOf f) : Cell f (v - 1) v := by
  have rv := rst_lt hs v
  have h0 : rstF f v ≠ 0 := fun z => h (by rw [z]; exact rest_mem hs (Int.le_refl 0) (by omega) (all_mem (.inl (by unfold rests0; exact List.mem_cons_self ..))))
  have ev := idx_rst (f := f) v
  have im := idx_mk (f := f) hs (i := idxF f v) (r := rstF f v - 1) (by omega) (by omega)
  rw [show f.base + idxF f v * f.step + (rstF f v - 1) = v - 1 by omega] at im
  refine ⟨im.1, fun t ht => ?_⟩
  rw [im.2]
  rcases brk_memW hs ht with z | z | z
  · omega
  · omega
  · constructor
    · intro q; omega
    · intro q
      have : t ≠ rstF f v := fun e => h (e ▸ z)
      omega
theorem many_sign (hf : FOk f) {c : Nat} (hc : isMove c) : 1 ≤ manySteps f c ∨ manySteps f c ≤ -1 := (many_B hf hc).2.imp (fun h => h.2) (fun h => h.2)
theorem aim_ne (hf : FOk f) {c : Nat} (hc : isMove c) (v : Int) : aimOf f v (manySteps f c) ≠ v := by
  rcases many_sign hf hc with h | h
  · have := aim_upW hf.s0 h v; omega
  · have := aim_dnW hf.s0 h v; omega
/-- one of them moves both, the other leads both to one value -/
theorem cell_conf (hf : FOk f) (hg : FOk g) (hl : g.low = f.low) (hh : g.high = f.high) {v : Int} (h2 : f.low + 2 ≤ v) (h3 : v + 2 ≤ f.high) (Cf : Cell f (v - 1) v) (Cg : Cell g (v - 1) v) (hmin : ∀ w, f.low ≤ w → w < v → ∀ c, isMove c → pressKey f w c = pressKey g w c) {c : Nat} (hc : isMove c) {k c0 : Int} (hk : ∀ x, Cell f (v - 1) x → pressKey f x c = x + k * f.step) (h0 : ∀ x, Cell g (v - 1) x → pressKey g x c = c0) : False := by
  have hs := hf.s0
  have hgs := hg.s0
  have f1 := hk _ Cell.rfl'
  have f2 := hk _ Cf
  have g1 := h0 _ Cell.rfl'
  have g2 := h0 _ Cg
  have e1 := hmin (v - 1) (by omega) (by omega) c hc
  have ef1 := pressKey_move (f := f) (v := v - 1) hc
  have ef2 := pressKey_move (f := f) (v := v) hc
  have eg1 := pressKey_move (f := g) (v := v - 1) hc
  have eg2 := pressKey_move (f := g) (v := v) hc
  have nf1 := aim_ne hf hc (v - 1)
  have nf2 := aim_ne hf hc v
  have ng1 := aim_ne hg hc (v - 1)
  have ng2 := aim_ne hg hc v
  -- g's press: how it is led
  have gz : (pressKey g (v - 1) c = v - 1 → False) := fun z => by
    split at eg1
    · omega
    · split at eg1
      · rename_i r1 r2
        split at eg2
        · rename_i r3
          by_cases ga : g.off = "add"
          · have x1 := aim_exact hgs (.inl ga) (v := v - 1) (m := manySteps g c)
            have x2 := aim_exact hgs (.inl ga) (v := v) (m := manySteps g c)
            have c1 := cell_low hgs Cg (manySteps g c)
            have c2 := cell_high hgs Cg (manySteps g c)
            rw [x1] at r1
            rw [x2] at r3
            exact r1 ⟨c1.mpr r3.1, c2.mpr r3.2⟩
          · rw [cell_aim hgs ga Cg] at r1
            exact r1 r3
        · omega
      · split at eg1 <;> split at eg1 <;> omega
  by_cases hk0 : k * f.step = 0
  · exact gz (by omega)
  -- f moves by an aim
  have hrf : f.low ≤ aimOf f (v - 1) (manySteps f c) ∧ aimOf f (v - 1) (manySteps f c) ≤ f.high := by
    refine Classical.byContradiction fun z => ?_
    rw [if_neg z] at ef1
    have z2 : ¬ (f.low ≤ aimOf f v (manySteps f c) ∧ aimOf f v (manySteps f c) ≤ f.high) := fun w => z (by
      by_cases fa : f.off = "add"
      · have x1 := aim_exact hs (.inl fa) (v := v - 1) (m := manySteps f c)
        have x2 := aim_exact hs (.inl fa) (v := v) (m := manySteps f c)
        have c1 := cell_low hs Cf (manySteps f c)
        have c2 := cell_high hs Cf (manySteps f c)
        rw [x1]
        rw [x2] at w
        exact ⟨c1.mpr w.1, c2.mpr w.2⟩
      · rw [cell_aim hs fa Cf]
        exact w)
    rw [if_neg z2] at ef2
    split at ef1
    · omega
    · rename_i n1
      rw [if_neg n1] at ef2
      have au : (aimOf f (v - 1) (manySteps f c) > f.high ↔ aimOf f v (manySteps f c) > f.high) := by
        rcases many_sign hf hc with s | s
        · have u1 := aim_upW hs s (v - 1)
          have u2 := aim_upW hs s v
          constructor <;> intro _ <;> omega
        · have u1 := aim_dnW hs s (v - 1)
          have u2 := aim_dnW hs s v
          constructor <;> intro _ <;> omega
      simp only [au] at ef1
      rw [← ef2] at ef1
      omega
  have hrf2 : f.low ≤ aimOf f v (manySteps f c) ∧ aimOf f v (manySteps f c) ≤ f.high := by
    by_cases fa : f.off = "add"
    · have x1 := aim_exact hs (.inl fa) (v := v - 1) (m := manySteps f c)
      have x2 := aim_exact hs (.inl fa) (v := v) (m := manySteps f c)
      have c1 := cell_low hs Cf (manySteps f c)
      have c2 := cell_high hs Cf (manySteps f c)
      rw [x2]
      rw [x1] at hrf
      exact ⟨c1.mp hrf.1, c2.mp hrf.2⟩
    · rw [← cell_aim hs fa Cf]
      exact hrf
  rw [if_pos hrf] at ef1
  rw [if_pos hrf2] at ef2
  have fa : f.off = "add" := Classical.byContradiction fun z => by
    have := cell_aim hs z Cf (manySteps f c)
    omega
  have xf : ∀ w m, aimOf f w m = w + m * f.step := fun w m => aim_exact hs (.inl fa)
  rw [xf] at ef1 ef2 hrf hrf2
  have hB := (many_B hf hc).2
  -- what u tells
  have hlu : f.low + 1 + f.step < f.high := by omega
  have u1 := press_in (f := f) (v := f.low) (c := 117) (by decide) (by rw [xf]; show f.low ≤ f.low + 1 * f.step ∧ f.low + 1 * f.step ≤ f.high; omega)
  have u2 := press_in (f := f) (v := f.low + 1) (c := 117) (by decide) (by rw [xf]; show f.low ≤ f.low + 1 + 1 * f.step ∧ f.low + 1 + 1 * f.step ≤ f.high; omega)
  have u1 : pressKey f f.low 117 = f.low + 1 * f.step := u1.trans (xf _ _)
  have u2 : pressKey f (f.low + 1) 117 = f.low + 1 + 1 * f.step := u2.trans (xf _ _)
  have w1 := hmin f.low (Int.le_refl _) (by omega) 117 (by decide)
  have w2 := hmin (f.low + 1) (by omega) (by omega) 117 (by decide)
  have a1 : aimOf g f.low 1 = f.low + f.step := (press_aim (g := g) (v := f.low) (c := 117) (by decide) (by omega) (by omega) (by omega)).trans (by omega)
  have a2 : aimOf g (f.low + 1) 1 = f.low + 1 + f.step := (press_aim (g := g) (v := f.low + 1) (c := 117) (by decide) (by omega) (by omega) (by omega)).trans (by omega)
  have eg : Ex1 g := by
    by_cases ga : g.off = "add"
    · exact .inl ga
    · obtain ⟨i, hi⟩ := aim_grid ga f.low 1
      obtain ⟨j, hj⟩ := aim_grid ga (f.low + 1) 1
      exact .inr (one_of hgs (x := f.low + f.step) (k := i) (j := j) (b := g.base) (by omega) (by omega))
  have xg : ∀ w m, aimOf g w m = w + m * g.step := fun w m => ex1_aim hgs eg w m
  have es : g.step = f.step := by
    rw [xg] at a1
    omega
  -- g is clipped to the low end
  rw [xg] at eg1 eg2
  have glow : pressKey g (v - 1) c = g.low ∧ ¬ (g.low ≤ v - 1 + manySteps g c * g.step ∧ v - 1 + manySteps g c * g.step ≤ g.high) := by
    split at eg1
    · rename_i r1
      exfalso
      split at eg2
      · omega
      · rename_i r2
        split at eg2
        · omega
        · split at eg2 <;> split at eg2 <;> omega
    · rename_i r1
      refine ⟨?_, r1⟩
      split at eg1
      · omega
      · split at eg1 <;> split at eg1 <;> omega
  obtain ⟨gl, gr⟩ := glow
  have hneg : manySteps f c * f.step < 0 := by omega
  rcases hc with z | z | z | z
  · subst z
    have : manySteps f 117 * f.step = 1 * f.step := rfl
    omega
  · subst z
    have x1 : manySteps f 100 * f.step = -1 * f.step := rfl
    have x2 : manySteps g 100 * g.step = -1 * g.step := rfl
    rw [x2, es] at gr
    rw [x1] at ef1 hrf
    have hh2 : v - 1 + -1 * f.step ≤ g.high := by omega
    have : ¬ (g.low ≤ v - 1 + -1 * f.step) := fun q => gr ⟨q, hh2⟩
    omega
  · subst z
    have : manySteps f 85 * f.step = f.big * f.step := rfl
    have hb0 := hf.g0
    have := ms_ge hs (show 1 ≤ f.big by omega)
    omega
  · subst z
    have hb0 := hf.g0
    have hb1 := hg.g0
    have x1 : manySteps f 68 * f.step = -(f.big * f.step) := Int.neg_mul ..
    have x2 : manySteps g 68 * g.step = -(g.big * g.step) := Int.neg_mul ..
    have p1 := ms_ge hs (show 1 ≤ f.big by omega)
    have p2 := ms_ge hgs (show 1 ≤ g.big by omega)
    rw [x2, es] at gr
    rw [x1] at ef1 hrf
    -- U parts them at the low end
    have U1 := press_in (f := f) (v := f.low) (c := 85) (by decide) (by rw [xf]; show f.low ≤ f.low + f.big * f.step ∧ f.low + f.big * f.step ≤ f.high; omega)
    have U1 : pressKey f f.low 85 = f.low + f.big * f.step := U1.trans (xf _ _)
    have W1 := hmin f.low (Int.le_refl _) (by omega) 85 (by decide)
    have A1 := press_aim (g := g) (v := f.low) (c := 85) (by decide) (by omega) (by omega) (by omega)
    rw [xg] at A1
    have A1 : f.low + g.big * g.step = pressKey g f.low 85 := A1
    rw [es] at A1
    omega
/-- the first value that parts is tried -/
theorem first_tried (hf : FOk f) (hg : FOk g) (hl : g.low = f.low) (hh : g.high = f.high) {v : Int} (hv : f.low ≤ v ∧ v ≤ f.high) (hmin : ∀ w, f.low ≤ w → w < v → ∀ c, isMove c → pressKey f w c = pressKey g w c) {c : Nat} (hc : isMove c) (hd : pressKey f v c ≠ pressKey g v c) : v ∈ partSpots f g := by
  have hs := hf.s0
  have hgs := hg.s0
  have gb := hf.g0
  have gb2 := hg.g0
  by_cases h400 : f.high - f.low ≤ 400
  · exact (partSpots_all h400 hl hh).mpr hv
  refine Classical.byContradiction fun hno => ?_
  have hno : v ∉ valuesOf f (f.big + 1) ∧ v ∉ valuesOf g (g.big + 1) := by
    unfold partSpots at hno
    rw [sortU_mem, List.mem_append] at hno
    exact ⟨fun z => hno (.inl z), fun z => hno (.inr z)⟩
  have hsp : v ∉ spots0 f := fun z => hno.1 (by
    unfold valuesOf
    rw [if_neg h400, sortU_mem, List.mem_filter]
    refine ⟨List.mem_append_left _ z, ?_⟩
    unfold insideB
    rw [decide_eq_true hv.1, decide_eq_true hv.2]
    rfl)
  unfold spots0 at hsp
  simp only [List.mem_cons, List.not_mem_nil, or_false, not_or] at hsp
  have far : ∀ x : Fld, FOk x → x.low = f.low → x.high = f.high → v ∉ valuesOf x (x.big + 1) → rstF x v ∈ restsOf x → FarK x v := fun x hx e1 e2 hn hr => by
    have hxs := hx.s0
    have hin : x.low ≤ v ∧ v ≤ x.high := by omega
    have i1 := (cmp_idx hxs x.low v).mp hin.1
    have i2 := (cmp_idx hxs v x.high).mp hin.2
    have no := fun q => hn (is_tried hxs (by omega) hin hr q)
    unfold FarK
    constructor
    · refine Int.not_le.mp fun q => no (.inl ⟨?_, ?_⟩) <;> have := hx.g0 <;> omega
    · refine Int.not_le.mp fun q => no (.inr (.inl ⟨?_, ?_⟩)) <;> have := hx.g0 <;> omega
  by_cases rf : rstF f v ∈ restsOf f
  · exact hd (far_same hf hg hl hh (far f hf rfl rfl hno.1 rf) hmin hc)
  by_cases rg : rstF g v ∈ restsOf g
  · exact hd (far_same hg hf hl.symm hh.symm (far g hg hl hh hno.2 rg) (fun w h1 h2 c hc => (hmin w (by omega) h2 c hc).symm) hc).symm
  have Cf := cell_of hs rf
  have Cg := cell_of hgs rg
  have ky : ∀ x ∈ [c], isKey x := fun x hx => by rw [List.mem_singleton.mp hx]; exact move_key hc
  have e1 := hmin (v - 1) (by omega) (by omega) c hc
  rcases uni_press hf (v - 1) ky with ⟨k, _, hk⟩ | ⟨c0, hk⟩
  · rcases uni_press hg (v - 1) ky with ⟨j, _, hj⟩ | ⟨d0, hj⟩
    · have p1 : pressKey f (v - 1) c = v - 1 + k * f.step := hk _ Cell.rfl'
      have p2 : pressKey f v c = v + k * f.step := hk _ Cf
      have p3 : pressKey g (v - 1) c = v - 1 + j * g.step := hj _ Cell.rfl'
      have p4 : pressKey g v c = v + j * g.step := hj _ Cg
      omega
    · exact cell_conf hf hg hl hh (by omega) (by omega) Cf Cg hmin hc (k := k) (c0 := d0) (fun x hx => hk x hx) (fun x hx => hj x hx)
  · rcases uni_press hg (v - 1) ky with ⟨j, _, hj⟩ | ⟨d0, hj⟩
    · exact cell_conf hg hf hl.symm hh.symm (by omega) (by omega) Cg Cf (fun w h1 h2 c hc => (hmin w (by omega) h2 c hc).symm) hc (k := j) (c0 := c0) (fun x hx => hj x hx) (fun x hx => hk x hx)
    · have p1 : pressKey f (v - 1) c = c0 := hk _ Cell.rfl'
      have p2 : pressKey f v c = c0 := hk _ Cf
      have p3 : pressKey g (v - 1) c = d0 := hj _ Cell.rfl'
      have p4 : pressKey g v c = d0 := hj _ Cg
      omega
end
end Sf

namespace Sf
open PySem PySem.Spec PyProof.Rows L2 Evl
/-! ### wide fields alike -/
section
variable {f g : Fld}
theorem first_min {v : Int} {p : Int × Sg} : ∀ {vs : List Int}, vs.Pairwise (· < ·) → firstVal f g vs = some p → v ∈ vs → v < p.1 → ∀ k ∈ keys6, sameAt f g v k
  | [], _, h, _, _ => by cases h
  | x :: r, hp, h, hm, hlt => by
    have hp2 := List.pairwise_cons.mp hp
    unfold firstVal at h
    cases e : firstKey f g x keys6 with
    | some k =>
      rw [e] at h
      cases h
      rcases List.mem_cons.mp hm with z | z
      · dsimp only at hlt
        omega
      · have := hp2.1 v z
        dsimp only at hlt
        omega
    | none =>
      rw [e] at h
      rcases List.mem_cons.mp hm with z | z
      · rw [z]
        exact firstKey_none.mp e
      · exact first_min hp2.2 h z hlt
theorem he_same5 (hl : g.low = f.low) (hh : g.high = f.high) {v : Int} {c : Nat} (h : c = 104 ∨ c = 101) : pressKey f v c = pressKey g v c := by
  rcases h with z | z
  · subst z
    exact hl.symm
  · subst z
    exact hh.symm
theorem keys6_mem {k : Sg} (h : k ∈ keys6) : isKey k.c := sgs_keys.mp h
/-- below the told value nothing parts -/
theorem no_below (hf : FOk f) (hg : FOk g) (hl : g.low = f.low) (hh : g.high = f.high) : ∀ (n : Nat) (v : Int), (v - f.low).toNat = n → f.low ≤ v → v ≤ f.high → (∀ p, partOf f g = some p → v < p.1) → ∀ c, isMove c → pressKey f v c = pressKey g v c := by
  intro n
  induction n using Nat.strongRecOn with
  | ind n ih =>
    intro v hn h1 h2 h3 c hc
    refine Classical.byContradiction fun hd => ?_
    have ht := first_tried hf hg hl hh ⟨h1, h2⟩ (fun w w1 w2 c hc => ih (w - f.low).toNat (by omega) w rfl w1 (by omega) (fun p hp => by have := h3 p hp; omega) c hc) hc hd
    have hk : ∀ k ∈ keys6, sameAt f g v k := by
      unfold partOf at h3
      cases e : firstVal f g (partSpots f g) with
      | none => exact firstVal_none.mp e v ht
      | some p => exact first_min sortU_pw e ht (h3 p e)
    exact hd (hk (Sg.mk c) (sgs_keys.mpr (move_key hc)))
theorem part_in (hl : g.low = f.low) (hh : g.high = f.high) {p : Int × Sg} (h : partOf f g = some p) : f.low ≤ p.1 ∧ p.1 ≤ f.high := by
  unfold partOf at h
  have := (firstVal_some h).1
  unfold partSpots at this
  rw [sortU_mem, List.mem_append] at this
  rcases this with z | z
  · exact values_in z
  · have := values_in z
    omega
theorem k05_c1 {found : Option (Int × Sg)} {value : Int × Sg} (hd : found = partOf f g) (hc : (!found.isNone) = true) (hv : value = found.getD ((0 : Int), Sg.mk 0)) : ((!decide (value.2.c ∈ ("udUDhe" : Str).cps.toList)) || (!decide ((firstVal f g ([value.1] : List Int)) = found))) = false := by
  cases e : found with
  | none => rw [e] at hc; cases hc
  | some p =>
    rw [e] at hv hd
    have hv : value = p := hv
    subst hv
    unfold partOf at hd
    obtain ⟨h1, h2⟩ := firstVal_some hd.symm
    have h3 := (firstKey_some h2).1
    have e1 : firstVal f g [value.1] = some value := by
      unfold firstVal
      rw [h2]
    rw [decide_eq_true e1, decide_eq_true (show value.2.c ∈ ("udUDhe" : Str).cps.toList from by rcases keys6_mem h3 with z | z | z | z | z | z <;> (rw [z]; decide))]
    rfl
theorem k05_last {found : Option (Int × Sg)} {last : Int} (hf : FOk f) (hl : g.low = f.low) (hh : g.high = f.high) (hd : found = partOf f g) (h : last = if (found.isNone) = true then (f.high + 1) else (found.getD ((0 : Int), Sg.mk 0)).1) : (f.low ≤ last ∧ last ≤ f.high + 1) ∧ ∀ p, partOf f g = some p → last = p.1 := by
  have hlh := hf.lh
  cases e : found with
  | none =>
    rw [e] at h hd
    have h : last = f.high + 1 := h
    exact ⟨by omega, fun p hp => by rw [← hd] at hp; cases hp⟩
  | some p =>
    rw [e] at h hd
    have h : last = p.1 := h
    have := part_in hl hh hd.symm
    exact ⟨by omega, fun q hq => by rw [← hd] at hq; cases hq; exact h⟩
theorem k05_c2 {l : List Int} {last : Int} (hf : FOk f) (hg : FOk g) (hl : g.low = f.low) (hh : g.high = f.high) (hlast : (f.low ≤ last ∧ last ≤ f.high + 1) ∧ ∀ p, partOf f g = some p → last = p.1) (hm : ∀ v ∈ l, f.low ≤ v) : (!(firstVal f g ((l.filter fun v => (decide (v < last))).map fun v => v)).isNone) = false := by
  have : firstVal f g ((l.filter fun v => (decide (v < last))).map fun v => v) = none := by
    refine firstVal_none.mpr fun v hv k hk => ?_
    rw [List.map_id'] at hv
    obtain ⟨h1, h2⟩ := List.mem_filter.mp hv
    have h2 := of_decide_eq_true h2
    have h3 := hm v h1
    rcases key_cases (keys6_mem hk) with z | z
    · exact no_below hf hg hl hh _ v rfl h3 (by omega) (fun p hp => by have := hlast.2 p hp; omega) k.c z
    · exact he_same5 hl hh z
  rw [this]
  rfl
theorem k05_c3 {found : Option (Int × Sg)} {told : Bool} (hd : found = partOf f g) (ht : told = (partOf f g).isNone) : ((!decide (told = (found.isNone))) || ((!decide ((partOf g f) = found)) || (!true))) = false := by
  rw [ht, hd, partOf_symm (one := g), decide_eq_true rfl, decide_eq_true rfl]
  rfl
theorem some_getD5 {α : Type} {o : Option α} {d : α} (h : o.isNone = false) : o = some (o.getD d) := by
  cases o with
  | none => cases h
  | some x => rfl
theorem low_cat {a b z : List Int} {lo : Int} (e : z = a ++ b) (ha : ∀ v ∈ a, lo ≤ v) (hb : ∀ v ∈ b, lo ≤ v) : ∀ v ∈ z, lo ≤ v := fun v hv => by
  rw [e] at hv
  exact (List.mem_append.mp hv).elim (ha v) (hb v)
theorem len_cat5 {a b z : List Int} {n m : Nat} (e : z = a ++ b) (ha : a.length ≤ n) (hb : b.length = m) : z.length ≤ n + m := by
  rw [e, List.length_append]
  omega
end
theorem k05_c4 : (!decide ((partOf (Fld.mk 0 1000000000000 1000 0 ("next" : Str) ("stop" : Str) 5) (Fld.mk 0 1000000000000 1000 0 ("near" : Str) ("stop" : Str) 5)) = (some (500, (Sg.mk 117))))) = false := by decide +kernel
theorem k05_c5 : ((!decide ((partOf (Fld.mk 0 1000000000000 1000 0 ("near" : Str) ("stop" : Str) 5) (Fld.mk 0 1000000000000 1000 0 ("near" : Str) ("stay" : Str) 5)) = (some (1, (Sg.mk 100))))) || (!decide (((partOf (Fld.mk 0 1000000000000 1000 0 ("near" : Str) ("stop" : Str) 5) (Fld.mk 0 1000000000000 1000 7000 ("near" : Str) ("stop" : Str) 5)).isNone) = true))) = false := by decide +kernel
theorem k05_c6 : (decide ((partOf (Fld.mk 0 1000000000000 1000 0 ("near" : Str) ("stop" : Str) 5) (Fld.mk 0 1000000000000 1000 2 ("near" : Str) ("stop" : Str) 5)) = (some (0, (Sg.mk 117))))) = true := by decide +kernel
end Sf

namespace Sf
open PySem PySem.Spec PyProof.Rows L2 Evl
def topS (i : Nat) : Stmt := PySem.Challenge.pw_stepfields_k05_whole_wide_fields_alike.main.body.getD i (.Pass ⟨0, 0, 0, 0⟩)
abbrev FnP (K : PySem.W.Frag) (x : Str) (st : Stmt) (f : Addr) (fd : FuncData) : Prop := FunD K x x (defArgs st) (defBody st) (defScope st) [] [] f fd
structure Top (K : PySem.W.Frag) (mg : Str → Option Value) : Prop where
  b_len : mg "len" = none
  b_abs : mg "abs" = none
  b_all : mg "all" = none
  b_any : mg "any" = none
  b_range : mg "range" = none
  b_int : mg "int" = none
  b_str : mg "str" = none
  b_tuple : mg "tuple" = none
  b_bool : mg "bool" = none
  b_isinstance : mg "isinstance" = none
  b_min : mg "min" = none
  b_max : mg "max" = none
  b_list : mg "list" = none
  b_sum : mg "sum" = none
  b_sorted : mg "sorted" = none
  b_set : mg "set" = none
  b_zip : mg "zip" = none
  b_enumerate : mg "enumerate" = none
  b_dict : mg "dict" = none
  g_MOST : ∃ t, mg "MOST" = some (.int 1000000000000 t)
  g_KEYS : ∃ t, mg "KEYS" = some (.str "udUDhe" t)
  g_OFFS : ∃ a, mg "OFFS" = some (.ref a) ∧ ∀ H, SqT K H a [.str "add", .str "near", .str "next"]
  g_ENDS : ∃ a, mg "ENDS" = some (.ref a) ∧ ∀ H, SqT K H a [.str "round", .str "stay", .str "stop"]
  g_FEW : ∃ t, mg "FEW" = some (.int 400 t)
/-! the readings' own lines: ev (an expression), rl (what is known of a value), ex (heaps in a row), mc, dv (the sizes), pr (a premise) -/
local macro_rules | `(tactic| walk_at "ex") => `(tactic| first
  | assumption
  | exact Ex.refl _
  | (refine Ex.trans ?_ (by assumption); walk_at "ex"))
local macro_rules | `(tactic| walk_at "rl") => `(tactic| first
  | assumption
  | (refine Rep.mono ?_ (by assumption); walk_at "ex"))
local macro_rules | `(tactic| walk_at "mc") => `(tactic| first
  | exact Or.inl ⟨by omega, by omega⟩
  | exact Or.inr ⟨by omega, by omega⟩)
local macro_rules | `(tactic| walk_at "pr") => `(tactic| first
  | assumption
  | exact True.intro
  | (refine ⟨?_, ?_⟩ <;> walk_at "pr")
  | omega)
local macro_rules | `(tactic| walk_at "et") => `(tactic| first
  | ((with_reducible show @ET _ (tTest _) _ _ _); exact et_t (by walk_at "ev"))
  | ((with_reducible show @ET _ (tB _) _ _ _); exact et_b (by walk_at "ev"))
  | ((with_reducible show @ET _ (tAnd _ _) _ _ _); exact ett_and (by walk_at "et") (fun _ => by walk_at "et"))
  | ((with_reducible show @ET _ (tOr _ _) _ _ _); exact ett_or (by walk_at "et") (fun _ => by walk_at "et"))
  | ((with_reducible show @ET _ (tNot _) _ _ _); exact ett_not (by walk_at "et")))
local macro_rules | `(tactic| walk_at "evo") => `(tactic| first
  | ((with_reducible show @ER _ _ _ (tOp (rI0 fun i j => V.int (i + j)) _ _) _ _ _); exact er_add (by walk_at "ev") (by walk_at "ev"))
  | ((with_reducible show @ER _ _ _ (tOp (rI0 fun i j => V.int (i - j)) _ _) _ _ _); exact er_sub (by walk_at "ev") (by walk_at "ev"))
  | ((with_reducible show @ER _ _ _ (tOp (rI0 fun i j => V.bl (decide (i < j))) _ _) _ _ _); exact er_lt (by walk_at "ev") (by walk_at "ev"))
  | ((with_reducible show @ER _ _ _ (tOp (rI0 fun i j => V.bl (decide (i ≤ j))) _ _) _ _ _); exact er_le (by walk_at "ev") (by walk_at "ev"))
  | ((with_reducible show @ER _ _ _ (tOp (rI0 fun i j => V.bl (decide (j < i))) _ _) _ _ _); exact er_gt (by walk_at "ev") (by walk_at "ev"))
  | ((with_reducible show @ER _ _ _ (tOp (rI0 fun i j => V.bl (decide (j ≤ i))) _ _) _ _ _); exact er_ge (by walk_at "ev") (by walk_at "ev"))
  | ((with_reducible show @ER _ _ _ (tOp (rI CMul _) _ _) _ _ _); exact er_mul (by walk_at "ev") (by walk_at "ev") (by walk_at "mc"))
  | ((with_reducible show @ER _ _ _ (tOp (rI CDivW _) _ _) _ _ _); exact er_div (by walk_at "ev") (by walk_at "ev") (cdivw (by omega) (by omega)))
  | ((with_reducible show @ER _ _ _ (tOp (rI _ fun i j => V.int (i % j)) _ _) _ _ _); exact er_mod (by walk_at "ev") (by walk_at "ev") (by omega))
  | ((with_reducible show @ER _ _ _ (tOp (rI CPow _) _ _) _ _ _); exact er_pow (by walk_at "ev") (by walk_at "ev") (by decide))
  | ((with_reducible show @ER _ _ _ (tOp (rEq) _ _) _ _ _); first | exact er_eqI (by walk_at "ev") (by walk_at "ev") | exact er_eqS (by walk_at "ev") (by walk_at "ev") | exact er_eqB (by walk_at "ev") (by walk_at "ev"))
  | ((with_reducible show @ER _ _ _ (tOp (rNe) _ _) _ _ _); first | exact er_neI (by walk_at "ev") (by walk_at "ev") | exact er_neS (by walk_at "ev") (by walk_at "ev") | exact er_neB (by walk_at "ev") (by walk_at "ev"))
  | ((with_reducible show @ER _ _ _ (tOp (rIn _ false) _ _) _ _ _); first | exact er_inL (by walk_at "ev") (by walk_at "ev") | exact er_inT (by walk_at "ev") (by walk_at "ev"))
  | ((with_reducible show @ER _ _ _ (tOp (rIn _ true) _ _) _ _ _); exact er_ninL (by walk_at "ev") (by walk_at "ev"))
  | ((with_reducible show @ER _ _ _ (tOp (rNotInS) _ _) _ _ _); exact er_notInS (by walk_at "ev") (by walk_at "ev"))
  | ((with_reducible show @ER _ _ _ (tOp (rInS) _ _) _ _ _); exact er_inS (by walk_at "ev") (by walk_at "ev"))
  | ((with_reducible show @ER _ _ _ (tOp (rIxT _) _ (tC (V.int 0))) _ _ _); exact er_f0 (by walk_at "ev"))
  | ((with_reducible show @ER _ _ _ (tOp (rIxT _) _ (tC (V.int 1))) _ _ _); exact er_f1 (by walk_at "ev"))
  | ((with_reducible show @ER _ _ _ (tOp (rIxT _) _ (tC (V.int 2))) _ _ _); exact er_f2 (by walk_at "ev"))
  | ((with_reducible show @ER _ _ _ (tOp (rIxT _) _ (tC (V.int 3))) _ _ _); exact er_f3 (by walk_at "ev"))
  | ((with_reducible show @ER _ _ _ (tOp (rIxT _) _ (tC (V.int 4))) _ _ _); exact er_f4 (by walk_at "ev"))
  | ((with_reducible show @ER _ _ _ (tOp (rIxT _) _ (tC (V.int 5))) _ _ _); exact er_f5 (by walk_at "ev"))
  | ((with_reducible show @ER _ _ _ (tOp (rIxT _) _ (tC (V.int 6))) _ _ _); exact er_f6 (by walk_at "ev"))
  | ((with_reducible show @ER _ _ _ (tOp (rIxT _) _ (tC (V.int 0))) _ _ _); exact er_p0 (by walk_at "ev"))
  | ((with_reducible show @ER _ _ _ (tOp (rIxT _) _ (tC (V.int 1))) _ _ _); exact er_p1 (by walk_at "ev")))
local macro_rules | `(tactic| walk_at "nr") => `(tactic| first
  | (rw [between_enc (by omega)]; rfl)
  | (simp only [Bool.or_eq_false_iff, Bool.not_eq_false', Bool.not_eq_true', decide_eq_false_iff_not]; omega)
  | rfl)
local macro_rules | `(tactic| walk_at "sd") => `(tactic| first
  | assumption
  | exact True.intro
  | omega
  | exact FOk.fl (by assumption)
  | exact FOk.withEnds (by first | assumption | (constructor <;> decide)) (by first | assumption | decide)
  | exact FOk.withOff (by first | assumption | (constructor <;> decide)) (by first | assumption | decide)
  | exact FOk.withBoth (by first | assumption | (constructor <;> decide)) (by first | assumption | decide) (by first | assumption | decide)
  | exact FOk.litOff (by constructor <;> decide) (by assumption)
  | exact FOk.litEnds (by constructor <;> decide) (by assumption)
  | (show FOk _; constructor <;> decide)
  | exact rowOkB_ok (by decide)
  | (refine And.intro ?_ ?_ <;> walk_at "sd")
  | decide
  | (dsimp only; omega)
  | (intro _ _; walk_at "sd"))
local macro_rules | `(tactic| walk_at "ea") => `(tactic| first | exact eas_nil | exact eas_cons (by walk_at "ev") (by walk_at "ea"))
local macro_rules | `(tactic| walk_at "ev") => `(tactic| first
  | ((with_reducible show @ER _ _ _ (tVar _) _ _ _); first | exact er_varI rfl | exact er_varB rfl | exact er_varS rfl | exact er_var rfl (by walk_at "rl") | exact er_sg (er_var rfl (by walk_at "rl")))
  | ((with_reducible show @ER _ _ _ (tC _) _ _ _); first | exact er_int | exact er_str | exact er_bl | exact er_ref (by walk_at "rl"))
  | ((with_reducible show @ER _ _ _ (tOp _ _ _) _ _ _); walk_at "evo")
  | ((with_reducible show @ER _ _ _ (tUn _ _) _ _ _); exact er_neg (by walk_at "ev"))
  | ((with_reducible show @ER _ _ _ (tChain _ _ _ _ _) _ _ _); exact er_chain (by walk_at "ev") (by walk_at "ev") (by walk_at "ev"))
  | ((with_reducible show @ER _ _ _ (tCall _ _ _ (tCons _ tNil)) _ _ _); exact er_call1 (by walk_at "ev") (by walk_at "pr"))
  | ((with_reducible show @ER _ _ _ (tCall _ _ _ (tCons _ (tCons _ tNil))) _ _ _); exact er_call2 (by walk_at "ev") (by walk_at "ev") (by walk_at "pr"))
  | ((with_reducible show @ER _ _ _ (tCall _ _ _ (tCons _ (tCons _ (tCons _ tNil)))) _ _ _); exact er_call3 (by walk_at "ev") (by walk_at "ev") (by walk_at "ev") (by walk_at "pr"))
  | ((with_reducible show @ER _ _ _ (tCall _ _ _ (tCons _ (tCons _ (tCons _ (tCons _ tNil))))) _ _ _); exact er_call4 (by walk_at "ev") (by walk_at "ev") (by walk_at "ev") (by walk_at "ev") (by walk_at "pr"))
  | ((with_reducible show @ER _ _ _ (tAndV _ _) _ _ _); exact er_and (by walk_at "ev") (fun _ => by walk_at "ev"))
  | ((with_reducible show @ER _ _ _ (tOrV _ _) _ _ _); exact er_or (by walk_at "ev") (fun _ => by walk_at "ev"))
  | ((with_reducible show @ER _ _ _ (tNotV _) _ _ _); exact er_not (by walk_at "ev"))
  | ((with_reducible show @ER _ _ _ (tIf _ _ _) _ _ _); exact er_if (by walk_at "et") (fun _ => by walk_at "ev") (fun _ => by walk_at "ev"))
  | ((with_reducible show @ER _ _ _ (tTup (tCons _ (tCons _ tNil))) _ _ _); exact er_tup2 (by walk_at "ev") (by walk_at "ev"))
  | ((with_reducible show @ER _ _ _ (tTup (tCons _ (tCons _ (tCons _ tNil)))) _ _ _); exact er_tup3 (by walk_at "ev") (by walk_at "ev") (by walk_at "ev"))
  | ((with_reducible show @ER _ _ _ (tCB rAbs _) _ _ _); exact er_abs (by walk_at "ev"))
  | ((with_reducible show @ER _ _ _ (tCB rMax2' _) _ _ _); exact er_max2 (by walk_at "ev") (by walk_at "ev"))
  | ((with_reducible show @ER _ _ _ (tCB rMin2' _) _ _ _); exact er_min2 (by walk_at "ev") (by walk_at "ev"))
  | ((with_reducible show @ER _ _ _ (tCB rInt1 _) _ _ _); first | exact er_int1 (by walk_at "ev") | exact er_intB (by walk_at "ev"))
  | ((with_reducible show @ER _ _ _ (tCB (rAll _) _) _ _ _); exact er_all (by walk_at "ev"))
  | ((with_reducible show @ER _ _ _ (tCB (rAny _) _) _ _ _); exact er_any (by walk_at "ev"))
  | ((with_reducible show @ER _ _ _ (tCB (rSum _) _) _ _ _); exact er_sum (by walk_at "ev"))
  | ((with_reducible show @ER _ _ _ (tCB (rLenQ _) _) _ _ _); first | exact er_lenL (by walk_at "ev") | exact er_lenT (by walk_at "ev"))
  | ((with_reducible show @ER _ _ _ (tLst _) _ _ _); exact er_lst (by walk_at "ea") (Nat.le_of_ble_eq_true rfl))
  | ((with_reducible show @ER _ _ _ (tTup (tCons _ (tCons _ (tCons _ (tCons _ (tCons _ (tCons _ (tCons _ tNil)))))))) _ _ _); exact er_mkF (by walk_at "ev") (by walk_at "ev") (by walk_at "ev") (by walk_at "ev") (by walk_at "ev") (by walk_at "ev") (by walk_at "ev")))
abbrev s_L_source : Stmt := topS 26
theorem sc_L_source : FnScope ["_law_script", "_law_index", "_law_cell"] ["_law_script", "_law_index"] (defScope s_L_source) := ⟨rfl, rfl, rfl, by decide +kernel, rfl, by decide +kernel, by decide +kernel⟩
abbrev SP_L_source (K : PySem.W.Frag) : Sp := SP_source K
theorem ok_L_source {P : Program} {w : World} {K : PySem.W.Frag} {mg : Str → Option Value} {base : Heap} (T : Top K mg) {f : Addr} {fd : FuncData} (F : FnP K "_law_source" s_L_source f fd) : FnOk P w K mg base CX0 1 f fd ["_law_script", "_law_index"] (SP_L_source K) := by
  refine source_of (F.ok sc_L_source (sp := spSource K) ?_ (fun cdv A outer s H vs Q E hr hs => ?_))
  · rintro vs H Q E ⟨a, ns, n, rfl, _⟩
    rfl
  obtain ⟨a, ns, n, rfl, hs, n0, n1, q⟩ := hs
  refine ⟨_, PSs.nox (pss_cons (ps_set (i := 2) sc_L_source.nd rfl (.inl rfl) pe_int)
      (pss_cons (ps_if (pt_cmpR op_lt (pv 1) (pe_callB call_len_seq (by rfl) T.b_len (by decide +kernel) (pa_cons (pv 0) pa_nil)) (nomark _)) (pss_one (ps_set (i := 2) sc_L_source.nd rfl (.inl rfl) (pe_callB call_abs (by rfl) T.b_abs (by decide +kernel) (pa_cons (pe_ix ix_list (pv 0) (pv 1) (fun _ _ => rfl)) pa_nil)))) pss_nil)
      (pss_cons (ps_if (pt_cmpR op_lt (pv 2) (pe_op op_pow pe_int pe_int) (nomark _)) (pss_one (ps_ret (pe_lst (pa_cons pe_int (pa_cons (pe_op op_add pe_int (pe_op op_mod (pe_callTy call_int1 (by rfl) T.b_int (by decide +kernel) (pa_cons (pe_op op_add (pe_op op_mul (pv 2) pe_int) (pe_op op_mul pe_int (pv 1))) pa_nil)) pe_int)) pa_nil))))) pss_nil)
      (pss_one (ps_ret (pe_lst (pa_cons (pv 2) (pa_cons (pe_op op_add pe_int (pe_op op_mod (pe_callTy call_int1 (by rfl) T.b_int (by decide +kernel) (pa_cons (pe_op op_add (pv 2) (pv 1)) pa_nil)) pe_int)) pa_nil)))))))), ?_⟩
  show (_ : TS) _ [some (V.ref a), some (V.int n), none] H
  have hpow : ((10 : Int) ^ (18 : Int).toNat) = 1000000000000000000 := by decide
  have fin : ∀ (c : Int) H', Ex H H' → (tSeq (tIfS (tTest (tOp (rI0 fun i j => .bl (decide (i < j))) (tVar 2) (tOp (rI CPow fun i j => .int (i ^ j.toNat)) (tC (.int 10)) (tC (.int 18)))))
      (tRet (tLst (tCons (tC (.int 0)) (tCons (tOp (rI0 fun i j => .int (i + j)) (tC (.int 1)) (tOp (rI (fun _ j => 0 < j) fun i j => .int (i % j)) (tCB rInt1 (tCons (tOp (rI0 fun i j => .int (i + j)) (tOp (rI CMul fun i j => .int (i * j)) (tVar 2) (tC (.int 7919))) (tOp (rI CMul fun i j => .int (i * j)) (tC (.int 104729)) (tVar 1))) tNil)) (tC (.int 2147483646)))) tNil)))) tNext)
      (tRet (tLst (tCons (tVar 2) (tCons (tOp (rI0 fun i j => .int (i + j)) (tC (.int 1)) (tOp (rI (fun _ j => 0 < j) fun i j => .int (i % j)) (tCB rInt1 (tCons (tOp (rI0 fun i j => .int (i + j)) (tVar 2) (tVar 1)) tNil)) (tC (.int 2147483646)))) tNil))))) ({ nx := fun _ H' => Q .non H', rt := Q } : Ends) [some (V.ref a), some (V.int n), some (V.int c)] H' := by
    intro c H' e
    have m0 : ∀ z : Int, 0 ≤ 1 + z % 2147483646 ∧ 1 + z % 2147483646 < 2147483647 := fun z => by
      have h1 := Int.emod_nonneg z (show (2147483646 : Int) ≠ 0 by decide)
      have h2 := Int.emod_lt_of_pos z (show (0 : Int) < 2147483646 by decide)
      omega
    refine q_if0 K (et_t (er_lt (er_varI rfl) (er_powc ⟨by decide, by decide, by decide⟩ hpow))) (fun c1 H1 e1 => ?_) (fun c1 H1 e1 => ?_)
    · have ev : ER K (tOp (rI0 fun i j => .int (i + j)) (tC (.int 1)) (tOp (rI (fun _ j => 0 < j) fun i j => .int (i % j)) (tCB rInt1 (tCons (tOp (rI0 fun i j => .int (i + j)) (tOp (rI CMul fun i j => .int (i * j)) (tVar 2) (tC (.int 7919))) (tOp (rI CMul fun i j => .int (i * j)) (tC (.int 104729)) (tVar 1))) tNil)) (tC (.int 2147483646)))) [some (V.ref a), some (V.int n), some (V.int c)] H1 (1 + (c * 7919 + 104729 * n) % 2147483646) :=
        er_add er_int (er_mod (er_int1 (er_add (er_mul (er_varI rfl) er_int (.inr ⟨by decide, by decide⟩)) (er_mul er_int (er_varI rfl) (.inl ⟨by decide, by decide⟩)))) er_int (by decide))
      refine ev H1 (Ex.refl _) _ fun v H2 e2 r => ?_
      cases r
      refine ⟨sz_of (by show 2 ≤ 100000; decide), fun p hp => q p 0 _ _ (fresh_back ((e.trans e1).trans e2) hp) (((e.trans e1).trans e2).trans (Ex.new hp)) (m0 _).1 (m0 _).2 upd_same⟩
    · refine ⟨_, rfl, ?_⟩
      have ev : ER K (tOp (rI0 fun i j => .int (i + j)) (tC (.int 1)) (tOp (rI (fun _ j => 0 < j) fun i j => .int (i % j)) (tCB rInt1 (tCons (tOp (rI0 fun i j => .int (i + j)) (tVar 2) (tVar 1)) tNil)) (tC (.int 2147483646)))) [some (V.ref a), some (V.int n), some (V.int c)] H1 (1 + (c + n) % 2147483646) :=
        er_add er_int (er_mod (er_int1 (er_add (er_varI rfl) (er_varI rfl))) er_int (by decide))
      refine ev H1 (Ex.refl _) _ fun v H2 e2 r => ?_
      cases r
      refine ⟨sz_of (by show 2 ≤ 100000; decide), fun p hp => q p c _ _ (fresh_back ((e.trans e1).trans e2) hp) (((e.trans e1).trans e2).trans (Ex.new hp)) (m0 _).1 (m0 _).2 upd_same⟩
  refine q_setI K er_int (fun _ => .s (.s .z)) (fun H1 e1 => ?_)
  have hl : ER K (tCB (rLenQ K) (tCons (tVar 0) tNil)) [some (V.ref a), some (V.int n), some (V.int 0)] H1 (ns.length : Int) := fun H2 e2 Q q => ⟨.ref a, rfl, a, ns.map V.int, rfl, .inl (ex_l (e1.trans e2) hs), by
    rw [List.length_map]
    exact q _ H2 (Ex.refl _) rfl⟩
  refine q_if0 K (et_t (er_lt (er_varI rfl) hl)) (fun c1 H2 e2 => ?_) (fun c1 H2 e2 => fin 0 H2 (e1.trans e2))
  have hlt : n.toNat < ns.length := by
    simp only [decide_eq_true_eq] at c1
    omega
  have hat : atI (ns.map V.int) n = some (.int ns[n.toNat]) := by
    refine at_of (show n = (n.toNat : Int) by omega) ?_
    rw [List.getElem?_map, List.getElem?_eq_getElem hlt]
    rfl
  have hx : ER K (tOp (rIxL K) (tVar 0) (tVar 1)) [some (V.ref a), some (V.int n), some (V.int 0)] H2 (ns[n.toNat]) := fun H3 e3 Q q => ⟨.ref a, rfl, .int n, rfl, a, _, n, _, rfl, rfl, ex_l ((e1.trans e2).trans e3) hs, hat, q _ H3 (Ex.refl _) rfl⟩
  refine l_set (α := Int) K (er_abs hx) (fun _ => .s (.s .z)) (fun v H3 e3 r => ?_)
  cases r
  exact fin _ H3 ((e1.trans e2).trans e3)
abbrev s_L_draw : Stmt := topS 27
theorem sc_L_draw : FnScope ["_law_source_here", "_law_size", "_law_drawn"] ["_law_source_here", "_law_size"] (defScope s_L_draw) := ⟨rfl, rfl, rfl, by decide +kernel, rfl, by decide +kernel, by decide +kernel⟩
abbrev SP_L_draw (K : PySem.W.Frag) : Sp := SP_draw K
theorem ok_L_draw {P : Program} {w : World} {K : PySem.W.Frag} {mg : Str → Option Value} {base : Heap} (T : Top K mg) {f : Addr} {fd : FuncData} (F : FnP K "_law_draw" s_L_draw f fd) : FnOk P w K mg base CX0 1 f fd ["_law_source_here", "_law_size"] (SP_L_draw K) := by
  refine draw_of (F.ok sc_L_draw (sp := spDraw) ?_ (fun cdv A outer s H vs Q E hr hs => ?_)) rfl
  · rintro vs H Q E ⟨S, x, y, n, rfl, _⟩
    rfl
  obtain ⟨S, x, y, n, rfl, hS, y0, y1, n0, n1, q⟩ := hs
  refine ⟨_, PSs.nox (pss_cons (ps_if (pt_cmpR op_gt (pe_ix ix_list (pv 0) pe_int (fun _ _ => rfl)) pe_int (nomark _)) (pss_cons (ps_set (i := 2) sc_L_draw.nd rfl (.inl rfl) (pe_op op_mod (pe_callTy call_int1 (by rfl) T.b_int (by decide +kernel) (pa_cons (pe_ix ix_list (pv 0) pe_int (fun _ _ => rfl)) pa_nil)) (pv 1)))
      (pss_cons (ps_asg (pe_op op_fdivW (pe_ix ix_list (pv 0) pe_int (fun _ _ => rfl)) (pv 1)) (pg_sub (pv 0) pe_int set_list))
      (pss_one (ps_ret (pv 2))))) pss_nil)
      (pss_cons (ps_asg (pe_op op_mod (pe_callTy call_int1 (by rfl) T.b_int (by decide +kernel) (pa_cons (pe_op op_mul (pe_ix ix_list (pv 0) pe_int (fun _ _ => rfl)) pe_int) pa_nil)) pe_int) (pg_sub (pv 0) pe_int set_list))
      (pss_one (ps_ret (pe_op op_mod (pe_callTy call_int1 (by rfl) T.b_int (by decide +kernel) (pa_cons (pe_op op_fdivW (pe_op op_mod (pe_callTy call_int1 (by rfl) T.b_int (by decide +kernel) (pa_cons (pe_op op_mul (pe_ix ix_list (pv 0) pe_int (fun _ _ => rfl)) (pe_ix ix_list (pv 0) pe_int (fun _ _ => rfl))) pa_nil)) pe_int) pe_int) pa_nil)) (pv 1)))))), ?_⟩
  show (_ : TS) _ [some (V.ref S), some (V.int n), none] H
  have rl : ∀ x y H', H' S = some (.lst [V.int x, V.int y]) → Rep.rel K H' (V.ref S) [x, y] := fun x y H' h => ⟨S, [.int x, .int y], rfl, h, .cons rfl (.cons rfl .nil)⟩
  have m1 : ∀ z : Int, 0 ≤ z % n ∧ z % n < n := fun z => ⟨Int.emod_nonneg z (by omega), Int.emod_lt_of_pos z (by omega)⟩
  refine q_if0 K (et_t (er_gt (er_ixL (er_var rfl (rl x y H hS)) er_int rfl) er_int)) (fun c1 H1 e1 => ?_) (fun c1 H1 e1 => ?_)
  · refine q_setI K (er_mod (er_int1 (er_ixL (er_var rfl (rl x y H1 (e1 _ _ hS))) er_int rfl)) (er_varI rfl) (by omega)) (fun _ => .s (.s .z)) (fun H2 e2 => ?_)
    have ev : ER K (tOp (rI CDivW fun i j => .int (i / j)) (tOp (rIxL K) (tVar 0) (tC (.int 0))) (tVar 1)) [some (V.ref S), some (V.int n), some (V.int (x % n))] H2 (x / n) :=
      er_div (er_ixL (er_var rfl (rl x y H2 (e2 _ _ (e1 _ _ hS)))) er_int rfl) (er_varI rfl) (cdivw (by omega) (by omega))
    refine ev H2 (Ex.refl _) _ fun v H3 e3 r => ?_
    cases r
    have hS3 := e3 _ _ (e2 _ _ (e1 _ _ hS))
    refine ⟨.ref S, rfl, S, _, 0, 0, rfl, rfl, hS3, rfl, ?_⟩
    refine ⟨_, rfl, q (x % n) (x / n) y _ (m1 x).1 (m1 x).2 y0 y1 (fun a o ha h => ?_) upd_same⟩
    rw [upd_ne ha]
    exact e3 _ _ (e2 _ _ (e1 _ _ h))
  · have ev : ER K (tOp (rI (fun _ j => 0 < j) fun i j => .int (i % j)) (tCB rInt1 (tCons (tOp (rI CMul fun i j => .int (i * j)) (tOp (rIxL K) (tVar 0) (tC (.int 1))) (tC (.int 48271))) tNil)) (tC (.int 2147483647))) [some (V.ref S), some (V.int n), none] H1 (y * 48271 % 2147483647) :=
      er_mod (er_int1 (er_mul (er_ixL (er_var rfl (rl x y H1 (e1 _ _ hS))) er_int rfl) er_int (.inr ⟨by decide, by decide⟩))) er_int (by decide)
    refine ev H1 (Ex.refl _) _ fun v H3 e3 r => ?_
    cases r
    have hS3 := e3 _ _ (e1 _ _ hS)
    refine ⟨.ref S, rfl, S, _, 1, 1, rfl, rfl, hS3, rfl, ?_⟩
    have z0 := Int.emod_nonneg (y * 48271) (show (2147483647 : Int) ≠ 0 by decide)
    have z1 := Int.emod_lt_of_pos (y * 48271) (show (0 : Int) < 2147483647 by decide)
    generalize y * 48271 % 2147483647 = z at z0 z1
    have hS4 : (upd H3 S (.lst ([V.int x, V.int y].set 1 (V.int z)))) S = some (.lst [V.int x, V.int z]) := upd_same
    have hr4 := rl x z _ hS4
    refine l_ret (α := Int) K (er_mod (er_int1 (er_div (er_mod (er_int1 (er_mul (er_ixL (er_var rfl hr4) er_int rfl) (er_ixL (er_var rfl hr4) er_int rfl) (.inl ⟨by omega, by omega⟩))) er_int (by decide)) er_int (cdivw (by decide) (by decide)))) (er_varI rfl) (by omega)) (fun v H5 e5 r => ?_)
    cases r
    refine q _ x z H5 (m1 _).1 (m1 _).2 z0 z1 (fun a o ha h => ?_) (e5 _ _ hS4)
    refine e5 _ _ ?_
    rw [upd_ne ha]
    exact e3 _ _ (e1 _ _ h)
abbrev s_L_choice : Stmt := topS 28
theorem sc_L_choice : FnScope ["_law_source_here", "_law_items"] ["_law_source_here", "_law_items"] (defScope s_L_choice) := ⟨rfl, rfl, rfl, by decide +kernel, rfl, by decide +kernel, by decide +kernel⟩
abbrev SP_L_choice (K : PySem.W.Frag) : Sp := SP_choice K
theorem ok_L_choice {P : Program} {w : World} {K : PySem.W.Frag} {mg : Str → Option Value} {base : Heap} (T : Top K mg) {f_L_draw : Addr} {fd_L_draw : FuncData} (C_L_draw : Cal P w K mg base CX0 1 "_law_draw" ["_law_source_here", "_law_size"] (SP_L_draw K) f_L_draw fd_L_draw) {f : Addr} {fd : FuncData} (F : FnP K "_law_choice" s_L_choice f fd) : FnOk P w K mg base CX0 2 f fd ["_law_source_here", "_law_items"] (SP_L_choice K) := by
  refine F.ok sc_L_choice (fun vs H Q E hs => ?_) (fun cdv A outer s H vs Q E hr hs => ?_)
  · obtain ⟨v, l, xs, rfl, _⟩ := hs
    rfl
  obtain ⟨v, l, xs, rfl, hS, hl, l1, l2, q⟩ := hs
  refine ⟨_, PSs.nox (pss_one (ps_ret (pe_ix ix_list (pv 1) (pe_call C_L_draw.ok (hr.mono (by decide)) (by rfl) C_L_draw.mg C_L_draw.kp C_L_draw.bd .nil pass0 (pa_cons (pv 0) (pa_cons (pe_callB call_len_seq (by rfl) T.b_len (by decide +kernel) (pa_cons (pv 1) pa_nil)) pa_nil))) (fun _ _ => rfl)))), ?_⟩
  show (_ : TS) _ [some v, some (V.ref l)] H
  have hlen : EN K (tCB (rLenQ K) (tCons (tVar 1) tNil)) [some v, some (V.ref l)] H (fun n : Int => n = (xs.length : Int)) := fun H2 e2 Q q => ⟨.ref l, rfl, l, xs, rfl, .inl (sq_of (e2 _ _ hl)), q _ _ H2 rfl (Ex.refl _) rfl⟩
  have hd := en_draw (K := K) (E := E0) (P := fun d => 0 ≤ d ∧ d < (xs.length : Int)) (er_var (n := 0) rfl hS) hlen (fun n hn => by omega) (fun n d hn d0 d1 => ⟨d0, by omega⟩)
  refine ⟨.ref l, rfl, ?_⟩
  refine hd H (Ex.refl _) _ fun d v2 H2 ⟨d0, d1⟩ e2 r => ?_
  cases r
  have hlt : d.toNat < xs.length := by omega
  refine ⟨l, xs, d, xs[d.toNat], rfl, rfl, sq_of (e2 _ _ hl), ?_, q _ H2 (List.getElem_mem hlt) e2⟩
  exact at_of (show d = (d.toNat : Int) by omega) (List.getElem?_eq_getElem hlt)
abbrev s_L_field : Stmt := topS 29
theorem sc_L_field : FnScope ["_law_source_here", "_law_wide", "_law_step", "_law_low", "_law_more", "_law_high", "_law_inside", "_law_base", "_law_first_here", "_law_big", "_law_off", "_law_ends"] ["_law_source_here", "_law_wide"] (defScope s_L_field) := ⟨rfl, rfl, rfl, by decide +kernel, rfl, by decide +kernel, by decide +kernel⟩
abbrev SP_L_field (K : PySem.W.Frag) : Sp := spn2 (α := Src) (β := Int) (δ := Fld) K (fun _ w => 1 ≤ w ∧ w ≤ 1000000000000) (fun _ w f => FieldPost w f)
theorem ok_L_field {P : Program} {w : World} {K : PySem.W.Frag} {mg : Str → Option Value} {base : Heap} (T : Top K mg) {f_L_draw : Addr} {fd_L_draw : FuncData} (C_L_draw : Cal P w K mg base CX0 1 "_law_draw" ["_law_source_here", "_law_size"] (SP_L_draw K) f_L_draw fd_L_draw) {f_L_choice : Addr} {fd_L_choice : FuncData} (C_L_choice : Cal P w K mg base CX0 2 "_law_choice" ["_law_source_here", "_law_items"] (SP_L_choice K) f_L_choice fd_L_choice) {f : Addr} {fd : FuncData} (F : FnP K "_law_field" s_L_field f fd) : FnOk P w K mg base CX0 3 f fd ["_law_source_here", "_law_wide"] (SP_L_field K) := by
  refine okn2 F sc_L_field rfl (fun x0 x1 => [some x0, some x1, none, none, none, none, none, none, none, none, none, none]) (fun _ _ => rfl) (fun H Q x0 x1 a0 wide h0 h1 hp q cdv A outer s E hr => ⟨_, PSs.nox (pss_cons (ps_set (i := 2) sc_L_field.nd rfl (.inl rfl) (pe_call C_L_choice.ok (hr.mono (by decide)) (by rfl) C_L_choice.mg C_L_choice.kp C_L_choice.bd .nil pass0 (pa_cons (pv 0) (pa_cons (pe_lst (pa_cons pe_int (pa_cons pe_int (pa_cons pe_int (pa_cons pe_int (pa_cons pe_int (pa_cons (pe_op op_add pe_int (pe_call C_L_draw.ok (hr.mono (by decide)) (by rfl) C_L_draw.mg C_L_draw.kp C_L_draw.bd .nil pass0 (pa_cons (pv 0) (pa_cons pe_int pa_nil)))) pa_nil))))))) pa_nil))))
      (pss_cons (ps_if (PW.pt (pw_and (pt_cmpR op_gt (pv 1) pe_int (nomark _)) (pw_and1 (pt_cmpR op_eq (pe_call C_L_draw.ok (hr.mono (by decide)) (by rfl) C_L_draw.mg C_L_draw.kp C_L_draw.bd .nil pass0 (pa_cons (pv 0) (pa_cons pe_int pa_nil))) pe_int (nomark _))))) (pss_one (ps_set (i := 2) sc_L_field.nd rfl (.inl rfl) (pe_op op_add pe_int (pe_call C_L_draw.ok (hr.mono (by decide)) (by rfl) C_L_draw.mg C_L_draw.kp C_L_draw.bd .nil pass0 (pa_cons (pv 0) (pa_cons (pe_op op_fdivW (pv 1) pe_int) pa_nil)))))) pss_nil)
      (pss_cons (ps_set (i := 3) sc_L_field.nd rfl (.inl rfl) (pe_call C_L_choice.ok (hr.mono (by decide)) (by rfl) C_L_choice.mg C_L_choice.kp C_L_choice.bd .nil pass0 (pa_cons (pv 0) (pa_cons (pe_lst (pa_cons pe_int (pa_cons pe_int (pa_cons (pe_un un_neg pe_int) (pa_cons (pe_op op_sub (pe_call C_L_draw.ok (hr.mono (by decide)) (by rfl) C_L_draw.mg C_L_draw.kp C_L_draw.bd .nil pass0 (pa_cons (pv 0) (pa_cons pe_int pa_nil))) pe_int) pa_nil))))) pa_nil))))
      (pss_cons (ps_set (i := 4) sc_L_field.nd rfl (.inl rfl) (pe_lst (pa_cons (pv 2) (pa_cons (pe_op op_mul pe_int (pv 2)) (pa_cons (pe_op op_add (pv 2) pe_int) (pa_cons (pe_op op_add pe_int (pe_call C_L_draw.ok (hr.mono (by decide)) (by rfl) C_L_draw.mg C_L_draw.kp C_L_draw.bd .nil pass0 (pa_cons (pv 0) (pa_cons (pe_op op_mul pe_int (pv 2)) pa_nil)))) (pa_cons (pe_op op_add pe_int (pe_call C_L_draw.ok (hr.mono (by decide)) (by rfl) C_L_draw.mg C_L_draw.kp C_L_draw.bd .nil pass0 (pa_cons (pv 0) (pa_cons (pv 1) pa_nil)))) pa_nil)))))))
      (pss_cons (ps_set (i := 5) sc_L_field.nd rfl (.inl rfl) (pe_callB (call_min2 rfl) (by rfl) T.b_min (by decide +kernel) (pa_cons (pe_op op_pow pe_int pe_int) (pa_cons (pe_op op_add (pv 3) (pe_call C_L_choice.ok (hr.mono (by decide)) (by rfl) C_L_choice.mg C_L_choice.kp C_L_choice.bd .nil pass0 (pa_cons (pv 0) (pa_cons (pv 4) pa_nil)))) pa_nil))))
      (pss_cons (ps_set (i := 6) sc_L_field.nd rfl (.inl rfl) (pe_op op_add (pv 3) (pe_call C_L_draw.ok (hr.mono (by decide)) (by rfl) C_L_draw.mg C_L_draw.kp C_L_draw.bd .nil pass0 (pa_cons (pv 0) (pa_cons (pe_op op_add (pe_op op_sub (pv 5) (pv 3)) pe_int) pa_nil)))))
      (pss_cons (ps_set (i := 7) sc_L_field.nd rfl (.inl rfl) (pe_call C_L_choice.ok (hr.mono (by decide)) (by rfl) C_L_choice.mg C_L_choice.kp C_L_choice.bd .nil pass0 (pa_cons (pv 0) (pa_cons (pe_lst (pa_cons pe_int (pa_cons (pv 3) (pa_cons (pv 5) (pa_cons (pv 6) (pa_cons (pe_op op_sub (pv 6) (pv 2)) pa_nil)))))) pa_nil))))
      (pss_cons (ps_set (i := 8) sc_L_field.nd rfl (.inl rfl) (pe_op op_sub (pv 7) (pe_op op_mul (pe_op op_fdivW (pe_op op_sub (pv 7) (pv 3)) (pv 2)) (pv 2))))
      (pss_cons (ps_if (pt_cmpR op_gt (pv 8) (pv 5) (nomark _)) (pss_one (ps_set (i := 7) sc_L_field.nd rfl (.inl rfl) (pv 6))) pss_nil)
      (pss_cons (ps_set (i := 9) sc_L_field.nd rfl (.inl rfl) (pe_op op_add pe_int (pe_call C_L_draw.ok (hr.mono (by decide)) (by rfl) C_L_draw.mg C_L_draw.kp C_L_draw.bd .nil pass0 (pa_cons (pv 0) (pa_cons (pe_call C_L_choice.ok (hr.mono (by decide)) (by rfl) C_L_choice.mg C_L_choice.kp C_L_choice.bd .nil pass0 (pa_cons (pv 0) (pa_cons (pe_lst (pa_cons pe_int (pa_cons pe_int (pa_cons pe_int pa_nil)))) pa_nil))) pa_nil)))))
      (pss_cons (ps_par (i := 10) (j := 11) rfl sc_L_field.nd rfl rfl (by decide) rfl rfl (pa_cons (pe_call C_L_choice.ok (hr.mono (by decide)) (by rfl) C_L_choice.mg C_L_choice.kp C_L_choice.bd .nil pass0 (pa_cons (pv 0) (pa_cons (pe_lst (pa_cons pe_str (pa_cons pe_str (pa_cons pe_str pa_nil)))) pa_nil))) (pa_cons (pe_call C_L_choice.ok (hr.mono (by decide)) (by rfl) C_L_choice.mg C_L_choice.kp C_L_choice.bd .nil pass0 (pa_cons (pv 0) (pa_cons (pe_lst (pa_cons pe_str (pa_cons pe_str (pa_cons pe_str pa_nil)))) pa_nil))) pa_nil)) (by rfl))
      (pss_one (ps_ret (pe_tup (pa_cons (pv 3) (pa_cons (pv 5) (pa_cons (pv 2) (pa_cons (pv 7) (pa_cons (pv 10) (pa_cons (pv 11) (pa_cons (pv 9) pa_nil))))))))))))))))))))), ?_⟩)
  cases h1
  obtain ⟨w0, w1⟩ := hp
  have sr : ∀ {H' : Hp} {a b c d e f g h i j k : Option V}, Ex H H' → ER K (tVar 0) [some x0, a, b, c, d, e, f, g, h, i, j, k] H' Src.mk := fun e => er_var rfl (Rep.mono e h0)
  refine n_setI K (P := fun s => 1 ≤ s ∧ s ≤ 12) (en_pick (sr (Ex.refl _)) (ens_cons (en_of er_int (by omega)) (ens_cons (en_of er_int (by omega)) (ens_cons (en_of er_int (by omega)) (ens_cons (en_of er_int (by omega)) (ens_cons (en_of er_int (by omega)) (ens_cons (en_add en_c (en_draw (P := fun d => 0 ≤ d ∧ d < 12) (sr (Ex.refl _)) en_c (fun n hn => by omega) (fun n d hn d0 d1 => by omega)) (fun i j hi hj => by omega)) ens_nil)))))) (by omega) (by omega)) (fun _ => .s (.s .z)) (fun st0 H1 hst e1 => ?_)
  refine q_ifJ K (P := fun b => b = true → 1000 < wide) (fun σ' H' => ∃ st : Int, σ' = [some x0, some (.int wide), some (.int st), none, none, none, none, none, none, none, none, none] ∧ Ex H H' ∧ 1 ≤ st ∧ (st ≤ 12 ∨ (1000 < wide ∧ st ≤ wide / 5))) ?cont
    (etn_and (P1 := fun b => b = true → 1000 < wide) (etn_of (et_t (er_gt (er_varI rfl) er_int)) (fun z => of_decide_eq_true z)) (fun z => etn_t (en_eqI (en_draw (P := fun _ => True) (sr e1) en_c (fun n hn => by omega) (fun _ _ _ _ _ => trivial)) en_c)) (fun _ z => (by cases z)) (fun b z _ _ => z rfl)) ?c1 ?c2
  case c1 =>
    intro D2 hW hb H2 e2
    have hb' := hb rfl
    refine nl_set (α := Int) K (P := fun st => 1 ≤ st ∧ st ≤ wide / 5) (en_add en_c (en_draw (P := fun d => 0 ≤ d ∧ d < wide / 5) (sr (e1.trans e2)) (en_of (P := fun n => n = wide / 5) (er_div (er_varI rfl) er_int (cdivw (by omega) (by omega))) rfl) (fun n hn => by omega) (fun n d hn d0 d1 => by omega)) (fun i j hi hj => by omega)) (fun _ => .s (.s .z)) (fun st v H3 hst e3 r => ?_)
    cases r
    exact hW _ _ ⟨st, rfl, (e1.trans e2).trans e3, hst.1, .inr ⟨hb', hst.2⟩⟩
  case c2 =>
    intro D2 hW hb H2 e2
    exact hW _ _ ⟨st0, rfl, e1.trans e2, hst.1, .inl hst.2⟩
  rintro _ H2 ⟨st, rfl, e2, s0, sst⟩
  have s1 : st ≤ 1000000000000 := by omega
  refine n_setI K (P := fun z => -30 ≤ z ∧ z ≤ 29) (en_pick (sr e2) (ens_cons (en_of er_int (by omega)) (ens_cons (en_of er_int (by omega)) (ens_cons (en_of (er_neg er_int) (by omega)) (ens_cons (en_sub (en_draw (P := fun d => 0 ≤ d ∧ d < 60) (sr e2) en_c (fun n hn => by omega) (fun n d hn d0 d1 => by omega)) en_c (fun i j hi hj => by omega)) ens_nil)))) (by omega) (by omega)) (fun _ => .s (.s (.s .z))) (fun low H3 hlow e3 => ?_)
  have e03 := e2.trans e3
  refine n_set (α := List Int) K (P := fun xs => xs.length = 5 ∧ ∀ z ∈ xs, 1 ≤ z ∧ z ≤ max (8 * st) wide) (en_lst (ens_cons (en_of (er_varI rfl) (by omega)) (ens_cons (en_of (er_mul er_int (er_varI rfl) (.inl ⟨by omega, by omega⟩)) (by omega)) (ens_cons (en_of (er_add (er_varI rfl) er_int) (by omega)) (ens_cons (en_add en_c (en_draw (P := fun d => 0 ≤ d ∧ d < 8 * st) (sr e03) (en_of (P := fun n => n = 8 * st) (er_mul er_int (er_varI rfl) (.inl ⟨by omega, by omega⟩)) rfl) (fun n hn => by omega) (fun n d hn d0 d1 => by omega)) (fun i j hi hj => by omega)) (ens_cons (en_add en_c (en_draw (P := fun d => 0 ≤ d ∧ d < wide) (sr e03) (en_v rfl) (fun n hn => by omega) (fun n d hn d0 d1 => by omega)) (fun i j hi hj => by omega)) ens_nil))))) (by omega)) (fun _ => .s (.s (.s (.s .z)))) (fun more vm H4 hmore e4 rm => ?_)
  have e04 := e03.trans e4
  have hpow : ((10 : Int) ^ (12 : Int).toNat) = 1000000000000 := by decide
  refine n_setI K (P := fun z => low < z ∧ z ≤ 1000000000000 ∧ z - low ≤ max (8 * st) wide) (en_min2 (en_of (P := fun z => z = 1000000000000) (er_powc ⟨by decide, by decide, by decide⟩ hpow) rfl) (en_add (en_v rfl) (en_choice (P := fun z => 1 ≤ z ∧ z ≤ max (8 * st) wide) (sr e04) (en_of (er_var rfl rm) ⟨by omega, by omega, hmore.2⟩)) (P := fun z => low < z ∧ z - low ≤ max (8 * st) wide) (fun i j hi hj => by omega)) (fun i j hi hj => by omega)) (fun _ => .s (.s (.s (.s (.s .z))))) (fun high H5 hhigh e5 => ?_)
  have e05 := e04.trans e5
  refine n_setI K (P := fun z => low ≤ z ∧ z ≤ high) (en_add (en_v rfl) (en_draw (P := fun d => 0 ≤ d ∧ d < high - low + 1) (sr e05) (en_of (P := fun n => n = high - low + 1) (er_add (er_sub (er_varI rfl) (er_varI rfl)) er_int) rfl) (fun n hn => by omega) (fun n d hn d0 d1 => by omega)) (fun i j hi hj => by omega)) (fun _ => .s (.s (.s (.s (.s (.s .z)))))) (fun ins H6 hins e6 => ?_)
  have e06 := e05.trans e6
  refine n_setI K (P := fun z => min 0 (low - st) ≤ z ∧ z ≤ max 0 high) (en_pick (sr e06) (ens_cons (en_of er_int (by omega)) (ens_cons (en_of (er_varI rfl) (by omega)) (ens_cons (en_of (er_varI rfl) (by omega)) (ens_cons (en_of (er_varI rfl) (by omega)) (ens_cons (en_of (er_sub (er_varI rfl) (er_varI rfl)) (by omega)) ens_nil))))) (by omega) (by omega)) (fun _ => .s (.s (.s (.s (.s (.s (.s .z))))))) (fun bas0 H7 hbas0 e7 => ?_)
  have e07 := e06.trans e7
  refine q_setI K (er_sub (er_varI rfl) (er_mul (er_div (er_sub (er_varI rfl) (er_varI rfl)) (er_varI rfl) (cdivw (by omega) (by omega))) (er_varI rfl) (.inr ⟨by omega, by omega⟩))) (fun _ => .s (.s (.s (.s (.s (.s (.s (.s .z)))))))) (fun H8 e8 => ?_)
  have e08 := e07.trans e8
  refine q_ifJ K (P := fun b => b = decide (high < bas0 - (bas0 - low) / st * st)) (fun σ' H' => ∃ (bas fst : Int), σ' = [some x0, some (.int wide), some (.int st), some (.int low), some vm, some (.int high), some (.int ins), some (.int bas), some (.int fst), none, none, none] ∧ Ex H H' ∧ min 0 (low - st) ≤ bas ∧ bas ≤ max 0 high ∧ bas - (bas - low) / st * st ≤ high) ?cont2
    (etn_of (et_t (er_gt (er_varI rfl) (er_varI rfl))) rfl) ?d1 ?d2
  case d1 =>
    intro D2 hW hb H9 e9
    refine l_set (α := Int) K (er_varI rfl) (fun _ => .s (.s (.s (.s (.s (.s (.s .z))))))) (fun v H10 e10 r => ?_)
    cases r
    refine hW _ _ ⟨ins, _, rfl, (e08.trans e9).trans e10, by omega, by omega, ?_⟩
    have h1 : (0 : Int) ≤ (ins - low) / st * st := Int.mul_nonneg (Int.ediv_nonneg (by omega) (by omega)) (by omega)
    omega
  case d2 =>
    intro D2 hW hb H9 e9
    refine hW _ _ ⟨bas0, _, rfl, e08.trans e9, hbas0.1, hbas0.2, ?_⟩
    have hb' := of_decide_eq_false hb.symm
    omega
  rintro _ H9 ⟨bas, fst, rfl, e09, bb0, bb1, hon⟩
  refine n_setI K (P := fun g => 2 ≤ g ∧ g ≤ 12) (en_add en_c (en_draw (P := fun d => 0 ≤ d ∧ d < 11) (sr e09) (en_pick (P := fun n => 1 ≤ n ∧ n ≤ 11) (sr e09) (ens_cons (en_of er_int (by omega)) (ens_cons (en_of er_int (by omega)) (ens_cons (en_of er_int (by omega)) ens_nil))) (by omega) (by omega)) (fun n hn => by omega) (fun n d hn d0 d1 => by omega)) (fun i j hi hj => by omega)) (fun _ => .s (.s (.s (.s (.s (.s (.s (.s (.s .z))))))))) (fun big H10 hbig e10 => ?_)
  have e010 := e09.trans e10
  refine n_par (α := Str) (β := Str) K (P1 := fun s => s = "add" ∨ s = "near" ∨ s = "next") (P2 := fun s => s = "round" ∨ s = "stay" ∨ s = "stop") (en_pick (sr e010) (ens_cons (en_of er_str (.inl rfl)) (ens_cons (en_of er_str (.inr (.inl rfl))) (ens_cons (en_of er_str (.inr (.inr rfl))) ens_nil))) (by omega) (by omega))
    (fun H11 e11 => en_pick (sr (e010.trans e11)) (ens_cons (en_of er_str (.inl rfl)) (ens_cons (en_of er_str (.inr (.inl rfl))) (ens_cons (en_of er_str (.inr (.inr rfl))) ens_nil))) (by omega) (by omega)) (fun _ _ => .s (.s (.s (.s (.s (.s (.s (.s (.s (.s .z)))))))))) (fun _ _ => .s (.s (.s (.s (.s (.s (.s (.s (.s (.s (.s .z))))))))))) (fun off ends v w H11 hoff hends e11 r1 r2 => ?_)
  cases r1
  cases r2
  refine l_ret (α := Fld) K (er_mkF (f := ⟨low, high, st, bas, off, ends, big⟩) (er_varI rfl) (er_varI rfl) (er_varI rfl) (er_varI rfl) (er_varS rfl) (er_varS rfl) (er_varI rfl)) (fun v H12 e12 r => ?_)
  refine q _ v H12 ⟨⟨?_, hhigh.1, hhigh.2.1, s0, s1, (by show -1000000000000 ≤ bas; omega), (by show bas ≤ 1000000000000; omega), hoff, hends, hbig.1, hbig.2, on_of (show 0 < st by omega) hon⟩, hlow.1, hlow.2, hhigh.2.2, sst, bb0, bb1⟩ ((e010.trans e11).trans e12) r
  show -1000000000000 ≤ low
  omega
abbrev s_grid_of : Stmt := topS 11
theorem sc_grid_of : FnScope ["field", "low", "high", "step", "base"] ["field"] (defScope s_grid_of) := ⟨rfl, rfl, rfl, by decide +kernel, rfl, by decide +kernel, by decide +kernel⟩
abbrev SP_grid_of (K : PySem.W.Frag) : Sp := sp1 (α := Fld) (δ := (Int × Int)) K (FL) (gridOf)
theorem ok_grid_of {P : Program} {w : World} {K : PySem.W.Frag} {mg : Str → Option Value} {base : Heap} (T : Top K mg) {f : Addr} {fd : FuncData} (F : FnP K "grid_of" s_grid_of f fd) : FnOk P w K mg base CX0 1 f fd ["field"] (SP_grid_of K) := by
  refine ok1 F sc_grid_of rfl (fun x0 => [some x0, none, none, none, none]) (fun _ => rfl) (fun H Q x0 a0 h0 hp q cdv A outer s E hr => ⟨_, PSs.nox (pss_cons (ps_asg (pe_slice sl_tup (pv 0) po_none (po_some pe_int)) (pg_tup rfl (pgs_cons (pg_name (i := 1) sc_grid_of.nd rfl (.inl rfl)) (pgs_cons (pg_name (i := 2) sc_grid_of.nd rfl (.inl rfl)) (pgs_cons (pg_name (i := 3) sc_grid_of.nd rfl (.inl rfl)) (pgs_cons (pg_name (i := 4) sc_grid_of.nd rfl (.inl rfl)) pgs_nil))))))
      (pss_one (ps_ret (pe_tup (pa_cons (pe_op op_sub (pv 4) (pe_op op_mul (pe_op op_fdivW (pe_op op_sub (pv 4) (pv 1)) (pv 3)) (pv 3))) (pa_cons (pe_op op_add (pv 4) (pe_op op_mul (pe_op op_fdivW (pe_op op_sub (pv 2) (pv 4)) (pv 3)) (pv 3))) pa_nil)))))), ?_⟩)
  obtain ⟨l0, lh, hh1, s0, s1, b0, b1⟩ := hp
  refine q_unp (lo := none) (hi := (some 4)) (by walk_at "ev") (fun _ _ h => h) (fun _ _ h => ⟨4, rfl, h⟩) (by decide) rfl rfl (fun H1 e1 => ?_)
  refine (g_cons (.s .z) (g_cons (.s (.s .z)) (g_cons (.s (.s (.s .z))) (g_cons (.s (.s (.s (.s .z)))) (g_nil ?_)))))
  refine l_ret (α := (Int × Int)) K (by walk_at "ev") (fun v2 H2 e2 r2 => ?_)
  refine q v2 H2 (by walk_at "ex") ?_
  refine (congrArg (Rep.rel K H2 v2) ?_).mp r2
  rfl
abbrev s_is_word : Stmt := topS 10
theorem sc_is_word : FnScope ["thing", "words"] ["thing", "words"] (defScope s_is_word) := ⟨rfl, rfl, rfl, by decide +kernel, rfl, by decide +kernel, by decide +kernel⟩
abbrev SP_is_word (K : PySem.W.Frag) : Sp := sp2 (α := PyData) (β := (Tpl Str)) (δ := Bool) K (fun _ _ => True) (isWord)
theorem ok_is_word {P : Program} {w : World} {K : PySem.W.Frag} {mg : Str → Option Value} {base : Heap} (T : Top K mg) {f : Addr} {fd : FuncData} (F : FnP K "is_word" s_is_word f fd) : FnOk P w K mg base CX0 1 f fd ["thing", "words"] (SP_is_word K) := by
  refine ok2 F sc_is_word rfl (fun x0 x1 => [some x0, some x1]) (fun _ _ => rfl) (fun H Q x0 x1 a0 a1 h0 h1 hp q cdv A outer s E hr => ⟨_, PSs.nox (pss_one (ps_ret (pe_and (pe_callB call_isi (by rfl) T.b_isinstance (by decide +kernel) (pa_cons (pv 0) (pa_cons (pe_bltn (v := .ty "str") (by rfl) T.b_str (by decide +kernel) rfl) pa_nil))) (pe_one (pe_cmpR op_in_seq (pv 0) (pv 1) rfl))))), ?_⟩)
  cases a0 with
  | str s =>
    cases h0
    refine l_ret (α := Bool) K (er_and (er_isi (er_enc (α := Str) (by walk_at "ev")) rfl) (fun _ => er_inT (by walk_at "ev") (er_var rfl h1))) (fun v H1 e1 r => ?_)
    exact q v H1 e1 r
  | _ => exact l_ret (α := Bool) K (er_and (b := false) (er_isi (er_var rfl h0) rfl) (fun z => (by cases z))) (fun v H1 e1 r => q v H1 e1 r)
abbrev s_is_between : Stmt := topS 9
theorem sc_is_between : FnScope ["thing", "low", "high"] ["thing", "low", "high"] (defScope s_is_between) := ⟨rfl, rfl, rfl, by decide +kernel, rfl, by decide +kernel, by decide +kernel⟩
abbrev SP_is_between (K : PySem.W.Frag) : Sp := sp3 (α := PyData) (β := Int) (γ := Int) (δ := Bool) K (fun _ _ _ => True) (isBetween)
theorem ok_is_between {P : Program} {w : World} {K : PySem.W.Frag} {mg : Str → Option Value} {base : Heap} (T : Top K mg) {f : Addr} {fd : FuncData} (F : FnP K "is_between" s_is_between f fd) : FnOk P w K mg base CX0 1 f fd ["thing", "low", "high"] (SP_is_between K) := by
  refine ok3 F sc_is_between rfl (fun x0 x1 x2 => [some x0, some x1, some x2]) (fun _ _ _ => rfl) (fun H Q x0 x1 x2 a0 a1 a2 h0 h1 h2 hp q cdv A outer s E hr => ⟨_, PSs.nox (pss_one (ps_ret (pe_and (pe_callB call_isi (by rfl) T.b_isinstance (by decide +kernel) (pa_cons (pv 0) (pa_cons (pe_bltn (v := .ty "int") (by rfl) T.b_int (by decide +kernel) rfl) pa_nil))) (pe_and (pe_not (pe_callB call_isi (by rfl) T.b_isinstance (by decide +kernel) (pa_cons (pv 0) (pa_cons (pe_bltn (v := .ty "bool") (by rfl) T.b_bool (by decide +kernel) rfl) pa_nil)))) (pe_one (pe_chain op_le op_le (pv 1) (pv 0) (pv 2))))))), ?_⟩)
  cases h1
  cases h2
  cases a0 with
  | int i =>
    cases h0
    refine l_ret (α := Bool) K (er_and (er_isi (er_enc (α := Int) (by walk_at "ev")) rfl) (fun _ => er_and (er_not (er_isi (er_enc (α := Int) (by walk_at "ev")) rfl)) (fun _ => by walk_at "ev"))) (fun v H1 e1 r => ?_)
    exact q v H1 e1 r
  | bool b =>
    exact l_ret (α := Bool) K (er_and (er_isi (er_var rfl h0) rfl) (fun _ => er_and (b := false) (er_not (er_isi (er_var rfl h0) rfl)) (fun z => (by cases z)))) (fun v H1 e1 r => q v H1 e1 r)
  | _ => exact l_ret (α := Bool) K (er_and (b := false) (er_isi (er_var rfl h0) rfl) (fun z => (by cases z))) (fun v H1 e1 r => q v H1 e1 r)
abbrev s_is_field : Stmt := topS 12
theorem sc_is_field : FnScope ["thing", "first", "last", "part"] ["thing"] (defScope s_is_field) := ⟨rfl, rfl, rfl, by decide +kernel, rfl, by decide +kernel, by decide +kernel⟩
abbrev SP_is_field (K : PySem.W.Frag) : Sp := sp1 (α := PyData) (δ := Bool) K (fun _ => True) (isField)
theorem ok_is_field {P : Program} {w : World} {K : PySem.W.Frag} {mg : Str → Option Value} {base : Heap} (T : Top K mg) {f_is_between : Addr} {fd_is_between : FuncData} (C_is_between : Cal P w K mg base CX0 1 "is_between" ["thing", "low", "high"] (SP_is_between K) f_is_between fd_is_between) {f_is_word : Addr} {fd_is_word : FuncData} (C_is_word : Cal P w K mg base CX0 1 "is_word" ["thing", "words"] (SP_is_word K) f_is_word fd_is_word) {f_grid_of : Addr} {fd_grid_of : FuncData} (C_grid_of : Cal P w K mg base CX0 1 "grid_of" ["field"] (SP_grid_of K) f_grid_of fd_grid_of) {f : Addr} {fd : FuncData} (F : FnP K "is_field" s_is_field f fd) : FnOk P w K mg base CX0 2 f fd ["thing"] (SP_is_field K) := by
  obtain ⟨ad_ENDS, g_ENDS, tp_ENDS⟩ := T.g_ENDS
  obtain ⟨tk_MOST, g_MOST⟩ := T.g_MOST
  obtain ⟨ad_OFFS, g_OFFS, tp_OFFS⟩ := T.g_OFFS
  refine ok1 F sc_is_field rfl (fun x0 => [some x0, none, none, none]) (fun _ => rfl) (fun H Q x0 a0 h0 hp q cdv A outer s E hr => ⟨_, PSs.nox (pss_cons (ps_if (PW.pt (pw_or (pt_not (pt_val (pe_callB call_isi (by rfl) T.b_isinstance (by decide +kernel) (pa_cons (pv 0) (pa_cons (pe_bltn (v := .ty "tuple") (by rfl) T.b_tuple (by decide +kernel) rfl) pa_nil))))) (pw_or1 (pt_cmpR op_ne (pe_callB call_len_seq (by rfl) T.b_len (by decide +kernel) (pa_cons (pv 0) pa_nil)) pe_int (nomark _))))) (pss_one (ps_ret pe_bl)) pss_nil)
      (pss_cons (ps_if (PW.pt (pw_or (pt_not (pt_val (pe_callB (cr_all rfl) (by rfl) T.b_all (by decide +kernel) (pa_cons (pe_lc (own := [("part", 3)]) (g := gName 3) (tt := tYes)  rfl sc_is_field.nd (pi_tup (pe_slice sl_tup (pv 0) po_none (po_some pe_int))) (blkOk_by (own := [("part", 3)]) (N := ["thing", "first", "last", "part"]) (sc := defScope s_is_field) (by decide +kernel)) (fun _ _ _ _ _ => (pg_name (i := 3) sc_is_field.nd rfl (.inl rfl))) (fun _ _ _ _ _ => pts_nil) (fun _ _ _ _ _ => (pe_call C_is_between.ok (hr.mono (by decide)) (by rfl) C_is_between.mg C_is_between.kp C_is_between.bd .nil pass0 (pa_cons (pv 3) (pa_cons (pe_un un_neg (pe_glob (v := .int 1000000000000) (by rfl) g_MOST ⟨_, rfl⟩)) (pa_cons (pe_glob (v := .int 1000000000000) (by rfl) g_MOST ⟨_, rfl⟩) pa_nil)))))) pa_nil)))) (pw_or (pt_cmpR op_ge (pe_ix ix_tup (pv 0) pe_int (fun _ _ => rfl)) (pe_ix ix_tup (pv 0) pe_int (fun _ _ => rfl)) (nomark _)) (pw_or1 (pt_cmpR op_lt (pe_ix ix_tup (pv 0) pe_int (fun _ _ => rfl)) pe_int (nomark _)))))) (pss_one (ps_ret pe_bl)) pss_nil)
      (pss_cons (ps_if (PW.pt (pw_or (pt_not (pt_val (pe_call C_is_word.ok (hr.mono (by decide)) (by rfl) C_is_word.mg C_is_word.kp C_is_word.bd .nil pass0 (pa_cons (pe_ix ix_tup (pv 0) pe_int (fun _ _ => rfl)) (pa_cons (pe_glob (v := .ref ad_OFFS) (by rfl) g_OFFS rfl) pa_nil))))) (pw_or (pt_not (pt_val (pe_call C_is_word.ok (hr.mono (by decide)) (by rfl) C_is_word.mg C_is_word.kp C_is_word.bd .nil pass0 (pa_cons (pe_ix ix_tup (pv 0) pe_int (fun _ _ => rfl)) (pa_cons (pe_glob (v := .ref ad_ENDS) (by rfl) g_ENDS rfl) pa_nil))))) (pw_or1 (pt_not (pt_val (pe_call C_is_between.ok (hr.mono (by decide)) (by rfl) C_is_between.mg C_is_between.kp C_is_between.bd .nil pass0 (pa_cons (pe_ix ix_tup (pv 0) pe_int (fun _ _ => rfl)) (pa_cons pe_int (pa_cons pe_int pa_nil)))))))))) (pss_one (ps_ret pe_bl)) pss_nil)
      (pss_cons (ps_asg (pe_call C_grid_of.ok (hr.mono (by decide)) (by rfl) C_grid_of.mg C_grid_of.kp C_grid_of.bd .nil pass0 (pa_cons (pv 0) pa_nil)) (pg_tup rfl (pgs_cons (pg_name (i := 1) sc_is_field.nd rfl (.inl rfl)) (pgs_cons (pg_name (i := 2) sc_is_field.nd rfl (.inl rfl)) pgs_nil))))
      (pss_one (ps_ret (pe_cmpR op_le (pv 1) (pv 2) (nomark _)))))))), ?_⟩)
  cases a0 with
  | tuple ds =>
    cases h0 with
    | @tup p vs _ hs hr0 =>
    have rT : Rep.rel K H (.ref p) (Tpl.mk ds) := ⟨p, vs, rfl, hs, dpAll_rels hr0⟩
    have rD : Rep.rel K H (.ref p) (PyData.tuple ds) := .tup hs hr0
    refine q_if0 K (ett_or (ett_not (et_b (er_isi (er_var rfl rD) rfl))) (fun _ => et_t (er_neI (er_lenT (er_var rfl rT)) er_int))) (fun c1 H1 e1 => ?_) (fun c1 H1 e1 => ?_)
    · refine l_ret (α := Bool) K er_bl (fun v H2 e2 r => q v H2 (e1.trans e2) ?_)
      have hn : ds.length ≠ 7 := by
        simp at c1
        exact fun h => c1 (by omega)
      rw [isField_len hn]
      exact r
    have hn : ds.length = 7 := by
      simp at c1
      omega
    obtain ⟨d0, d1, d2, d3, d4, d5, d6, rfl⟩ : ∃ d0 d1 d2 d3 d4 d5 d6, ds = [d0, d1, d2, d3, d4, d5, d6] := len7 hn
    have hlc : ER K (tLc (iTup K (tSl (rSlT K) (tVar 0) tNoPart (tPart (tC (.int 4))))) (gName 3) tYes (tCall (SP_is_between K) [] E0 (tCons (tVar 3) (tCons (tUn (rU fun i => .int (-i)) (tC (.int 1000000000000))) (tCons (tC (.int 1000000000000)) tNil)))) [3]) [some (.ref p), none, none, none] H1 ([d0, d1, d2, d3].map fun d => isBetween d (-1000000000000) 1000000000000) := by
      refine er_lcY _ (wk_tup (er_slT none (some 4) (er_var rfl (Rep.mono e1 rT)) (fun _ _ h => h) (fun _ _ h => ⟨4, rfl, h⟩) (show ¬ ((0 : Nat) = 0 ∧ (4 : Nat) = 7) by decide) rfl)) (Nat.le_of_ble_eq_true rfl) ?_
      intro d v H2 hd e2 r Q' q'
      exact gn_ok (s1 := fun v => [some (.ref p), none, none, some v]) rfl (.s (.s (.s .z))) rfl (fun hw => q' _ H2 (Ex.refl _) hw (er_call3 (er_var rfl r) (er_neg er_int) er_int trivial))
    by_cases hb : isBetween d0 (-1000000000000) 1000000000000 = true ∧ isBetween d1 (-1000000000000) 1000000000000 = true ∧ isBetween d2 (-1000000000000) 1000000000000 = true ∧ isBetween d3 (-1000000000000) 1000000000000 = true
    · obtain ⟨b0, b1, b2, b3⟩ := hb
      obtain ⟨low, rfl, l0, l1⟩ := isBetween_int b0
      obtain ⟨high, rfl, h0, h1⟩ := isBetween_int b1
      obtain ⟨step, rfl, s0, s1⟩ := isBetween_int b2
      obtain ⟨bas, rfl, bs0, bs1⟩ := isBetween_int b3
      cases hr0 with
      | cons z0 hr1 =>
      cases hr1 with
      | cons z1 hr2 =>
      cases hr2 with
      | cons z2 hr3 =>
      cases hr3 with
      | cons z3 hr4 =>
      cases hr4 with
      | cons z4 hr5 =>
      cases hr5 with
      | cons z5 hr6 =>
      cases hr6 with
      | cons z6 hr7 =>
      cases hr7
      cases z0
      cases z1
      cases z2
      cases z3
      rename_i v4 v5 v6
      have hs1 := ex_t e1 hs
      refine q_if0 K (b := !true || (decide (high ≤ low) || decide (step < 1))) (ett_or (ett_not (et_b (er_is (er_all hlc) (by simp only [List.map, List.all, id, b0, b1, b2, b3]; rfl)))) (fun _ => ett_or (et_t (er_ge (er_ixq rfl hs1 rfl rfl) (er_ixq rfl hs1 rfl rfl))) (fun _ => et_t (er_lt (er_ixq rfl hs1 rfl rfl) er_int)))) (fun c2 H2 e2 => ?_) (fun c2 H2 e2 => ?_)
      · refine l_ret (α := Bool) K er_bl (fun v H3 e3 r => q v H3 (e1.trans (e2.trans e3)) ?_)
        refine (congrArg (Rep.rel K H3 v) ?_).mp r
        symm
        simp at c2
        exact isField_no (by omega)
      have c2' : low < high ∧ 1 ≤ step := by
        simp at c2
        omega
      have hs2 := ex_t e2 hs1
      have eqT : ER K (tCall (SP_is_word K) [] E0 (tCons (tOp (rIxT K) (tVar 0) (tC (.int 4))) (tCons (tC (.ref ad_OFFS)) tNil))) [some (.ref p), none, none, none] H2 (isWord d4 (Tpl.mk ["add", "near", "next"])) :=
        er_call2 (er_ixq rfl hs2 rfl (Rep.mono (e1.trans e2) (show Rep.rel K H v4 d4 from z4))) (er_ref (rel_texts tp_OFFS)) trivial
      have eqE : ER K (tCall (SP_is_word K) [] E0 (tCons (tOp (rIxT K) (tVar 0) (tC (.int 5))) (tCons (tC (.ref ad_ENDS)) tNil))) [some (.ref p), none, none, none] H2 (isWord d5 (Tpl.mk ["round", "stay", "stop"])) :=
        er_call2 (er_ixq rfl hs2 rfl (Rep.mono (e1.trans e2) (show Rep.rel K H v5 d5 from z5))) (er_ref (rel_texts tp_ENDS)) trivial
      have eqB : ER K (tCall (SP_is_between K) [] E0 (tCons (tOp (rIxT K) (tVar 0) (tC (.int 6))) (tCons (tC (.int 2)) (tCons (tC (.int 12)) tNil)))) [some (.ref p), none, none, none] H2 (isBetween d6 2 12) :=
        er_call3 (er_ixq rfl hs2 rfl (Rep.mono (e1.trans e2) (show Rep.rel K H v6 d6 from z6))) er_int er_int trivial
      refine q_if0 K (ett_or (ett_not (et_b eqT)) (fun _ => ett_or (ett_not (et_b eqE)) (fun _ => ett_not (et_b eqB)))) (fun c3 H3 e3 => ?_) (fun c3 H3 e3 => ?_)
      · refine l_ret (α := Bool) K er_bl (fun v H4 e4 r => q v H4 (e1.trans (e2.trans (e3.trans e4))) ?_)
        refine (congrArg (Rep.rel K H4 v) ?_).mp r
        symm
        simp only [Bool.or_eq_true, Bool.not_eq_true'] at c3
        exact isField_words c3
      simp only [Bool.or_eq_false_iff, Bool.not_eq_false'] at c3
      obtain ⟨c4, c5, c6⟩ := c3
      obtain ⟨off, rfl, hoff⟩ := isWord_str c4
      obtain ⟨ends, rfl, hends⟩ := isWord_str c5
      obtain ⟨big, rfl, g0, g1⟩ := isBetween_int c6
      cases z4
      cases z5
      cases z6
      have rF : Rep.rel K H (.ref p) (Fld.mk low high step bas off ends big) := ⟨p, rfl, hs⟩
      refine q_unpII K (er_call1 (er_var rfl (Rep.mono (e1.trans (e2.trans e3)) rF)) ⟨l0, c2'.1, h1, c2'.2, s1, bs0, bs1⟩) (fun H4 e4 => ?_)
      refine g_cons (.s .z) (g_cons (.s (.s .z)) (g_nil ?_))
      refine l_ret (α := Bool) K (er_le (er_varI rfl) (er_varI rfl)) (fun v H5 e5 r => q v H5 (by walk_at "ex") ?_)
      refine (congrArg (Rep.rel K H5 v) ?_).mp r
      exact (isField_yes l0 c2'.1 h1 c2'.2 s1 bs0 bs1 hoff hends g0 g1).symm
    · refine q_if0 K (b := true) (ett_or (a := true) (b := false) (ett_not (et_b (a := false) (er_is (er_all hlc) (by
        simp only [List.map, List.all, id, Bool.and_true]
        rw [← Bool.not_eq_true]
        simp only [Bool.and_eq_true]
        exact hb)))) (fun z => (by cases z))) (fun c2 H2 e2 => ?_) (fun c2 H2 e2 => (by cases c2))
      refine l_ret (α := Bool) K er_bl (fun v H3 e3 r => q v H3 (e1.trans (e2.trans e3)) ?_)
      refine (congrArg (Rep.rel K H3 v) ?_).mp r
      exact (isField_ints hb).symm
  | _ =>
    refine q_if0 K (ett_or (b := false) (ett_not (et_b (er_isi (er_var rfl h0) rfl))) (fun z => (by cases z))) (fun c1 H1 e1 => ?_) (fun c1 H1 e1 => (by cases c1))
    exact l_ret (α := Bool) K er_bl (fun v H2 e2 r => q v H2 (e1.trans e2) r)
abbrev s_L_near : Stmt := topS 33
theorem sc_L_near : FnScope ["_law_source_here", "_law_field_here", "_law_parts", "_law_at"] ["_law_source_here", "_law_field_here"] (defScope s_L_near) := ⟨rfl, rfl, rfl, by decide +kernel, rfl, by decide +kernel, by decide +kernel⟩
abbrev SP_L_near (K : PySem.W.Frag) : Sp := spn2 (α := Src) (β := Fld) (δ := Fld) K (fun _ f => FOk f) (fun _ f z => NearPost f z)
theorem ok_L_near {P : Program} {w : World} {K : PySem.W.Frag} {mg : Str → Option Value} {base : Heap} (T : Top K mg) {f_L_draw : Addr} {fd_L_draw : FuncData} (C_L_draw : Cal P w K mg base CX0 1 "_law_draw" ["_law_source_here", "_law_size"] (SP_L_draw K) f_L_draw fd_L_draw) {f_L_choice : Addr} {fd_L_choice : FuncData} (C_L_choice : Cal P w K mg base CX0 2 "_law_choice" ["_law_source_here", "_law_items"] (SP_L_choice K) f_L_choice fd_L_choice) {f_is_field : Addr} {fd_is_field : FuncData} (C_is_field : Cal P w K mg base CX0 2 "is_field" ["thing"] (SP_is_field K) f_is_field fd_is_field) {f : Addr} {fd : FuncData} (F : FnP K "_law_near" s_L_near f fd) : FnOk P w K mg base CX0 3 f fd ["_law_source_here", "_law_field_here"] (SP_L_near K) := by
  refine okn2 F sc_L_near rfl (fun x0 x1 => [some x0, some x1, none, none]) (fun _ _ => rfl) (fun H Q x0 x1 a0 a1 h0 h1 hp q cdv A outer s E hr => ⟨_, PSs.nox (pss_cons (ps_par (i := 2) (j := 3) rfl sc_L_near.nd rfl rfl (by decide) rfl rfl (pa_cons (pe_callTy call_list_of (by rfl) T.b_list (by decide +kernel) (pa_cons (pv 1) pa_nil)) (pa_cons (pe_call C_L_draw.ok (hr.mono (by decide)) (by rfl) C_L_draw.mg C_L_draw.kp C_L_draw.bd .nil pass0 (pa_cons (pv 0) (pa_cons pe_int pa_nil))) pa_nil)) (by rfl))
      (pss_close 2 (pss_cons (ps_if (pt_cmpR op_eq (pv 3) pe_int (nomark _)) (pss_one (ps_asg (pe_call C_L_choice.ok (hr.mono (by decide)) (by rfl) C_L_choice.mg C_L_choice.kp C_L_choice.bd .nil pass0 (pa_cons (pv 0) (pa_cons (pe_lst (pa_cons pe_int (pa_cons (pe_ix ix_tup (pv 1) pe_int (fun _ _ => rfl)) (pa_cons (pe_op op_add (pe_ix ix_tup (pv 1) pe_int (fun _ _ => rfl)) pe_int) (pa_cons (pe_op op_mul pe_int (pe_ix ix_tup (pv 1) pe_int (fun _ _ => rfl))) pa_nil))))) pa_nil))) (pg_sub (pv 2) pe_int set_listM))) (pss_one (ps_if (pt_cmpR op_eq (pv 3) pe_int (nomark _)) (pss_one (ps_asg (pe_call C_L_choice.ok (hr.mono (by decide)) (by rfl) C_L_choice.mg C_L_choice.kp C_L_choice.bd .nil pass0 (pa_cons (pv 0) (pa_cons (pe_lst (pa_cons (pe_op op_add (pe_ix ix_tup (pv 1) pe_int (fun _ _ => rfl)) (pe_ix ix_tup (pv 1) pe_int (fun _ _ => rfl))) (pa_cons (pe_op op_add (pe_ix ix_tup (pv 1) pe_int (fun _ _ => rfl)) pe_int) (pa_cons (pe_ix ix_tup (pv 1) pe_int (fun _ _ => rfl)) (pa_cons (pe_ix ix_tup (pv 1) pe_int (fun _ _ => rfl)) (pa_cons (pe_op op_sub (pe_ix ix_tup (pv 1) pe_int (fun _ _ => rfl)) (pe_ix ix_tup (pv 1) pe_int (fun _ _ => rfl))) pa_nil)))))) pa_nil))) (pg_sub (pv 2) pe_int set_listM))) (pss_one (ps_if (pt_cmpR op_eq (pv 3) pe_int (nomark _)) (pss_one (ps_asg (pe_call C_L_choice.ok (hr.mono (by decide)) (by rfl) C_L_choice.mg C_L_choice.kp C_L_choice.bd .nil pass0 (pa_cons (pv 0) (pa_cons (pe_lst (pa_cons pe_str (pa_cons pe_str (pa_cons pe_str pa_nil)))) pa_nil))) (pg_sub (pv 2) pe_int set_listM))) (pss_one (ps_if (pt_cmpR op_eq (pv 3) pe_int (nomark _)) (pss_one (ps_asg (pe_call C_L_choice.ok (hr.mono (by decide)) (by rfl) C_L_choice.mg C_L_choice.kp C_L_choice.bd .nil pass0 (pa_cons (pv 0) (pa_cons (pe_lst (pa_cons pe_str (pa_cons pe_str (pa_cons pe_str pa_nil)))) pa_nil))) (pg_sub (pv 2) pe_int set_listM))) (pss_one (ps_if (pt_cmpR op_eq (pv 3) pe_int (nomark _)) (pss_one (ps_asg (pe_op op_add pe_int (pe_call C_L_draw.ok (hr.mono (by decide)) (by rfl) C_L_draw.mg C_L_draw.kp C_L_draw.bd .nil pass0 (pa_cons (pv 0) (pa_cons pe_int pa_nil)))) (pg_sub (pv 2) pe_int set_listM))) (pss_one (ps_asg (pe_tup (pa_cons pe_int (pa_cons (pe_call C_L_choice.ok (hr.mono (by decide)) (by rfl) C_L_choice.mg C_L_choice.kp C_L_choice.bd .nil pass0 (pa_cons (pv 0) (pa_cons (pe_lst (pa_cons pe_str (pa_cons pe_str (pa_cons pe_str pa_nil)))) pa_nil))) pa_nil))) (pg_tup rfl (pgs_cons (pg_sub (pv 2) pe_int set_listM) (pgs_cons (pg_sub (pv 2) pe_int set_listM) pgs_nil))))))))))))))
      (pss_thaw 2 (pss_one (ps_ret (pe_ifExp (pt_val (pe_call C_is_field.ok (hr.mono (by decide)) (by rfl) C_is_field.mg C_is_field.kp C_is_field.bd .nil pass0 (pa_cons (pe_callTy call_tupC (by rfl) T.b_tuple (by decide +kernel) (pa_cons (pv 2) pa_nil)) pa_nil))) (pe_callTy call_tupC (by rfl) T.b_tuple (by decide +kernel) (pa_cons (pv 2) pa_nil)) (pv 1)))))))), ?_⟩)
  have E0 : Ex H H := Ex.refl H
  have ok_f := hp
  obtain ⟨l0_f, lh_f, h1_f, s0_f, s1_f, b0_f, b1_f, off_f, ends_f, g0_f, g1_f, on_f⟩ := ok_f
  have ok_f : FOk a1 := ⟨l0_f, lh_f, h1_f, s0_f, s1_f, b0_f, b1_f, off_f, ends_f, g0_f, g1_f, on_f⟩
  refine n_parL1 (α := Int) (β := PyData) K (P1 := fun z => 0 ≤ z ∧ z < 6) (el_listF (er_var rfl h1)) (fun H1a e1a => ?_) (fun _ _ => (.s (.s .z))) (fun _ _ => (.s (.s (.s .z)))) (fun _ _ => rfl) (fun at_ v1a l_parts ws1 H1 p_at_ z1 e1 r_at_ mm1 nn1 => ?_)
  · skip
    have h0 := Rep.mono e1a h0
    have h1 := Rep.mono e1a h1
    exact (en_drawE (er_var rfl h0) er_int ⟨by walk_at "sd", by walk_at "sd"⟩)
  have f_parts := fresh_back E0 z1
  have h0 := Rep.mono e1 h0
  have h1 := Rep.mono e1 h1
  have E0 := E0.trans e1
  have m_parts := mm1
  have n_parts := nn1
  cases r_at_
  refine q_ifD K (b := (decide (at_ = 0))) (fun σ' H' => ∃ (ws_parts1 : List V), ∃ (parts1 : List PyData), σ' = [some x0, some x1, some (V.ref l_parts), some (V.int at_)] ∧ Ey H1 H' ∧ (H' l_parts = some (MutO l_parts ws_parts1) ∧ rels K H' ws_parts1 parts1 ∧ (NearDs a1 parts1)) ∧ Ex H H') (fun σ' Z2 pp2 => ?_) (et_t (er_eqI (er_varI rfl) er_int)) (fun c2 H2 e2 D2 dn2 => ?_) (fun c2 H2 e2 D2 dn2 => ?_)
  rotate_left
  · skip
    have h0 := Rep.mono e2 h0
    have h1 := Rep.mono e2 h1
    have E0 := E0.trans e2
    have m_parts := e2 _ _ m_parts
    have n_parts := rels_mono e2 n_parts
    have jx2 := e2.y
    have hcond := c2
    refine nl_put (α := PyData) (P := fun z => (z = (Enc.enc (1 : Int))) ∨ (z = (Enc.enc (a1.step : Int))) ∨ (z = (Enc.enc ((a1.step + 1) : Int))) ∨ (z = (Enc.enc ((2 * a1.step) : Int)))) (j := 2) K rfl m_parts n_parts ?_ er_int (near_ix (by first | exact near_0 | assumption) (by decide)) (fun put ws3 H3 p_put o3 mm3 nn3 => ?_)
    · exact (en_pick (P := fun z => (z = (Enc.enc (1 : Int))) ∨ (z = (Enc.enc (a1.step : Int))) ∨ (z = (Enc.enc ((a1.step + 1) : Int))) ∨ (z = (Enc.enc ((2 * a1.step) : Int)))) (er_var rfl h0) (ens_cons (en_imp (P := fun z => z = (Enc.enc (1 : Int))) (en_is (er_enc (α := Int) er_int)) (fun _ h => .inl h)) (ens_cons (en_imp (P := fun z => z = (Enc.enc (a1.step : Int))) (en_is (er_enc (α := Int) (er_f2 (er_var rfl h1)))) (fun _ h => .inr (.inl h))) (ens_cons (en_imp (P := fun z => z = (Enc.enc ((a1.step + 1) : Int))) (en_is (er_enc (α := Int) (er_add (er_f2 (er_var rfl h1)) er_int))) (fun _ h => .inr (.inr (.inl h)))) (ens_cons (en_imp (P := fun z => z = (Enc.enc ((2 * a1.step) : Int))) (en_is (er_enc (α := Int) (er_mul er_int (er_f2 (er_var rfl h1)) (by walk_at "mc")))) (fun _ h => .inr (.inr (.inr (h))))) ens_nil)))) (by decide) (by decide))
    have y3 := o3.y m_parts
    have h0 := Rep.moY y3 h0
    have h1 := Rep.moY y3 h1
    have jx2 := jx2.trans y3
    have E0 := o3.ex f_parts E0
    have m_parts := mm3
    have n_parts := nn3
    exact dn2 _ _ ⟨_, ((Fld.ds a1).set 2 put), rfl, jx2, ⟨m_parts, n_parts, near_set near_0 (by decide)⟩, E0⟩
  · skip
    have h0 := Rep.mono e2 h0
    have h1 := Rep.mono e2 h1
    have E0 := E0.trans e2
    have m_parts := e2 _ _ m_parts
    have n_parts := rels_mono e2 n_parts
    have jx2 := e2.y
    have hcond := c2
    refine l_if K (b := (decide (at_ = 1))) (et_t (er_eqI (er_varI rfl) er_int)) (fun c4 H4 e4 => ?_) (fun c4 H4 e4 => ?_)
    · skip
      have h0 := Rep.mono e4 h0
      have h1 := Rep.mono e4 h1
      have jx2 := jx2.trans e4.y
      have E0 := E0.trans e4
      have m_parts := e4 _ _ m_parts
      have n_parts := rels_mono e4 n_parts
      have hcond := c4
      refine nl_put (α := PyData) (P := fun z => (z = (Enc.enc ((a1.base + a1.step) : Int))) ∨ (z = (Enc.enc ((a1.base + 1) : Int))) ∨ (z = (Enc.enc (a1.low : Int))) ∨ (z = (Enc.enc (a1.high : Int))) ∨ (z = (Enc.enc ((a1.base - a1.step) : Int)))) (j := 3) K rfl m_parts n_parts ?_ er_int (near_ix (by first | exact near_0 | assumption) (by decide)) (fun put1 ws5 H5 p_put1 o5 mm5 nn5 => ?_)
      · exact (en_pick (P := fun z => (z = (Enc.enc ((a1.base + a1.step) : Int))) ∨ (z = (Enc.enc ((a1.base + 1) : Int))) ∨ (z = (Enc.enc (a1.low : Int))) ∨ (z = (Enc.enc (a1.high : Int))) ∨ (z = (Enc.enc ((a1.base - a1.step) : Int)))) (er_var rfl h0) (ens_cons (en_imp (P := fun z => z = (Enc.enc ((a1.base + a1.step) : Int))) (en_is (er_enc (α := Int) (er_add (er_f3 (er_var rfl h1)) (er_f2 (er_var rfl h1))))) (fun _ h => .inl h)) (ens_cons (en_imp (P := fun z => z = (Enc.enc ((a1.base + 1) : Int))) (en_is (er_enc (α := Int) (er_add (er_f3 (er_var rfl h1)) er_int))) (fun _ h => .inr (.inl h))) (ens_cons (en_imp (P := fun z => z = (Enc.enc (a1.low : Int))) (en_is (er_enc (α := Int) (er_f0 (er_var rfl h1)))) (fun _ h => .inr (.inr (.inl h)))) (ens_cons (en_imp (P := fun z => z = (Enc.enc (a1.high : Int))) (en_is (er_enc (α := Int) (er_f1 (er_var rfl h1)))) (fun _ h => .inr (.inr (.inr (.inl h))))) (ens_cons (en_imp (P := fun z => z = (Enc.enc ((a1.base - a1.step) : Int))) (en_is (er_enc (α := Int) (er_sub (er_f3 (er_var rfl h1)) (er_f2 (er_var rfl h1))))) (fun _ h => .inr (.inr (.inr (.inr (h)))))) ens_nil))))) (by decide) (by decide))
      have y5 := o5.y m_parts
      have h0 := Rep.moY y5 h0
      have h1 := Rep.moY y5 h1
      have jx2 := jx2.trans y5
      have E0 := o5.ex f_parts E0
      have m_parts := mm5
      have n_parts := nn5
      exact dn2 _ _ ⟨_, ((Fld.ds a1).set 3 put1), rfl, jx2, ⟨m_parts, n_parts, by first | exact near_set near_0 (by decide) | exact near_set (near_set near_0 (by decide)) (by decide)⟩, E0⟩
    · skip
      have h0 := Rep.mono e4 h0
      have h1 := Rep.mono e4 h1
      have jx2 := jx2.trans e4.y
      have E0 := E0.trans e4
      have m_parts := e4 _ _ m_parts
      have n_parts := rels_mono e4 n_parts
      have hcond := c4
      refine l_if K (b := (decide (at_ = 2))) (et_t (er_eqI (er_varI rfl) er_int)) (fun c6 H6 e6 => ?_) (fun c6 H6 e6 => ?_)
      · skip
        have h0 := Rep.mono e6 h0
        have h1 := Rep.mono e6 h1
        have jx2 := jx2.trans e6.y
        have E0 := E0.trans e6
        have m_parts := e6 _ _ m_parts
        have n_parts := rels_mono e6 n_parts
        have hcond := c6
        refine nl_put (α := PyData) (P := fun z => (z = (Enc.enc (("add" : Str) : Str))) ∨ (z = (Enc.enc (("near" : Str) : Str))) ∨ (z = (Enc.enc (("next" : Str) : Str)))) (j := 4) K rfl m_parts n_parts ?_ er_int (near_ix (by first | exact near_0 | assumption) (by decide)) (fun put2 ws7 H7 p_put2 o7 mm7 nn7 => ?_)
        · exact (en_pick (P := fun z => (z = (Enc.enc (("add" : Str) : Str))) ∨ (z = (Enc.enc (("near" : Str) : Str))) ∨ (z = (Enc.enc (("next" : Str) : Str)))) (er_var rfl h0) (ens_cons (en_imp (P := fun z => z = (Enc.enc (("add" : Str) : Str))) (en_is (er_enc (α := Str) er_str)) (fun _ h => .inl h)) (ens_cons (en_imp (P := fun z => z = (Enc.enc (("near" : Str) : Str))) (en_is (er_enc (α := Str) er_str)) (fun _ h => .inr (.inl h))) (ens_cons (en_imp (P := fun z => z = (Enc.enc (("next" : Str) : Str))) (en_is (er_enc (α := Str) er_str)) (fun _ h => .inr (.inr (h)))) ens_nil))) (by decide) (by decide))
        have y7 := o7.y m_parts
        have h0 := Rep.moY y7 h0
        have h1 := Rep.moY y7 h1
        have jx2 := jx2.trans y7
        have E0 := o7.ex f_parts E0
        have m_parts := mm7
        have n_parts := nn7
        exact dn2 _ _ ⟨_, ((Fld.ds a1).set 4 put2), rfl, jx2, ⟨m_parts, n_parts, by first | exact near_set near_0 (by decide) | exact near_set (near_set near_0 (by decide)) (by decide)⟩, E0⟩
      · skip
        have h0 := Rep.mono e6 h0
        have h1 := Rep.mono e6 h1
        have jx2 := jx2.trans e6.y
        have E0 := E0.trans e6
        have m_parts := e6 _ _ m_parts
        have n_parts := rels_mono e6 n_parts
        have hcond := c6
        refine l_if K (b := (decide (at_ = 3))) (et_t (er_eqI (er_varI rfl) er_int)) (fun c8 H8 e8 => ?_) (fun c8 H8 e8 => ?_)
        · skip
          have h0 := Rep.mono e8 h0
          have h1 := Rep.mono e8 h1
          have jx2 := jx2.trans e8.y
          have E0 := E0.trans e8
          have m_parts := e8 _ _ m_parts
          have n_parts := rels_mono e8 n_parts
          have hcond := c8
          refine nl_put (α := PyData) (P := fun z => (z = (Enc.enc (("round" : Str) : Str))) ∨ (z = (Enc.enc (("stay" : Str) : Str))) ∨ (z = (Enc.enc (("stop" : Str) : Str)))) (j := 5) K rfl m_parts n_parts ?_ er_int (near_ix (by first | exact near_0 | assumption) (by decide)) (fun put3 ws9 H9 p_put3 o9 mm9 nn9 => ?_)
          · exact (en_pick (P := fun z => (z = (Enc.enc (("round" : Str) : Str))) ∨ (z = (Enc.enc (("stay" : Str) : Str))) ∨ (z = (Enc.enc (("stop" : Str) : Str)))) (er_var rfl h0) (ens_cons (en_imp (P := fun z => z = (Enc.enc (("round" : Str) : Str))) (en_is (er_enc (α := Str) er_str)) (fun _ h => .inl h)) (ens_cons (en_imp (P := fun z => z = (Enc.enc (("stay" : Str) : Str))) (en_is (er_enc (α := Str) er_str)) (fun _ h => .inr (.inl h))) (ens_cons (en_imp (P := fun z => z = (Enc.enc (("stop" : Str) : Str))) (en_is (er_enc (α := Str) er_str)) (fun _ h => .inr (.inr (h)))) ens_nil))) (by decide) (by decide))
          have y9 := o9.y m_parts
          have h0 := Rep.moY y9 h0
          have h1 := Rep.moY y9 h1
          have jx2 := jx2.trans y9
          have E0 := o9.ex f_parts E0
          have m_parts := mm9
          have n_parts := nn9
          exact dn2 _ _ ⟨_, ((Fld.ds a1).set 5 put3), rfl, jx2, ⟨m_parts, n_parts, by first | exact near_set near_0 (by decide) | exact near_set (near_set near_0 (by decide)) (by decide)⟩, E0⟩
        · skip
          have h0 := Rep.mono e8 h0
          have h1 := Rep.mono e8 h1
          have jx2 := jx2.trans e8.y
          have E0 := E0.trans e8
          have m_parts := e8 _ _ m_parts
          have n_parts := rels_mono e8 n_parts
          have hcond := c8
          refine l_if K (b := (decide (at_ = 4))) (et_t (er_eqI (er_varI rfl) er_int)) (fun c10 H10 e10 => ?_) (fun c10 H10 e10 => ?_)
          · skip
            have h0 := Rep.mono e10 h0
            have h1 := Rep.mono e10 h1
            have jx2 := jx2.trans e10.y
            have E0 := E0.trans e10
            have m_parts := e10 _ _ m_parts
            have n_parts := rels_mono e10 n_parts
            have hcond := c10
            refine nl_put (α := PyData) (P := fun z => ∃ y : Int, z = Enc.enc y ∧ (∃ (x12_1 : Int), (0 ≤ x12_1 ∧ x12_1 < 11) ∧ y = (2 + x12_1))) (j := 6) K rfl m_parts n_parts ?_ er_int (near_ix (by first | exact near_0 | assumption) (by decide)) (fun put4 ws11 H11 p_put4 o11 mm11 nn11 => ?_)
            · exact (en_encP (P := fun z => ∃ (x12_1 : Int), (0 ≤ x12_1 ∧ x12_1 < 11) ∧ z = (2 + x12_1)) (en_op2 (P := fun z => ∃ (x12_1 : Int), (0 ≤ x12_1 ∧ x12_1 < 11) ∧ z = (2 + x12_1)) (en_is er_int) (en_drawE (er_var rfl h0) er_int ⟨by walk_at "sd", by walk_at "sd"⟩) (fun x12_0 x12_1 v12_0 v12_1 H12 E12 p12_0 p12_1 r12_0 r12_1 => by replace p12_0 := p12_0.symm; subst p12_0; exact en_of (er_add (er_c (x := 2) r12_0) (er_c (x := x12_1) r12_1)) ⟨x12_1, p12_1, rfl⟩)))
            have y11 := o11.y m_parts
            have h0 := Rep.moY y11 h0
            have h1 := Rep.moY y11 h1
            have jx2 := jx2.trans y11
            have E0 := o11.ex f_parts E0
            have m_parts := mm11
            have n_parts := nn11
            exact dn2 _ _ ⟨_, ((Fld.ds a1).set 6 put4), rfl, jx2, ⟨m_parts, n_parts, by first | exact near_set near_0 (by decide) | exact near_set (near_set near_0 (by decide)) (by decide)⟩, E0⟩
          · skip
            have h0 := Rep.mono e10 h0
            have h1 := Rep.mono e10 h1
            have jx2 := jx2.trans e10.y
            have E0 := E0.trans e10
            have m_parts := e10 _ _ m_parts
            have n_parts := rels_mono e10 n_parts
            have hcond := c10
            refine nl_put2 (α := PyData) (P1 := fun z => z = (Enc.enc (1 : Int))) (P2 := fun z => (z = (Enc.enc (("add" : Str) : Str))) ∨ (z = (Enc.enc (("near" : Str) : Str))) ∨ (z = (Enc.enc (("next" : Str) : Str)))) (j := 2) (j2 := 4) K rfl rfl m_parts n_parts ?_ (fun H13a e13a => ?_) er_int (near_ix (by first | exact near_0 | assumption) (by decide)) (fun _ => er_int) (near_ix (by first | exact near_0 | assumption) (by decide)) (fun put5 put6 ws13 H13 p_put5 p_put6 o13 mm13 nn13 => ?_)
            · exact (en_is (er_enc (α := Int) er_int))
            · skip
              have h0 := Rep.mono e13a h0
              have h1 := Rep.mono e13a h1
              exact (en_pick (P := fun z => (z = (Enc.enc (("add" : Str) : Str))) ∨ (z = (Enc.enc (("near" : Str) : Str))) ∨ (z = (Enc.enc (("next" : Str) : Str)))) (er_var rfl h0) (ens_cons (en_imp (P := fun z => z = (Enc.enc (("add" : Str) : Str))) (en_is (er_enc (α := Str) er_str)) (fun _ h => .inl h)) (ens_cons (en_imp (P := fun z => z = (Enc.enc (("near" : Str) : Str))) (en_is (er_enc (α := Str) er_str)) (fun _ h => .inr (.inl h))) (ens_cons (en_imp (P := fun z => z = (Enc.enc (("next" : Str) : Str))) (en_is (er_enc (α := Str) er_str)) (fun _ h => .inr (.inr (h)))) ens_nil))) (by decide) (by decide))
            have y13 := o13.y m_parts
            have h0 := Rep.moY y13 h0
            have h1 := Rep.moY y13 h1
            have jx2 := jx2.trans y13
            have E0 := o13.ex f_parts E0
            have m_parts := mm13
            have n_parts := nn13
            exact dn2 _ _ ⟨_, (((Fld.ds a1).set 2 put5).set 4 put6), rfl, jx2, ⟨m_parts, n_parts, by first | exact near_set near_0 (by decide) | exact near_set (near_set near_0 (by decide)) (by decide)⟩, E0⟩
  obtain ⟨ws_parts1, parts1, rfl, pp2, ⟨m_parts, n_parts, i_parts1⟩, E0⟩ := pp2
  have h0 := Rep.moY pp2 h0
  have h1 := Rep.moY pp2 h1
  refine q_thaw K rfl m_parts n_parts (fun H14 o14 r_14 => ?_)
  have mm14 := m_parts
  have nn14 := n_parts
  have y14 := o14.y m_parts
  have h0 := Rep.moY y14 h0
  have h1 := Rep.moY y14 h1
  have E0 := o14.ex f_parts E0
  refine l_ret (α := Fld) K (er_if (et_b (er_call1 (er_enc (α := Tpl PyData) (er_tupC (er_var rfl r_14))) trivial)) (fun hc => er_fldOf (er_tupC (er_var rfl r_14)) (by rw [encT] at hc; exact hc)) (fun hc => er_var rfl h1)) (fun v15 H15 e15 r15 => q _ v15 H15 ?_ (E0.trans e15) r15)
  exact near_post ok_f i_parts1
abbrev s_need_field : Stmt := topS 13
theorem sc_need_field : FnScope ["field"] ["field"] (defScope s_need_field) := ⟨rfl, rfl, rfl, by decide +kernel, rfl, by decide +kernel, by decide +kernel⟩
abbrev SP_need_field (K : PySem.W.Frag) : Sp := sp1 (α := Fld) (δ := Unit) K (FOk) (fun _ => ())
theorem ok_need_field {P : Program} {w : World} {K : PySem.W.Frag} {mg : Str → Option Value} {base : Heap} (T : Top K mg) {f_is_field : Addr} {fd_is_field : FuncData} (C_is_field : Cal P w K mg base CX0 2 "is_field" ["thing"] (SP_is_field K) f_is_field fd_is_field) {f : Addr} {fd : FuncData} (F : FnP K "need_field" s_need_field f fd) : FnOk P w K mg base CX0 3 f fd ["field"] (SP_need_field K) := by
  refine ok1 F sc_need_field rfl (fun x0 => [some x0]) (fun _ => rfl) (fun H Q x0 a0 h0 hp q cdv A outer s E hr => ⟨_, PSs.nox (pss_one (ps_if (pt_not (pt_val (pe_call C_is_field.ok (hr.mono (by decide)) (by rfl) C_is_field.mg C_is_field.kp C_is_field.bd .nil pass0 (pa_cons (pv 0) pa_nil)))) pss_never pss_nil)), ?_⟩)
  refine l_if0 K (ett_not (et_b (er_call1 (er_enc (α := Fld) (er_var rfl h0)) trivial))) (fun c1 H1 e1 => ?_) (fun c1 H1 e1 => q .non H1 e1 rfl)
  rw [hp.isField] at c1
  cases c1
abbrev s_need_both : Stmt := topS 22
theorem sc_need_both : FnScope ["one", "other"] ["one", "other"] (defScope s_need_both) := ⟨rfl, rfl, rfl, by decide +kernel, rfl, by decide +kernel, by decide +kernel⟩
abbrev SP_need_both (K : PySem.W.Frag) : Sp := sp2 (α := Fld) (β := Fld) (δ := Unit) K (fun o_ p_ => FOk o_ ∧ FOk p_ ∧ p_.low = o_.low ∧ p_.high = o_.high) (fun _ _ => ())
theorem ok_need_both {P : Program} {w : World} {K : PySem.W.Frag} {mg : Str → Option Value} {base : Heap} (T : Top K mg) {f_need_field : Addr} {fd_need_field : FuncData} (C_need_field : Cal P w K mg base CX0 3 "need_field" ["field"] (SP_need_field K) f_need_field fd_need_field) {f : Addr} {fd : FuncData} (F : FnP K "need_both" s_need_both f fd) : FnOk P w K mg base CX0 4 f fd ["one", "other"] (SP_need_both K) := by
  refine ok2 F sc_need_both rfl (fun x0 x1 => [some x0, some x1]) (fun _ _ => rfl) (fun H Q x0 x1 a0 a1 h0 h1 hp q cdv A outer s E hr => ⟨_, PSs.nox (pss_cons (ps_expr (pe_call C_need_field.ok (hr.mono (by decide)) (by rfl) C_need_field.mg C_need_field.kp C_need_field.bd .nil pass0 (pa_cons (pv 0) pa_nil)))
      (pss_cons (ps_expr (pe_call C_need_field.ok (hr.mono (by decide)) (by rfl) C_need_field.mg C_need_field.kp C_need_field.bd .nil pass0 (pa_cons (pv 1) pa_nil)))
      (pss_one (ps_if (pt_cmpR (op_neD hr.units) (pe_slice sl_tup (pv 0) po_none (po_some pe_int)) (pe_slice sl_tup (pv 1) po_none (po_some pe_int)) (nomark _)) pss_never pss_nil)))), ?_⟩)
  have E0 : Ex H H := Ex.refl H
  obtain ⟨ok_f, ok_g, e_l, e_h⟩ := hp
  refine q_drop (α := Unit) K (er_call1 (er_var rfl h0) (by walk_at "sd")) (fun H1 e1 => ?_)
  have h0 := Rep.mono e1 h0
  have h1 := Rep.mono e1 h1
  have E0 := E0.trans e1
  refine q_drop (α := Unit) K (er_call1 (er_var rfl h1) (by walk_at "sd")) (fun H2 e2 => ?_)
  have h0 := Rep.mono e2 h0
  have h1 := Rep.mono e2 h1
  have E0 := E0.trans e2
  have nr1 : (!decide ((a0.low, a0.high) = (a1.low, a1.high))) = false := by
    rw [e_l, e_h, decide_eq_true rfl]
    rfl
  refine l_no K (et_is (a := (!decide ((a0.low, a0.high) = (a1.low, a1.high)))) (et_t (er_neT (α := (Int × Int)) (er_ofP2 (x := a0.low) (y := a0.high) (ev_slF (ys := [V.int a0.low, V.int a0.high]) none (some 2) (ev_fld (er_var rfl h0)) (fun _ _ h => h) (fun _ _ h => ⟨2, rfl, h⟩) (show ¬ ((0 : Nat) = 0 ∧ (2 : Nat) = 7) by decide) rfl) (fun _ => rfl) (fun _ => rfl)) (er_ofP2 (x := a1.low) (y := a1.high) (ev_slF (ys := [V.int a1.low, V.int a1.high]) none (some 2) (ev_fld (er_var rfl h1)) (fun _ _ h => h) (fun _ _ h => ⟨2, rfl, h⟩) (show ¬ ((0 : Nat) = 0 ∧ (2 : Nat) = 7) by decide) rfl) (fun _ => rfl) (fun _ => rfl)) (by walk_at "sd") (by walk_at "sd") (by decide))) nr1) (fun H3 e3 => ?_)
  have h0 := Rep.mono e3 h0
  have h1 := Rep.mono e3 h1
  have E0 := E0.trans e3
  exact q .non _ E0 rfl
abbrev s_rests_of : Stmt := topS 19
theorem sc_rests_of : FnScope ["field", "low", "high", "step", "base", "half", "some", "end", "more", "rest"] ["field"] (defScope s_rests_of) := ⟨rfl, rfl, rfl, by decide +kernel, rfl, by decide +kernel, by decide +kernel⟩
abbrev SP_rests_of (K : PySem.W.Frag) : Sp := sp1 (α := Fld) (δ := (List Int)) K (FOk) (restsOf)
theorem ok_rests_of {P : Program} {w : World} {K : PySem.W.Frag} {mg : Str → Option Value} {base : Heap} (T : Top K mg) {f : Addr} {fd : FuncData} (F : FnP K "rests_of" s_rests_of f fd) : FnOk P w K mg base CX0 1 f fd ["field"] (SP_rests_of K) := by
  refine ok1 F sc_rests_of rfl (fun x0 => [some x0, none, none, none, none, none, none, none, none, none]) (fun _ => rfl) (fun H Q x0 a0 h0 hp q cdv A outer s E hr => ⟨_, PSs.nox (pss_cons (ps_asg (pe_slice sl_tup (pv 0) po_none (po_some pe_int)) (pg_tup rfl (pgs_cons (pg_name (i := 1) sc_rests_of.nd rfl (.inl rfl)) (pgs_cons (pg_name (i := 2) sc_rests_of.nd rfl (.inl rfl)) (pgs_cons (pg_name (i := 3) sc_rests_of.nd rfl (.inr rfl)) (pgs_cons (pg_name (i := 4) sc_rests_of.nd rfl (.inr rfl)) pgs_nil))))))
      (pss_cons (ps_set (i := 5) sc_rests_of.nd rfl (.inl rfl) (pe_op op_fdivW (pe_op op_add (pv 3) pe_int) pe_int))
      (pss_cons (ps_set (i := 6) sc_rests_of.nd rfl (.inl rfl) (pe_lst (pa_cons pe_int (pa_cons pe_int (pa_cons (pe_op op_sub (pv 5) pe_int) (pa_cons (pv 5) (pa_cons (pe_op op_add (pv 5) pe_int) (pa_cons (pe_op op_sub (pv 3) pe_int) pa_nil))))))))
      (pss_cons (ps_for PassesOwn.never rfl (pi_tup (pe_tup (pa_cons (pv 1) (pa_cons (pv 2) pa_nil)))) (pg_name (i := 7) sc_rests_of.nd rfl (.inr rfl)) (pss_one (ps_set (i := 6) sc_rests_of.nd rfl (.inl rfl) (pe_op op_cat (pv 6) (pe_lc (own := [("more", 8)]) (g := gName 8) (tt := tYes)  rfl sc_rests_of.nd (pi_tup (pe_tup (pa_cons (pe_un un_neg pe_int) (pa_cons pe_int (pa_cons pe_int pa_nil))))) (blkOk_by (own := [("more", 8)]) (N := ["field", "low", "high", "step", "base", "half", "some", "end", "more", "rest"]) (sc := defScope s_rests_of) (by decide +kernel)) (fun _ _ _ _ _ => (pg_name (i := 8) sc_rests_of.nd rfl (.inl rfl))) (fun _ _ _ _ _ => pts_nil) (fun _ _ _ _ _ => (pe_op op_add (pe_op op_mod (pe_op op_sub (pv 7) (pv 4)) (pv 3)) (pv 8))))))))
      (pss_one (ps_ret (pe_sortSet (by rfl) T.b_sorted (by rfl) T.b_set (pe_lc (own := [("rest", 9)]) (g := gName 9) (tt := tYes)  rfl sc_rests_of.nd (pi_list (pv 6)) (blkOk_by (own := [("rest", 9)]) (N := ["field", "low", "high", "step", "base", "half", "some", "end", "more", "rest"]) (sc := defScope s_rests_of) (by decide +kernel)) (fun _ _ _ _ _ => (pg_name (i := 9) sc_rests_of.nd rfl (.inl rfl))) (fun _ _ _ _ _ => pts_nil) (fun _ _ _ _ _ => (pe_op op_mod (pv 9) (pv 3))))))))))), ?_⟩)
  have E0 : Ex H H := Ex.refl H
  have ok_f := hp
  obtain ⟨l0_f, lh_f, h1_f, s0_f, s1_f, b0_f, b1_f, off_f, ends_f, g0_f, g1_f, on_f⟩ := ok_f
  have ok_f : FOk a0 := ⟨l0_f, lh_f, h1_f, s0_f, s1_f, b0_f, b1_f, off_f, ends_f, g0_f, g1_f, on_f⟩
  refine q_unp (lo := none) (hi := (some 4)) (er_var rfl h0) (fun _ _ h => h) (fun _ _ h => ⟨4, rfl, h⟩) (by decide) rfl rfl (fun H1 e1 => ?_)
  have h0 := Rep.mono e1 h0
  have E0 := E0.trans e1
  refine (g_cons (.s .z) (g_cons (.s (.s .z)) (g_cons (.s (.s (.s .z))) (g_cons (.s (.s (.s (.s .z)))) (g_nil ?_)))))
  obtain ⟨half, d_half⟩ : ∃ z : Int, z = ((a0.step + 1) / 2) := ⟨_, rfl⟩
  refine q_setI K (er_is (er_div (er_add (er_varI rfl) er_int) er_int (cdivw (by walk_at "sd") (by walk_at "sd"))) d_half.symm) (fun _ => (.s (.s (.s (.s (.s .z)))))) (fun H2 e2 => ?_)
  have h0 := Rep.mono e2 h0
  have E0 := E0.trans e2
  refine q_set (α := (List Int)) K (er_lst (eas_cons er_int (eas_cons er_int (eas_cons (er_sub (er_varI rfl) er_int) (eas_cons (er_varI rfl) (eas_cons (er_add (er_varI rfl) er_int) (eas_cons (er_sub (er_varI rfl) er_int) eas_nil)))))) (Nat.le_of_ble_eq_true rfl)) (fun _ => (.s (.s (.s (.s (.s (.s .z))))))) (fun v3 H3 e3 r_3 => ?_)
  have h0 := Rep.mono e3 h0
  have E0 := E0.trans e3
  refine q_for K (α := Int) (xs := [a0.low, a0.high]) (wk_tup (er_tpl (eas_cons (er_varI rfl) (eas_cons (er_varI rfl) eas_nil)) (Nat.le_of_ble_eq_true rfl))) (fun pre4 σ' H' => ∃ o4_7, ∃ (w_some_ : V), ∃ (some_ : (List Int)), σ' = [some x0, some (V.int a0.low), some (V.int a0.high), some (V.int a0.step), some (V.int a0.base), some (V.int half), some w_some_, o4_7, none, none] ∧ Ey H3 H' ∧ (Rep.rel K H' w_some_ some_ ∧ (some_ = rests0 a0 ++ pre4.flatMap (restsE a0))) ∧ Ex H H') (fun H1 e1 => ⟨_, _, ([0, 1, (half - 1), half, (half + 1), (a0.step - 1)] : List Int), rfl, e1.y, ⟨(Rep.mono e1 r_3), by rw [List.flatMap_nil, List.append_nil, d_half]; rfl⟩, E0.trans e1⟩) (fun L4 pre4 y4 post4 v4 σ' A4 B4 b4 hx4 p4 pp4 c4 r4 => ?_) (fun σ' Z4 z4 pp4 => ?_)
  · obtain ⟨o4_7, w_some_, some_, rfl, q4, ⟨r_some_, i_some_⟩, E0⟩ := pp4
    have hm4 : y4 ∈ ([a0.low, a0.high]) := by
      rw [hx4]
      exact List.mem_append_right _ (List.mem_cons_self ..)
    have t4 := p4.trans c4.y
    have g4 := q4.trans c4.y
    have h0 := Rep.moY g4 h0
    have E0 := E0.trans c4
    have r_some_ := Rep.mono c4 r_some_
    cases r4
    refine g_name1 (.s (.s (.s (.s (.s (.s (.s .z))))))) ?_
    obtain ⟨some_1, d_some_1⟩ : ∃ z : (List Int), z = (some_ ++ (([(-1), 0, 1]).map fun more => (((y4 - a0.base) % a0.step) + more))) := ⟨_, rfl⟩
    refine l_set (α := (List Int)) K (er_is (er_cat (er_var rfl r_some_) (er_lcY (fun more : Int => (((y4 - a0.base) % a0.step) + more)) (wk_tup (er_tpl (eas_cons (er_neg er_int) (eas_cons er_int (eas_cons er_int eas_nil))) (Nat.le_of_ble_eq_true rfl))) (Nat.le_of_ble_eq_true rfl) (fun more w6 H6 hx6 e6 r6 Q6 q6 => gn_ok (s0 := [some x0, some (V.int a0.low), some (V.int a0.high), some (V.int a0.step), some (V.int a0.base), some (V.int half), some w_some_, some (V.int y4), none, none]) (s1 := fun w6 => [some x0, some (V.int a0.low), some (V.int a0.high), some (V.int a0.step), some (V.int a0.base), some (V.int half), some w_some_, some (V.int y4), some w6, none]) rfl (.s (.s (.s (.s (.s (.s (.s (.s .z)))))))) rfl (fun hw => q6 _ H6 (Ex.refl _) hw (er_add (er_mod (er_sub (er_varI rfl) (er_varI rfl)) (er_varI rfl) (by walk_at "sd")) (er_var rfl r6))))) (by rw [i_some_, List.length_append]; have := flat_pre (g := restsE a0) (n := 3) (m := 2) hx4 (Nat.le_refl 2) (fun _ => Nat.le_refl 3); show 6 + _ + 3 ≤ 100000; omega)) d_some_1.symm) (fun _ => (.s (.s (.s (.s (.s (.s .z))))))) (fun v5 H5 e5 r_5 => ?_)
    have h0 := Rep.mono e5 h0
    have r_some_ := Rep.mono e5 r_some_
    have g4 := g4.trans e5.y
    have t4 := t4.trans e5.y
    have E0 := E0.trans e5
    exact ⟨t4, _, _, some_1, rfl, g4, ⟨r_5, by rw [d_some_1, i_some_, List.flatMap_append, List.append_assoc]; simp only [List.flatMap_cons, List.flatMap_nil, List.append_nil]; rfl⟩, E0⟩
  obtain ⟨o4_7, w_some_, some_, rfl, q4, ⟨r_some_, i_some_⟩, E0⟩ := pp4
  have h0 := Rep.moY q4 h0
  refine l_ret (α := (List Int)) K (er_sortSet (er_lcY (fun rest : Int => (rest % a0.step)) (wk_list (er_var rfl r_some_)) (by rw [i_some_]; exact Nat.le_of_ble_eq_true rfl) (fun rest w8 H8 hx8 e8 r8 Q8 q8 => gn_ok (s0 := [some x0, some (V.int a0.low), some (V.int a0.high), some (V.int a0.step), some (V.int a0.base), some (V.int half), some w_some_, o4_7, none, none]) (s1 := fun w8 => [some x0, some (V.int a0.low), some (V.int a0.high), some (V.int a0.step), some (V.int a0.base), some (V.int half), some w_some_, o4_7, none, some w8]) rfl (.s (.s (.s (.s (.s (.s (.s (.s (.s .z))))))))) rfl (fun hw => q8 _ H8 (Ex.refl _) hw (er_mod (er_var rfl r8) (er_varI rfl) (by walk_at "sd"))))) (by rw [List.length_map, i_some_]; exact Nat.le_of_ble_eq_true rfl)) (fun v7 H7 e7 r7 => q v7 H7 (E0.trans e7) ?_)
  refine (congrArg (Rep.rel K H7 v7) (?_ : ((sortU (some_.map fun rest => (rest % a0.step))) : (List Int)) = _)).mp r7
  rw [i_some_]
  rfl
abbrev s_values_of : Stmt := topS 20
theorem sc_values_of : FnScope ["field", "many", "low", "high", "step", "base", "found", "centre", "place", "near", "index", "value", "rest"] ["field", "many"] (defScope s_values_of) := ⟨rfl, rfl, rfl, by decide +kernel, rfl, by decide +kernel, by decide +kernel⟩
abbrev SP_values_of (K : PySem.W.Frag) : Sp := sp2 (α := Fld) (β := Int) (δ := (List Int)) K (fun f_ m_ => FOk f_ ∧ (f_.high - f_.low ≤ 400 ∨ (0 ≤ m_ ∧ m_ ≤ 79))) (fun f_ m_ => valuesOf f_ m_)
theorem ok_values_of {P : Program} {w : World} {K : PySem.W.Frag} {mg : Str → Option Value} {base : Heap} (T : Top K mg) {f_rests_of : Addr} {fd_rests_of : FuncData} (C_rests_of : Cal P w K mg base CX0 1 "rests_of" ["field"] (SP_rests_of K) f_rests_of fd_rests_of) {f : Addr} {fd : FuncData} (F : FnP K "values_of" s_values_of f fd) : FnOk P w K mg base CX0 2 f fd ["field", "many"] (SP_values_of K) := by
  obtain ⟨tk_FEW, g_FEW⟩ := T.g_FEW
  refine ok2 F sc_values_of rfl (fun x0 x1 => [some x0, some x1, none, none, none, none, none, none, none, none, none, none, none]) (fun _ _ => rfl) (fun H Q x0 x1 a0 a1 h0 h1 hp q cdv A outer s E hr => ⟨_, PSs.nox (pss_cons (ps_asg (pe_slice sl_tup (pv 0) po_none (po_some pe_int)) (pg_tup rfl (pgs_cons (pg_name (i := 2) sc_values_of.nd rfl (.inr rfl)) (pgs_cons (pg_name (i := 3) sc_values_of.nd rfl (.inr rfl)) (pgs_cons (pg_name (i := 4) sc_values_of.nd rfl (.inr rfl)) (pgs_cons (pg_name (i := 5) sc_values_of.nd rfl (.inr rfl)) pgs_nil))))))
      (pss_cons (ps_if (pt_cmpR op_le (pe_op op_sub (pv 3) (pv 2)) (pe_glob (v := .int 400) (by rfl) g_FEW ⟨_, rfl⟩) (nomark _)) (pss_one (ps_ret (pe_listRg rfl (by rfl) T.b_list (prg_2 (by rfl) T.b_range (pv 2) (pe_op op_add (pv 3) pe_int))))) pss_nil)
      (pss_cons (ps_set (i := 6) sc_values_of.nd rfl (.inl rfl) (pe_lst (pa_cons (pv 2) (pa_cons (pe_op op_add (pv 2) pe_int) (pa_cons (pe_op op_sub (pv 3) pe_int) (pa_cons (pv 3) pa_nil))))))
      (pss_cons (ps_for PassesOwn.never rfl (pi_tup (pe_tup (pa_cons (pv 2) (pa_cons (pe_op op_fdivW (pe_op op_add (pv 2) (pv 3)) pe_int) (pa_cons (pv 3) pa_nil))))) (pg_name (i := 7) sc_values_of.nd rfl (.inl rfl)) (pss_cons (ps_set (i := 8) sc_values_of.nd rfl (.inl rfl) (pe_op op_fdivW (pe_op op_sub (pv 7) (pv 5)) (pv 4)))
      (pss_cons (ps_set (i := 9) sc_values_of.nd rfl (.inl rfl) (pe_ifExp (pt_cmpR op_ne (pv 7) (pe_op op_fdivW (pe_op op_add (pv 2) (pv 3)) pe_int) (nomark _)) (pe_op op_add (pv 1) pe_int) pe_int))
      (pss_one (ps_for PassesOwn.never rfl (pi_range2 (by rfl) T.b_range (pa_cons (pe_op op_sub (pv 8) (pv 9)) (pa_cons (pe_op op_add (pe_op op_add (pv 8) (pv 9)) pe_int) pa_nil))) (pg_name (i := 10) sc_values_of.nd rfl (.inr rfl)) (pss_one (ps_set (i := 6) sc_values_of.nd rfl (.inl rfl) (pe_op op_cat (pv 6) (pe_lc (own := [("rest", 12)]) (g := gName 12) (tt := tYes)  rfl sc_values_of.nd (pi_list (pe_call C_rests_of.ok (hr.mono (by decide)) (by rfl) C_rests_of.mg C_rests_of.kp C_rests_of.bd .nil pass0 (pa_cons (pv 0) pa_nil))) (blkOk_by (own := [("rest", 12)]) (N := ["field", "many", "low", "high", "step", "base", "found", "centre", "place", "near", "index", "value", "rest"]) (sc := defScope s_values_of) (by decide +kernel)) (fun _ _ _ _ _ => (pg_name (i := 12) sc_values_of.nd rfl (.inl rfl))) (fun _ _ _ _ _ => pts_nil) (fun _ _ _ _ _ => (pe_op op_add (pe_op op_add (pv 5) (pe_op op_mul (pv 10) (pv 4))) (pv 12))))))))))))
      (pss_one (ps_ret (pe_sortSet (by rfl) T.b_sorted (by rfl) T.b_set (pe_lc (own := [("value", 11)]) (g := gName 11)  rfl sc_values_of.nd (pi_list (pv 6)) (blkOk_by (own := [("value", 11)]) (N := ["field", "many", "low", "high", "step", "base", "found", "centre", "place", "near", "index", "value", "rest"]) (sc := defScope s_values_of) (by decide +kernel)) (fun _ _ _ _ _ => (pg_name (i := 11) sc_values_of.nd rfl (.inl rfl))) (fun _ _ _ _ _ => (pts_one (pt_chain op_le op_le (pv 2) (pv 11) (pv 3)))) (fun _ _ _ _ _ => (pv 11)))))))))), ?_⟩)
  cases h1
  have E0 : Ex H H := Ex.refl H
  obtain ⟨ok_f, hw⟩ := hp
  obtain ⟨l0_f, lh_f, h1_f, s0_f, s1_f, b0_f, b1_f, off_f, ends_f, g0_f, g1_f, on_f⟩ := ok_f
  have ok_f : FOk a0 := ⟨l0_f, lh_f, h1_f, s0_f, s1_f, b0_f, b1_f, off_f, ends_f, g0_f, g1_f, on_f⟩
  refine q_unp (lo := none) (hi := (some 4)) (er_var rfl h0) (fun _ _ h => h) (fun _ _ h => ⟨4, rfl, h⟩) (by decide) rfl rfl (fun H1 e1 => ?_)
  have h0 := Rep.mono e1 h0
  have E0 := E0.trans e1
  refine (g_cons (.s (.s .z)) (g_cons (.s (.s (.s .z))) (g_cons (.s (.s (.s (.s .z)))) (g_cons (.s (.s (.s (.s (.s .z))))) (g_nil ?_)))))
  refine q_if0 K (b := (decide ((a0.high - a0.low) ≤ 400))) (et_t (er_le (er_sub (er_varI rfl) (er_varI rfl)) er_int)) (fun c2 H2 e2 => ?_) (fun c2 H2 e2 => ?_)
  · skip
    have h0 := Rep.mono e2 h0
    have E0 := E0.trans e2
    have hcond := c2
    refine l_ret (α := (List Int)) K (er_listRg2 (er_varI rfl) (er_add (er_varI rfl) er_int) ⟨by omega, by omega, by omega, by omega⟩ (by simp only [decide_eq_true_eq] at hcond; omega)) (fun v3 H3 e3 r3 => q v3 H3 (E0.trans e3) ?_)
    refine (congrArg (Rep.rel K H3 v3) (?_ : ((rng a0.low ((a0.high + 1) - a0.low : Int).toNat) : (List Int)) = _)).mp r3
    unfold valuesOf
    rw [if_pos (of_decide_eq_true hcond)]
  have h0 := Rep.mono e2 h0
  have E0 := E0.trans e2
  have hcond := c2
  have hmm : 0 ≤ a1 ∧ a1 ≤ 79 := by
    simp only [decide_eq_false_iff_not] at hcond
    omega
  refine q_set (α := (List Int)) K (er_lst (eas_cons (er_varI rfl) (eas_cons (er_add (er_varI rfl) er_int) (eas_cons (er_sub (er_varI rfl) er_int) (eas_cons (er_varI rfl) eas_nil)))) (Nat.le_of_ble_eq_true rfl)) (fun _ => (.s (.s (.s (.s (.s (.s .z))))))) (fun v4 H4 e4 r_4 => ?_)
  have h0 := Rep.mono e4 h0
  have E0 := E0.trans e4
  refine q_for K (α := Int) (xs := [a0.low, ((a0.low + a0.high) / 2), a0.high]) (wk_tup (er_tpl (eas_cons (er_varI rfl) (eas_cons (er_div (er_add (er_varI rfl) (er_varI rfl)) er_int (cdivw (by walk_at "sd") (by walk_at "sd"))) (eas_cons (er_varI rfl) eas_nil))) (Nat.le_of_ble_eq_true rfl))) (fun pre5 σ' H' => ∃ o5_7 o5_8 o5_9 o5_10, ∃ (w_found : V), ∃ (found : (List Int)), σ' = [some x0, some (V.int a1), some (V.int a0.low), some (V.int a0.high), some (V.int a0.step), some (V.int a0.base), some w_found, o5_7, o5_8, o5_9, o5_10, none, none] ∧ Ey H4 H' ∧ (Rep.rel K H' w_found found ∧ (found = spots0 a0 ++ pre5.flatMap (blockAt a0 a1))) ∧ Ex H H') (fun H1 e1 => ⟨_, _, _, _, _, ([a0.low, (a0.low + 1), (a0.high - 1), a0.high] : List Int), rfl, e1.y, ⟨(Rep.mono e1 r_4), by rw [List.flatMap_nil, List.append_nil]; rfl⟩, E0.trans e1⟩) (fun L5 pre5 y5 post5 v5 σ' A5 B5 b5 hx5 p5 pp5 c5 r5 => ?_) (fun σ' Z5 z5 pp5 => ?_)
  · obtain ⟨o5_7, o5_8, o5_9, o5_10, w_found, found, rfl, q5, ⟨r_found, i_found⟩, E0⟩ := pp5
    have hm5 : y5 ∈ ([a0.low, ((a0.low + a0.high) / 2), a0.high]) := by
      rw [hx5]
      exact List.mem_append_right _ (List.mem_cons_self ..)
    have t5 := p5.trans c5.y
    have g5 := q5.trans c5.y
    have h0 := Rep.moY g5 h0
    have E0 := E0.trans c5
    have r_found := Rep.mono c5 r_found
    cases r5
    refine g_name1 (.s (.s (.s (.s (.s (.s (.s .z))))))) ?_
    have hy : y5 = a0.low ∨ y5 = (a0.low + a0.high) / 2 ∨ y5 = a0.high := by
      simp only [List.mem_cons, List.not_mem_nil, or_false] at hm5
      exact hm5
    obtain ⟨place, d_place⟩ : ∃ z : Int, z = ((y5 - a0.base) / a0.step) := ⟨_, rfl⟩
    refine q_setI K (er_is (er_div (er_sub (er_varI rfl) (er_varI rfl)) (er_varI rfl) (cdivw (by walk_at "sd") (by walk_at "sd"))) d_place.symm) (fun _ => (.s (.s (.s (.s (.s (.s (.s (.s .z))))))))) (fun H6 e6 => ?_)
    have h0 := Rep.mono e6 h0
    have r_found := Rep.mono e6 r_found
    have g5 := g5.trans e6.y
    have t5 := t5.trans e6.y
    have E0 := E0.trans e6
    have hda := div_abs (x := y5 - a0.base) s0_f
    have hpl : -4000000000000 ≤ place ∧ place ≤ 4000000000000 := by omega
    obtain ⟨near, d_near⟩ : ∃ z : Int, z = (if (!decide (y5 = ((a0.low + a0.high) / 2))) = true then (a1 + 2) else 1) := ⟨_, rfl⟩
    refine q_setI K (er_is (er_if (et_t (er_neI (er_varI rfl) (er_div (er_add (er_varI rfl) (er_varI rfl)) er_int (cdivw (by walk_at "sd") (by walk_at "sd"))))) (fun hc => (er_add (er_varI rfl) er_int)) (fun hc => er_int)) d_near.symm) (fun _ => (.s (.s (.s (.s (.s (.s (.s (.s (.s .z)))))))))) (fun H7 e7 => ?_)
    have h0 := Rep.mono e7 h0
    have r_found := Rep.mono e7 r_found
    have g5 := g5.trans e7.y
    have t5 := t5.trans e7.y
    have E0 := E0.trans e7
    have hnr : 1 ≤ near ∧ near ≤ 81 := by
      rw [d_near]
      split <;> omega
    refine for_wk K (α := Int) (xs := (rng (place - near) (((place + near) + 1) - (place - near) : Int).toNat)) (wk_rng2 (er_sub (er_varI rfl) (er_varI rfl)) (er_add (er_add (er_varI rfl) (er_varI rfl)) er_int) ⟨by walk_at "sd", by walk_at "sd", by walk_at "sd", by walk_at "sd"⟩) (fun pre8 σ' H' => ∃ o8_10, ∃ (w_found1 : V), ∃ (found1 : (List Int)), σ' = [some x0, some (V.int a1), some (V.int a0.low), some (V.int a0.high), some (V.int a0.step), some (V.int a0.base), some w_found1, some (V.int y5), some (V.int place), some (V.int near), o8_10, none, none] ∧ Ey H7 H' ∧ (Rep.rel K H' w_found1 found1 ∧ (found1 = found ++ pre8.flatMap (rowAt a0))) ∧ Ex H H') (fun H1 e1 => ⟨_, _, found, rfl, e1.y, ⟨(Rep.mono e1 r_found), by rw [List.flatMap_nil, List.append_nil]⟩, E0.trans e1⟩) (fun L8 pre8 y8 post8 v8 σ' A8 B8 b8 hx8 p8 pp8 c8 r8 => ?_) (fun σ' Z8 z8 pp8 => ?_)
    · obtain ⟨o8_10, w_found1, found1, rfl, q8, ⟨r_found1, i_found1⟩, E0⟩ := pp8
      have hm8 : y8 ∈ (rng (place - near) (((place + near) + 1) - (place - near) : Int).toNat) := by
        rw [hx8]
        exact List.mem_append_right _ (List.mem_cons_self ..)
      have hr8 := rng_mem.mp hm8
      have t8 := p8.trans c8.y
      have g8 := q8.trans c8.y
      have h0 := Rep.moY g8 h0
      have g5 := g5.trans g8
      have t5 := t5.trans g8
      have E0 := E0.trans c8
      have r_found1 := Rep.mono c8 r_found1
      cases r8
      refine g_name1 (.s (.s (.s (.s (.s (.s (.s (.s (.s (.s .z)))))))))) ?_
      
      obtain ⟨found2, d_found2⟩ : ∃ z : (List Int), z = (found1 ++ ((restsOf a0).map fun rest => ((a0.base + (y8 * a0.step)) + rest))) := ⟨_, rfl⟩
      refine l_set (α := (List Int)) K (er_is (er_cat (er_var rfl r_found1) (er_lcY (fun rest : Int => ((a0.base + (y8 * a0.step)) + rest)) (wk_list (er_call1 (er_var rfl h0) ok_f)) (Nat.le_trans restsOf_len (by decide)) (fun rest w10 H10 hx10 e10 r10 Q10 q10 => gn_ok (s0 := [some x0, some (V.int a1), some (V.int a0.low), some (V.int a0.high), some (V.int a0.step), some (V.int a0.base), some w_found1, some (V.int y5), some (V.int place), some (V.int near), some (V.int y8), none, none]) (s1 := fun w10 => [some x0, some (V.int a1), some (V.int a0.low), some (V.int a0.high), some (V.int a0.step), some (V.int a0.base), some w_found1, some (V.int y5), some (V.int place), some (V.int near), some (V.int y8), none, some w10]) rfl (.s (.s (.s (.s (.s (.s (.s (.s (.s (.s (.s (.s .z)))))))))))) rfl (fun hw => q10 _ H10 (Ex.refl _) hw (er_add (er_add (er_varI rfl) (er_mul (er_varI rfl) (er_varI rfl) (by walk_at "mc"))) (er_var rfl r10))))) (by rw [i_found1, i_found, List.length_append, List.length_append, List.length_map]; have k1 := flat_pre (g := blockAt a0 a1) (n := 1956) (m := 3) hx5 (Nat.le_refl 3) (fun _ => (block_len hmm).1); have k2 := flat_pre (g := rowAt a0) (n := 12) (m := 163) hx8 (by rw [rng_len]; omega) (fun _ => row_len); have k3 := restsOf_len (f := a0); show (4 + _) + _ + _ ≤ 100000; omega)) d_found2.symm) (fun _ => (.s (.s (.s (.s (.s (.s .z))))))) (fun v9 H9 e9 r_9 => ?_)
      have h0 := Rep.mono e9 h0
      have r_found1 := Rep.mono e9 r_found1
      have g5 := g5.trans e9.y
      have t5 := t5.trans e9.y
      have g8 := g8.trans e9.y
      have t8 := t8.trans e9.y
      have E0 := E0.trans e9
      exact ⟨t8, _, _, found2, rfl, g8, ⟨r_9, by rw [d_found2, i_found1, List.flatMap_append, List.append_assoc]; simp only [List.flatMap_cons, List.flatMap_nil, List.append_nil]; rfl⟩, E0⟩
    obtain ⟨o8_10, w_found1, found1, rfl, q8, ⟨r_found1, i_found1⟩, E0⟩ := pp8
    have h0 := Rep.moY q8 h0
    have g5 := g5.trans q8
    have t5 := t5.trans q8
    exact ⟨t5, _, _, _, _, _, found1, rfl, g5, ⟨r_found1, by rw [i_found1, i_found, block_eq d_place d_near, List.flatMap_append, List.append_assoc]; simp only [List.flatMap_cons, List.flatMap_nil, List.append_nil]⟩, E0⟩
  obtain ⟨o5_7, o5_8, o5_9, o5_10, w_found, found, rfl, q5, ⟨r_found, i_found⟩, E0⟩ := pp5
  have h0 := Rep.moY q5 h0
  refine l_ret (α := (List Int)) K (er_sortSet (er_lc (fun value : Int => ((decide (a0.low ≤ value)) && (decide (value ≤ a0.high)))) (fun value : Int => value) (wk_list (er_var rfl r_found)) (by rw [i_found]; exact Nat.le_trans (spots_len hmm) (by decide)) (fun value w12 H12 hx12 e12 r12 Q12 q12 => gn_ok (s0 := [some x0, some (V.int a1), some (V.int a0.low), some (V.int a0.high), some (V.int a0.step), some (V.int a0.base), some w_found, o5_7, o5_8, o5_9, o5_10, none, none]) (s1 := fun w12 => [some x0, some (V.int a1), some (V.int a0.low), some (V.int a0.high), some (V.int a0.step), some (V.int a0.base), some w_found, o5_7, o5_8, o5_9, o5_10, some w12, none]) rfl (.s (.s (.s (.s (.s (.s (.s (.s (.s (.s (.s .z))))))))))) rfl (fun hw => q12 _ H12 (Ex.refl _) hw (et_t (er_chain (r1 := (fun i j => (decide (i ≤ j)))) (r2 := (fun i j => (decide (i ≤ j)))) (er_varI rfl) (er_var rfl r12) (er_varI rfl))) (fun hf => (er_var rfl r12))))) (by rw [List.length_map]; exact Nat.le_trans (List.length_filter_le ..) (by rw [i_found]; exact spots_len hmm))) (fun v11 H11 e11 r11 => q v11 H11 (E0.trans e11) ?_)
  refine (congrArg (Rep.rel K H11 v11) (?_ : ((sortU ((found.filter fun value => ((decide (a0.low ≤ value)) && (decide (value ≤ a0.high)))).map fun value => value)) : (List Int)) = _)).mp r11
  unfold valuesOf
  rw [if_neg (of_decide_eq_false hcond), i_found, List.map_id']
  rfl
abbrev s_aim_of : Stmt := topS 15
theorem sc_aim_of : FnScope ["field", "value", "many", "step", "base", "off"] ["field", "value", "many"] (defScope s_aim_of) := ⟨rfl, rfl, rfl, by decide +kernel, rfl, by decide +kernel, by decide +kernel⟩
abbrev SP_aim_of (K : PySem.W.Frag) : Sp := sp3 (α := Fld) (β := Int) (γ := Int) (δ := Int) K (fun f _ _ => FL f) (aimOf)
theorem ok_aim_of {P : Program} {w : World} {K : PySem.W.Frag} {mg : Str → Option Value} {base : Heap} (T : Top K mg) {f : Addr} {fd : FuncData} (F : FnP K "aim_of" s_aim_of f fd) : FnOk P w K mg base CX0 1 f fd ["field", "value", "many"] (SP_aim_of K) := by
  refine ok3 F sc_aim_of rfl (fun x0 x1 x2 => [some x0, some x1, some x2, none, none, none]) (fun _ _ _ => rfl) (fun H Q x0 x1 x2 a0 a1 a2 h0 h1 h2 hp q cdv A outer s E hr => ⟨_, PSs.nox (pss_cons (ps_asg (pe_slice sl_tup (pv 0) (po_some pe_int) (po_some pe_int)) (pg_tup rfl (pgs_cons (pg_name (i := 3) sc_aim_of.nd rfl (.inl rfl)) (pgs_cons (pg_name (i := 4) sc_aim_of.nd rfl (.inl rfl)) (pgs_cons (pg_name (i := 5) sc_aim_of.nd rfl (.inl rfl)) pgs_nil)))))
      (pss_cons (ps_if (pt_cmpR op_eq (pv 5) pe_str (nomark _)) (pss_one (ps_ret (pe_op op_add (pv 1) (pe_op op_mul (pv 2) (pv 3))))) pss_nil)
      (pss_cons (ps_if (pt_cmpR op_eq (pv 5) pe_str (nomark _)) (pss_one (ps_ret (pe_op op_add (pv 4) (pe_op op_mul (pe_op op_add (pe_op op_fdivW (pe_op op_add (pe_op op_mul pe_int (pe_op op_sub (pv 1) (pv 4))) (pv 3)) (pe_op op_mul pe_int (pv 3))) (pv 2)) (pv 3))))) pss_nil)
      (pss_cons (ps_if (pt_cmpR op_gt (pv 2) pe_int (nomark _)) (pss_one (ps_ret (pe_op op_add (pv 4) (pe_op op_mul (pe_op op_add (pe_op op_fdivW (pe_op op_sub (pv 1) (pv 4)) (pv 3)) (pv 2)) (pv 3))))) pss_nil)
      (pss_one (ps_ret (pe_op op_add (pv 4) (pe_op op_mul (pe_op op_add (pe_un un_neg (pe_op op_fdivW (pe_op op_sub (pv 4) (pv 1)) (pv 3))) (pv 2)) (pv 3))))))))), ?_⟩)
  cases h1
  cases h2
  obtain ⟨l0, lh, hh1, s0, s1, b0, b1⟩ := hp
  refine q_unp (lo := (some 2)) (hi := (some 5)) (by walk_at "ev") (fun _ _ h => ⟨2, rfl, h⟩) (fun _ _ h => ⟨5, rfl, h⟩) (by decide) rfl rfl (fun H1 e1 => ?_)
  refine (g_cons (.s (.s (.s .z))) (g_cons (.s (.s (.s (.s .z)))) (g_cons (.s (.s (.s (.s (.s .z))))) (g_nil ?_))))
  refine q_if0 K (by walk_at "et") (fun c2 H2 e2 => ?_) (fun c2 H2 e2 => ?_)
  · simp only [Bool.and_eq_true, Bool.or_eq_true, decide_eq_true_eq, Bool.not_eq_true', decide_eq_false_iff_not] at c2
    refine l_ret (α := Int) K (by walk_at "ev") (fun v3 H3 e3 r3 => ?_)
    refine q v3 H3 (by walk_at "ex") ?_
    refine (congrArg (Rep.rel K H3 v3) ?_).mp r3
    simp only [aimOf, if_pos c2]
  rw [← Bool.not_eq_true] at c2; simp only [Bool.and_eq_true, Bool.or_eq_true, decide_eq_true_eq, Bool.not_eq_true', decide_eq_false_iff_not] at c2
  refine q_if0 K (by walk_at "et") (fun c4 H4 e4 => ?_) (fun c4 H4 e4 => ?_)
  · simp only [Bool.and_eq_true, Bool.or_eq_true, decide_eq_true_eq, Bool.not_eq_true', decide_eq_false_iff_not] at c4
    refine l_ret (α := Int) K (by walk_at "ev") (fun v5 H5 e5 r5 => ?_)
    refine q v5 H5 (by walk_at "ex") ?_
    refine (congrArg (Rep.rel K H5 v5) ?_).mp r5
    simp only [aimOf, if_neg c2, if_pos c4]
  rw [← Bool.not_eq_true] at c4; simp only [Bool.and_eq_true, Bool.or_eq_true, decide_eq_true_eq, Bool.not_eq_true', decide_eq_false_iff_not] at c4
  refine q_if0 K (by walk_at "et") (fun c6 H6 e6 => ?_) (fun c6 H6 e6 => ?_)
  · simp only [Bool.and_eq_true, Bool.or_eq_true, decide_eq_true_eq, Bool.not_eq_true', decide_eq_false_iff_not] at c6
    refine l_ret (α := Int) K (by walk_at "ev") (fun v7 H7 e7 r7 => ?_)
    refine q v7 H7 (by walk_at "ex") ?_
    refine (congrArg (Rep.rel K H7 v7) ?_).mp r7
    simp only [aimOf, if_neg c2, if_neg c4, if_pos c6]
  rw [← Bool.not_eq_true] at c6; simp only [Bool.and_eq_true, Bool.or_eq_true, decide_eq_true_eq, Bool.not_eq_true', decide_eq_false_iff_not] at c6
  refine l_ret (α := Int) K (by walk_at "ev") (fun v8 H8 e8 r8 => ?_)
  refine q v8 H8 (by walk_at "ex") ?_
  refine (congrArg (Rep.rel K H8 v8) ?_).mp r8
  simp only [aimOf, if_neg c2, if_neg c4, if_neg c6]
abbrev s_many_steps : Stmt := topS 14
theorem sc_many_steps : FnScope ["field", "key"] ["field", "key"] (defScope s_many_steps) := ⟨rfl, rfl, rfl, by decide +kernel, rfl, by decide +kernel, by decide +kernel⟩
abbrev SP_many_steps (K : PySem.W.Frag) : Sp := sp2 (α := Fld) (β := Sg) (δ := Int) K (fun _ s => isMove s.c) (fun f s => manySteps f s.c)
theorem ok_many_steps {P : Program} {w : World} {K : PySem.W.Frag} {mg : Str → Option Value} {base : Heap} (T : Top K mg) {f : Addr} {fd : FuncData} (F : FnP K "many_steps" s_many_steps f fd) : FnOk P w K mg base CX0 1 f fd ["field", "key"] (SP_many_steps K) := by
  refine ok2 F sc_many_steps rfl (fun x0 x1 => [some x0, some x1]) (fun _ _ => rfl) (fun H Q x0 x1 a0 a1 h0 h1 hp q cdv A outer s E hr => ⟨_, PSs.nox (pss_one (ps_ret (pe_dget (hu_of hr) (pe_disp (pps_cons pe_str pe_int (pps_cons pe_str (pe_un un_neg pe_int) (pps_cons pe_str (pe_ix ix_tup (pv 0) pe_int (fun _ _ => rfl)) (pps_cons pe_str (pe_un un_neg (pe_ix ix_tup (pv 0) pe_int (fun _ _ => rfl))) pps_nil)))) rfl rfl (fun z => by cases z) (by decide)) (pv 1) (fun _ _ => rfl)))), ?_⟩)
  cases h1
  obtain ⟨c⟩ := a1
  refine l_ret (α := Int) K (er_dsp (i := manySteps a0 c) (eps_cons er_int (eps_cons (er_neg er_int) (eps_cons (er_f6 (er_var rfl h0)) (eps_cons (er_neg (er_f6 (er_var rfl h0))) eps_nil)))) (er_sg (er_var rfl rfl)) (Nat.le_of_ble_eq_true rfl) ?_) (fun v H1 e1 r => q v H1 e1 r)
  rcases hp with z | z | z | z <;> (have z1 : c = _ := z; subst z1; rfl)
abbrev s_press_key : Stmt := topS 16
theorem sc_press_key : FnScope ["field", "value", "key", "low", "high", "aim", "above"] ["field", "value", "key"] (defScope s_press_key) := ⟨rfl, rfl, rfl, by decide +kernel, rfl, by decide +kernel, by decide +kernel⟩
abbrev SP_press_key (K : PySem.W.Frag) : Sp := sp3 (α := Fld) (β := Int) (γ := Sg) (δ := Int) K (fun f _ s => FL f ∧ isKey s.c) (fun f v s => pressKey f v s.c)
theorem ok_press_key {P : Program} {w : World} {K : PySem.W.Frag} {mg : Str → Option Value} {base : Heap} (T : Top K mg) {f_many_steps : Addr} {fd_many_steps : FuncData} (C_many_steps : Cal P w K mg base CX0 1 "many_steps" ["field", "key"] (SP_many_steps K) f_many_steps fd_many_steps) {f_aim_of : Addr} {fd_aim_of : FuncData} (C_aim_of : Cal P w K mg base CX0 1 "aim_of" ["field", "value", "many"] (SP_aim_of K) f_aim_of fd_aim_of) {f : Addr} {fd : FuncData} (F : FnP K "press_key" s_press_key f fd) : FnOk P w K mg base CX0 2 f fd ["field", "value", "key"] (SP_press_key K) := by
  refine ok3 F sc_press_key rfl (fun x0 x1 x2 => [some x0, some x1, some x2, none, none, none, none]) (fun _ _ _ => rfl) (fun H Q x0 x1 x2 a0 a1 a2 h0 h1 h2 hp q cdv A outer s E hr => ⟨_, PSs.nox (pss_cons (ps_asg (pe_slice sl_tup (pv 0) po_none (po_some pe_int)) (pg_tup rfl (pgs_cons (pg_name (i := 3) sc_press_key.nd rfl (.inl rfl)) (pgs_cons (pg_name (i := 4) sc_press_key.nd rfl (.inl rfl)) pgs_nil))))
      (pss_cons (ps_if (pt_cmpR op_inS (pv 2) pe_str rfl) (pss_one (ps_ret (pe_dget (hu_of hr) (pe_disp (pps_cons pe_str (pv 3) (pps_cons pe_str (pv 4) pps_nil)) rfl rfl (fun z => by cases z) (by decide)) (pv 2) (fun _ _ => rfl)))) pss_nil)
      (pss_cons (ps_set (i := 5) sc_press_key.nd rfl (.inl rfl) (pe_call C_aim_of.ok (hr.mono (by decide)) (by rfl) C_aim_of.mg C_aim_of.kp C_aim_of.bd .nil pass0 (pa_cons (pv 0) (pa_cons (pv 1) (pa_cons (pe_call C_many_steps.ok (hr.mono (by decide)) (by rfl) C_many_steps.mg C_many_steps.kp C_many_steps.bd .nil pass0 (pa_cons (pv 0) (pa_cons (pv 2) pa_nil))) pa_nil)))))
      (pss_cons (ps_if (pt_chain op_le op_le (pv 3) (pv 5) (pv 4)) (pss_one (ps_ret (pv 5))) pss_nil)
      (pss_cons (ps_if (pt_cmpR op_eq (pe_ix ix_tup (pv 0) pe_int (fun _ _ => rfl)) pe_str (nomark _)) (pss_one (ps_ret (pv 1))) pss_nil)
      (pss_cons (ps_set (i := 6) sc_press_key.nd rfl (.inl rfl) (pe_cmpR op_gt (pv 5) (pv 4) (nomark _)))
      (pss_cons (ps_if (pt_cmpR op_eq (pe_ix ix_tup (pv 0) pe_int (fun _ _ => rfl)) pe_str (nomark _)) (pss_one (ps_set (i := 6) sc_press_key.nd rfl (.inl rfl) (pe_not (pv 6)))) pss_nil)
      (pss_one (ps_ret (pe_ifExp (pt_val (pv 6)) (pv 4) (pv 3))))))))))), ?_⟩)
  cases h1
  cases h2
  obtain ⟨c⟩ := a2
  obtain ⟨hf, hk⟩ := hp
  have ehe : ∀ c : Nat, c ∈ ("he" : Str).cps.toList ↔ c = 104 ∨ c = 101 := by
    intro c
    have e : ("he" : Str).cps.toList = [104, 101] := by decide
    rw [e]
    simp only [List.mem_cons, List.not_mem_nil, or_false]
  refine q_unp (lo := none) (hi := (some 2)) (by walk_at "ev") (fun _ _ h => h) (fun _ _ h => ⟨2, rfl, h⟩) (by decide) rfl rfl (fun H1 e1 => ?_)
  refine (g_cons (.s (.s (.s .z))) (g_cons (.s (.s (.s (.s .z)))) (g_nil ?_)))
  have hs : ∀ H1, ER K (tVar 2) [some x0, some (V.int a1), some (V.str ⟨#[c]⟩), some (V.int a0.low), some (V.int a0.high), none, none] H1 (Sg.mk c) := fun H1 => er_var rfl rfl
  refine q_if0 K (et_t (er_inS (hs H1) er_str)) (fun c2 H2 e2 => ?_) (fun c2 H2 e2 => ?_)
  · simp only [decide_eq_true_eq, ehe] at c2
    refine l_ret (α := Int) K (er_dsp (i := if c = 104 then a0.low else a0.high) (eps_cons (er_varI rfl) (eps_cons (er_varI rfl) eps_nil)) (er_sg (hs H2)) (Nat.le_of_ble_eq_true rfl) ?_) (fun v H3 e3 r => q v H3 (by walk_at "ex") ?_)
    · rcases c2 with z | z <;> (subst z; rfl)
    · refine (congrArg (Rep.rel K H3 v) ?_).mp r
      rcases c2 with z | z <;> (subst z; rfl)
  have hc : ¬ (c = 104 ∨ c = 101) := by
    simp only [decide_eq_false_iff_not, ehe] at c2
    exact c2
  have hm : isMove c := by
    rcases hk with z | z | z | z | z | z
    · exact .inl z
    · exact .inr (.inl z)
    · exact .inr (.inr (.inl z))
    · exact .inr (.inr (.inr z))
    · exact absurd (.inl z) hc
    · exact absurd (.inr z) hc
  have hpk : pressKey a0 a1 c = (if a0.low ≤ aimOf a0 a1 (manySteps a0 c) ∧ aimOf a0 a1 (manySteps a0 c) ≤ a0.high then aimOf a0 a1 (manySteps a0 c)
      else if a0.ends = "stay" then a1 else if a0.ends = "round" then (if aimOf a0 a1 (manySteps a0 c) > a0.high then a0.low else a0.high) else (if aimOf a0 a1 (manySteps a0 c) > a0.high then a0.high else a0.low)) := by
    unfold pressKey
    rw [if_neg (fun z => hc (.inl z)), if_neg (fun z => hc (.inr z))]
  have h0' := Rep.mono (e1.trans e2) h0
  refine q_setI K (er_call3 (er_var rfl h0') (er_varI rfl) (er_call2 (er_var rfl h0') (hs H2) hm) hf) (fun _ => (.s (.s (.s (.s (.s .z)))))) (fun H3 e3 => ?_)
  generalize aimOf a0 a1 (manySteps a0 c) = aim at hpk
  refine q_if0 K (et_t (er_chain (er_varI rfl) (er_varI rfl) (er_varI rfl))) (fun c4 H4 e4 => ?_) (fun c4 H4 e4 => ?_)
  · simp only [Bool.and_eq_true, decide_eq_true_eq] at c4
    refine l_ret (α := Int) K (er_varI rfl) (fun v H5 e5 r => q v H5 (by walk_at "ex") ?_)
    rw [hpk, if_pos c4]
    exact r
  rw [← Bool.not_eq_true] at c4
  simp only [Bool.and_eq_true, decide_eq_true_eq] at c4
  rw [if_neg c4] at hpk
  refine q_if0 K (et_t (er_eqS (by walk_at "ev") er_str)) (fun c5 H5 e5 => ?_) (fun c5 H5 e5 => ?_)
  · simp only [decide_eq_true_eq] at c5
    refine l_ret (α := Int) K (er_varI rfl) (fun v H6 e6 r => q v H6 (by walk_at "ex") ?_)
    rw [hpk, if_pos c5]
    exact r
  simp only [decide_eq_false_iff_not] at c5
  rw [if_neg c5] at hpk
  refine q_setB K (er_gt (er_varI rfl) (er_varI rfl)) (fun _ => (.s (.s (.s (.s (.s (.s .z))))))) (fun H6 e6 => ?_)
  refine q_if0 K (et_t (er_eqS (by walk_at "ev") er_str)) (fun c7 H7 e7 => ?_) (fun c7 H7 e7 => ?_)
  · simp only [decide_eq_true_eq] at c7
    rw [if_pos c7] at hpk
    refine l_set (α := Bool) K (er_not (er_varB rfl)) (fun _ => (.s (.s (.s (.s (.s (.s .z))))))) (fun v8 H8 e8 r8 => ?_)
    cases r8
    refine l_ret (α := Int) K (er_if (et_b (er_varB rfl)) (fun _ => er_varI rfl) (fun _ => er_varI rfl)) (fun v H9 e9 r => q v H9 (by walk_at "ex") ?_)
    rw [hpk]
    refine (congrArg (Rep.rel K H9 v) ?_).mp r
    by_cases z : a0.high < aim
    · rw [if_pos z, decide_eq_true z]
      rfl
    · rw [if_neg z, decide_eq_false z]
      rfl
  simp only [decide_eq_false_iff_not] at c7
  rw [if_neg c7] at hpk
  refine l_ret (α := Int) K (er_if (et_b (er_varB rfl)) (fun _ => er_varI rfl) (fun _ => er_varI rfl)) (fun v H9 e9 r => q v H9 (by walk_at "ex") ?_)
  rw [hpk]
  refine (congrArg (Rep.rel K H9 v) ?_).mp r
  by_cases z : a0.high < aim
  · rw [if_pos z, decide_eq_true z]
    rfl
  · rw [if_neg z, decide_eq_false z]
    rfl
abbrev s_parting_of : Stmt := topS 21
theorem sc_parting_of : FnScope ["one", "other", "some", "value", "key"] ["one", "other"] (defScope s_parting_of) := ⟨rfl, rfl, rfl, by decide +kernel, rfl, by decide +kernel, by decide +kernel⟩
abbrev SP_parting_of (K : PySem.W.Frag) : Sp := sp2 (α := Fld) (β := Fld) (δ := (Option (Int × Sg))) K (fun o_ p_ => FOk o_ ∧ FOk p_) (fun o_ p_ => partOf o_ p_)
theorem ok_parting_of {P : Program} {w : World} {K : PySem.W.Frag} {mg : Str → Option Value} {base : Heap} (T : Top K mg) {f_values_of : Addr} {fd_values_of : FuncData} (C_values_of : Cal P w K mg base CX0 2 "values_of" ["field", "many"] (SP_values_of K) f_values_of fd_values_of) {f_press_key : Addr} {fd_press_key : FuncData} (C_press_key : Cal P w K mg base CX0 2 "press_key" ["field", "value", "key"] (SP_press_key K) f_press_key fd_press_key) {f : Addr} {fd : FuncData} (F : FnP K "parting_of" s_parting_of f fd) : FnOk P w K mg base CX0 3 f fd ["one", "other"] (SP_parting_of K) := by
  obtain ⟨tk_KEYS, g_KEYS⟩ := T.g_KEYS
  refine ok2 F sc_parting_of rfl (fun x0 x1 => [some x0, some x1, none, none, none]) (fun _ _ => rfl) (fun H Q x0 x1 a0 a1 h0 h1 hp q cdv A outer s E hr => ⟨_, PSs.nox (pss_cons (ps_set (i := 2) sc_parting_of.nd rfl (.inl rfl) (pe_op op_cat (pe_call C_values_of.ok (hr.mono (by decide)) (by rfl) C_values_of.mg C_values_of.kp C_values_of.bd .nil pass0 (pa_cons (pv 0) (pa_cons (pe_op op_add (pe_ix ix_tup (pv 0) pe_int (fun _ _ => rfl)) pe_int) pa_nil))) (pe_call C_values_of.ok (hr.mono (by decide)) (by rfl) C_values_of.mg C_values_of.kp C_values_of.bd .nil pass0 (pa_cons (pv 1) (pa_cons (pe_op op_add (pe_ix ix_tup (pv 1) pe_int (fun _ _ => rfl)) pe_int) pa_nil)))))
      (pss_cons (ps_for PassesOwn.never rfl (pi_list (pe_sortSet (by rfl) T.b_sorted (by rfl) T.b_set (pv 2))) (pg_name (i := 3) sc_parting_of.nd rfl (.inl rfl)) (pss_one (ps_for PassesOwn.never rfl (pi_str (pe_glob (v := .str "udUDhe") (by rfl) g_KEYS ⟨_, rfl⟩)) (pg_name (i := 4) sc_parting_of.nd rfl (.inl rfl)) (pss_one (ps_if (pt_cmpR op_ne (pe_call C_press_key.ok (hr.mono (by decide)) (by rfl) C_press_key.mg C_press_key.kp C_press_key.bd .nil pass0 (pa_cons (pv 0) (pa_cons (pv 3) (pa_cons (pv 4) pa_nil)))) (pe_call C_press_key.ok (hr.mono (by decide)) (by rfl) C_press_key.mg C_press_key.kp C_press_key.bd .nil pass0 (pa_cons (pv 1) (pa_cons (pv 3) (pa_cons (pv 4) pa_nil)))) (nomark _)) (pss_one (ps_ret (pe_tup (pa_cons (pv 3) (pa_cons (pv 4) pa_nil))))) pss_nil)))))
      (pss_one (ps_ret pe_non)))), ?_⟩)
  have E0 : Ex H H := Ex.refl H
  obtain ⟨ok_f, ok_g⟩ := hp
  obtain ⟨l0_f, lh_f, h1_f, s0_f, s1_f, b0_f, b1_f, off_f, ends_f, g0_f, g1_f, on_f⟩ := ok_f
  have ok_f : FOk a0 := ⟨l0_f, lh_f, h1_f, s0_f, s1_f, b0_f, b1_f, off_f, ends_f, g0_f, g1_f, on_f⟩
  obtain ⟨l0_g, lh_g, h1_g, s0_g, s1_g, b0_g, b1_g, off_g, ends_g, g0_g, g1_g, on_g⟩ := ok_g
  have ok_g : FOk a1 := ⟨l0_g, lh_g, h1_g, s0_g, s1_g, b0_g, b1_g, off_g, ends_g, g0_g, g1_g, on_g⟩
  have k1 := values_len2 (f := a0) (many := a0.big + 1) (.inr (by omega))
  have k2 := values_len2 (f := a1) (many := a1.big + 1) (.inr (by omega))
  obtain ⟨some_, d_some_⟩ : ∃ z : (List Int), z = ((valuesOf a0 (a0.big + 1)) ++ (valuesOf a1 (a1.big + 1))) := ⟨_, rfl⟩
  refine q_set (α := (List Int)) K (er_is (er_cat (er_call2 (er_var rfl h0) (er_add (er_f6 (er_var rfl h0)) er_int) ⟨ok_f, .inr (by omega)⟩) (er_call2 (er_var rfl h1) (er_add (er_f6 (er_var rfl h1)) er_int) ⟨ok_g, .inr (by omega)⟩) (by omega)) d_some_.symm) (fun _ => (.s (.s .z))) (fun v1 H1 e1 r_1 => ?_)
  have h0 := Rep.mono e1 h0
  have h1 := Rep.mono e1 h1
  have E0 := E0.trans e1
  refine q_for K (α := Int) (xs := (sortU some_)) (wk_list (er_sortSet (er_var rfl r_1) (by rw [d_some_, List.length_append]; omega))) (fun pre2 σ' H' => ∃ o2_3 o2_4, σ' = [some x0, some x1, some v1, o2_3, o2_4] ∧ Ey H1 H' ∧ (∀ x_ ∈ pre2, ∀ k_ ∈ keys6, sameAt a0 a1 x_ k_) ∧ Ex H H') (fun H1 e1 => ⟨_, _, rfl, e1.y, (fun _ h => nomatch h), E0.trans e1⟩) (fun L2 pre2 y2 post2 v2 σ' A2 B2 b2 hx2 p2 pp2 c2 r2 => ?_) (fun σ' Z2 z2 pp2 => ?_)
  · obtain ⟨o2_3, o2_4, rfl, q2, ip2_0, E0⟩ := pp2
    have hm2 : y2 ∈ (sortU some_) := by
      rw [hx2]
      exact List.mem_append_right _ (List.mem_cons_self ..)
    have t2 := p2.trans c2.y
    have g2 := q2.trans c2.y
    have h0 := Rep.moY g2 h0
    have h1 := Rep.moY g2 h1
    have r_1 := Rep.moY g2 r_1
    have E0 := E0.trans c2
    cases r2
    refine g_name1 (.s (.s (.s .z))) ?_
    refine for_wk K (α := Sg) (xs := (sgs ("udUDhe" : Str))) (wk_str er_str) (fun pre3 σ' H' => ∃ o3_4, σ' = [some x0, some x1, some v1, some (V.int y2), o3_4] ∧ Ey B2 H' ∧ (∀ k_ ∈ pre3, sameAt a0 a1 y2 k_) ∧ Ex H H') (fun H1 e1 => ⟨_, rfl, e1.y, (fun _ h => nomatch h), E0.trans e1⟩) (fun L3 pre3 y3 post3 v3 σ' A3 B3 b3 hx3 p3 pp3 c3 r3 => ?_) (fun σ' Z3 z3 pp3 => ?_)
    · obtain ⟨o3_4, rfl, q3, ip3_0, E0⟩ := pp3
      have hm3 : y3 ∈ (sgs ("udUDhe" : Str)) := by
        rw [hx3]
        exact List.mem_append_right _ (List.mem_cons_self ..)
      have t3 := p3.trans c3.y
      have g3 := q3.trans c3.y
      have h0 := Rep.moY g3 h0
      have h1 := Rep.moY g3 h1
      have r_1 := Rep.moY g3 r_1
      have g2 := g2.trans g3
      have t2 := t2.trans g3
      have E0 := E0.trans c3
      have hv3 : v3 = V.str ⟨#[y3.c]⟩ := r3
      subst hv3
      refine g_name1 (.s (.s (.s (.s .z)))) ?_
      have hkx := sgs_keys.mp hm3
      refine l_if0 K (b := (!decide ((pressKey a0 y2 y3.c) = (pressKey a1 y2 y3.c)))) (et_t (er_neI (er_call3 (er_var rfl h0) (er_varI rfl) (er_var (x := y3) rfl rfl) ⟨ok_f.fl, hkx⟩) (er_call3 (er_var rfl h1) (er_varI rfl) (er_var (x := y3) rfl rfl) ⟨ok_g.fl, hkx⟩))) (fun c4 H4 e4 => ?_) (fun c4 H4 e4 => ?_)
      · skip
        have h0 := Rep.mono e4 h0
        have h1 := Rep.mono e4 h1
        have r_1 := Rep.mono e4 r_1
        have g2 := g2.trans e4.y
        have t2 := t2.trans e4.y
        have g3 := g3.trans e4.y
        have t3 := t3.trans e4.y
        have E0 := E0.trans e4
        have hcond := c4
        refine l_ret (α := (Option (Int × Sg))) K (er_some (er_tup2 (er_varI rfl) (er_var (x := y3) rfl rfl))) (fun v5 H5 e5 r5 => q v5 H5 (E0.trans e5) ?_)
        refine (congrArg (Rep.rel K H5 v5) (?_ : ((some (y2, y3)) : (Option (Int × Sg))) = _)).mp r5
        exact (part_go1 hx3 hx2 ip2_0 ip3_0 (of_decide_eq_false (nb_t hcond))).trans (by rw [d_some_]; rfl)
      · skip
        have h0 := Rep.mono e4 h0
        have h1 := Rep.mono e4 h1
        have r_1 := Rep.mono e4 r_1
        have g2 := g2.trans e4.y
        have t2 := t2.trans e4.y
        have g3 := g3.trans e4.y
        have t3 := t3.trans e4.y
        have E0 := E0.trans e4
        have hcond := c4
        exact ⟨t3, _, rfl, g3, fun x hx => by
          rcases List.mem_append.mp hx with z | z
          · exact ip3_0 x z
          · rw [List.mem_singleton.mp z]; exact of_decide_eq_true (nb_f hcond), E0⟩
    obtain ⟨o3_4, rfl, q3, ip3_0, E0⟩ := pp3
    have h0 := Rep.moY q3 h0
    have h1 := Rep.moY q3 h1
    have r_1 := Rep.moY q3 r_1
    have g2 := g2.trans q3
    have t2 := t2.trans q3
    exact ⟨t2, _, _, rfl, g2, fun x hx => by
      rcases List.mem_append.mp hx with z | z
      · exact ip2_0 x z
      · rw [List.mem_singleton.mp z]; exact ip3_0, E0⟩
  obtain ⟨o2_3, o2_4, rfl, q2, ip2_0, E0⟩ := pp2
  have h0 := Rep.moY q2 h0
  have h1 := Rep.moY q2 h1
  have r_1 := Rep.moY q2 r_1
  refine l_ret (α := (Option (Int × Sg))) K (er_noneO (α := (Int × Sg))) (fun v6 H6 e6 r6 => q v6 H6 (E0.trans e6) ?_)
  refine (congrArg (Rep.rel K H6 v6) (?_ : ((none : Option (Int × Sg)) : (Option (Int × Sg))) = _)).mp r6
  exact (firstVal_none.mpr ip2_0).symm.trans (by rw [d_some_]; rfl)
abbrev s_parting : Stmt := topS 23
theorem sc_parting : FnScope ["one", "other"] ["one", "other"] (defScope s_parting) := ⟨rfl, rfl, rfl, by decide +kernel, rfl, by decide +kernel, by decide +kernel⟩
abbrev SP_parting (K : PySem.W.Frag) : Sp := sp2 (α := Fld) (β := Fld) (δ := (Option (Int × Sg))) K (fun o_ p_ => FOk o_ ∧ FOk p_ ∧ p_.low = o_.low ∧ p_.high = o_.high) (fun o_ p_ => partOf o_ p_)
theorem ok_parting {P : Program} {w : World} {K : PySem.W.Frag} {mg : Str → Option Value} {base : Heap} (T : Top K mg) {f_need_both : Addr} {fd_need_both : FuncData} (C_need_both : Cal P w K mg base CX0 4 "need_both" ["one", "other"] (SP_need_both K) f_need_both fd_need_both) {f_parting_of : Addr} {fd_parting_of : FuncData} (C_parting_of : Cal P w K mg base CX0 3 "parting_of" ["one", "other"] (SP_parting_of K) f_parting_of fd_parting_of) {f : Addr} {fd : FuncData} (F : FnP K "parting" s_parting f fd) : FnOk P w K mg base CX0 5 f fd ["one", "other"] (SP_parting K) := by
  refine ok2 F sc_parting rfl (fun x0 x1 => [some x0, some x1]) (fun _ _ => rfl) (fun H Q x0 x1 a0 a1 h0 h1 hp q cdv A outer s E hr => ⟨_, PSs.nox (pss_cons (ps_expr (pe_call C_need_both.ok (hr.mono (by decide)) (by rfl) C_need_both.mg C_need_both.kp C_need_both.bd .nil pass0 (pa_cons (pv 0) (pa_cons (pv 1) pa_nil))))
      (pss_one (ps_ret (pe_call C_parting_of.ok (hr.mono (by decide)) (by rfl) C_parting_of.mg C_parting_of.kp C_parting_of.bd .nil pass0 (pa_cons (pv 0) (pa_cons (pv 1) pa_nil)))))), ?_⟩)
  have E0 : Ex H H := Ex.refl H
  obtain ⟨ok_f, ok_g, e_l, e_h⟩ := hp
  refine q_drop (α := Unit) K (er_call2 (er_var rfl h0) (er_var rfl h1) (by walk_at "sd")) (fun H1 e1 => ?_)
  have h0 := Rep.mono e1 h0
  have h1 := Rep.mono e1 h1
  have E0 := E0.trans e1
  refine l_ret (α := (Option (Int × Sg))) K (er_call2 (er_var rfl h0) (er_var rfl h1) (by walk_at "sd")) (fun v2 H2 e2 r2 => q v2 H2 (E0.trans e2) ?_)
  refine (congrArg (Rep.rel K H2 v2) (?_ : ((partOf a0 a1) : (Option (Int × Sg))) = _)).mp r2
  rfl
abbrev s_alike : Stmt := topS 24
theorem sc_alike : FnScope ["one", "other"] ["one", "other"] (defScope s_alike) := ⟨rfl, rfl, rfl, by decide +kernel, rfl, by decide +kernel, by decide +kernel⟩
abbrev SP_alike (K : PySem.W.Frag) : Sp := sp2 (α := Fld) (β := Fld) (δ := Bool) K (fun o_ p_ => FOk o_ ∧ FOk p_ ∧ p_.low = o_.low ∧ p_.high = o_.high) (fun o_ p_ => (partOf o_ p_).isNone)
theorem ok_alike {P : Program} {w : World} {K : PySem.W.Frag} {mg : Str → Option Value} {base : Heap} (T : Top K mg) {f_need_both : Addr} {fd_need_both : FuncData} (C_need_both : Cal P w K mg base CX0 4 "need_both" ["one", "other"] (SP_need_both K) f_need_both fd_need_both) {f_parting_of : Addr} {fd_parting_of : FuncData} (C_parting_of : Cal P w K mg base CX0 3 "parting_of" ["one", "other"] (SP_parting_of K) f_parting_of fd_parting_of) {f : Addr} {fd : FuncData} (F : FnP K "alike" s_alike f fd) : FnOk P w K mg base CX0 5 f fd ["one", "other"] (SP_alike K) := by
  refine ok2 F sc_alike rfl (fun x0 x1 => [some x0, some x1]) (fun _ _ => rfl) (fun H Q x0 x1 a0 a1 h0 h1 hp q cdv A outer s E hr => ⟨_, PSs.nox (pss_cons (ps_expr (pe_call C_need_both.ok (hr.mono (by decide)) (by rfl) C_need_both.mg C_need_both.kp C_need_both.bd .nil pass0 (pa_cons (pv 0) (pa_cons (pv 1) pa_nil))))
      (pss_one (ps_ret (pe_cmpR op_isN1 (pe_call C_parting_of.ok (hr.mono (by decide)) (by rfl) C_parting_of.mg C_parting_of.kp C_parting_of.bd .nil pass0 (pa_cons (pv 0) (pa_cons (pv 1) pa_nil))) pe_non (nomark _))))), ?_⟩)
  have E0 : Ex H H := Ex.refl H
  obtain ⟨ok_f, ok_g, e_l, e_h⟩ := hp
  refine q_drop (α := Unit) K (er_call2 (er_var rfl h0) (er_var rfl h1) (by walk_at "sd")) (fun H1 e1 => ?_)
  have h0 := Rep.mono e1 h0
  have h1 := Rep.mono e1 h1
  have E0 := E0.trans e1
  refine l_ret (α := Bool) K (er_isNone (er_call2 (er_var rfl h0) (er_var rfl h1) (by walk_at "sd"))) (fun v2 H2 e2 r2 => q v2 H2 (E0.trans e2) ?_)
  refine (congrArg (Rep.rel K H2 v2) (?_ : (((partOf a0 a1).isNone) : Bool) = _)).mp r2
  rfl
abbrev s_L_spots : Stmt := topS 35
theorem sc_L_spots : FnScope ["_law_one", "_law_other", "_law_found", "_law_field_here", "_law_low", "_law_high", "_law_step", "_law_base", "_law_many", "_law_end", "_law_place", "_law_spot"] ["_law_one", "_law_other"] (defScope s_L_spots) := ⟨rfl, rfl, rfl, by decide +kernel, rfl, by decide +kernel, by decide +kernel⟩
abbrev SP_L_spots (K : PySem.W.Frag) : Sp := spn2 (α := Fld) (β := Fld) (δ := List Int) K (fun f_ g_ => FOk f_ ∧ FOk g_) (fun f_ g_ z_ => z_.length ≤ 300 ∧ ∀ x_ ∈ z_, f_.low ≤ x_ ∧ x_ ≤ f_.high)
theorem ok_L_spots {P : Program} {w : World} {K : PySem.W.Frag} {mg : Str → Option Value} {base : Heap} (T : Top K mg) {f : Addr} {fd : FuncData} (F : FnP K "_law_spots" s_L_spots f fd) : FnOk P w K mg base CX0 1 f fd ["_law_one", "_law_other"] (SP_L_spots K) := by
  refine okn2 F sc_L_spots rfl (fun x0 x1 => [some x0, some x1, none, none, none, none, none, none, none, none, none, none]) (fun _ _ => rfl) (fun H Q x0 x1 a0 a1 h0 h1 hp q cdv A outer s E hr => ⟨_, PSs.nox (pss_cons (ps_set (i := 2) sc_L_spots.nd rfl (.inl rfl) (pe_lst pa_nil))
      (pss_cons (ps_for PassesOwn.never rfl (pi_list (pe_lst (pa_cons (pv 0) (pa_cons (pv 1) pa_nil)))) (pg_name (i := 3) sc_L_spots.nd rfl (.inl rfl)) (pss_cons (ps_asg (pe_slice sl_tup (pv 3) po_none (po_some pe_int)) (pg_tup rfl (pgs_cons (pg_name (i := 4) sc_L_spots.nd rfl (.inl rfl)) (pgs_cons (pg_name (i := 5) sc_L_spots.nd rfl (.inl rfl)) (pgs_cons (pg_name (i := 6) sc_L_spots.nd rfl (.inl rfl)) (pgs_cons (pg_name (i := 7) sc_L_spots.nd rfl (.inl rfl)) pgs_nil))))))
      (pss_one (ps_for PassesOwn.never rfl (pi_list (pe_lst (pa_cons pe_int (pa_cons pe_int (pa_cons pe_int (pa_cons (pe_ix ix_tup (pv 3) pe_int (fun _ _ => rfl)) (pa_cons (pe_op op_add (pe_ix ix_tup (pv 3) pe_int (fun _ _ => rfl)) pe_int) pa_nil))))))) (pg_name (i := 8) sc_L_spots.nd rfl (.inl rfl)) (pss_one (ps_for PassesOwn.never rfl (pi_list (pe_lst (pa_cons (pe_op op_add (pv 4) (pe_op op_mul (pv 8) (pv 6))) (pa_cons (pe_op op_sub (pv 5) (pe_op op_mul (pv 8) (pv 6))) pa_nil)))) (pg_name (i := 9) sc_L_spots.nd rfl (.inl rfl)) (pss_cons (ps_set (i := 10) sc_L_spots.nd rfl (.inl rfl) (pe_op op_add (pv 7) (pe_op op_mul (pe_op op_fdivW (pe_op op_sub (pv 9) (pv 7)) (pv 6)) (pv 6))))
      (pss_one (ps_for PassesOwn.never rfl (pi_list (pe_lst (pa_cons (pv 9) (pa_cons (pv 10) (pa_cons (pe_op op_add (pv 10) (pv 6)) (pa_cons (pe_op op_add (pv 10) (pe_op op_fdivW (pv 6) pe_int)) (pa_cons (pe_op op_add (pv 10) (pe_op op_fdivW (pe_op op_add (pv 6) pe_int) pe_int)) pa_nil))))))) (pg_name (i := 11) sc_L_spots.nd rfl (.inl rfl)) (pss_one (ps_set (i := 2) sc_L_spots.nd rfl (.inl rfl) (pe_op op_cat (pv 2) (pe_lst (pa_cons (pe_op op_sub (pv 11) pe_int) (pa_cons (pv 11) (pa_cons (pe_op op_add (pv 11) pe_int) pa_nil))))))))))))))))
      (pss_one (ps_ret (pe_lc (own := [("_law_spot", 11)]) (g := gName 11)  rfl sc_L_spots.nd (pi_list (pv 2)) (blkOk_by (own := [("_law_spot", 11)]) (N := ["_law_one", "_law_other", "_law_found", "_law_field_here", "_law_low", "_law_high", "_law_step", "_law_base", "_law_many", "_law_end", "_law_place", "_law_spot"]) (sc := defScope s_L_spots) (by decide +kernel)) (fun _ _ _ _ _ => (pg_name (i := 11) sc_L_spots.nd rfl (.inl rfl))) (fun _ _ _ _ _ => (pts_one (pt_chain op_le op_le (pe_ix (show IxR _ (rIxT K) from ix_tup) (pv 0) pe_int (fun _ _ => rfl)) (pv 11) (pe_ix (show IxR _ (rIxT K) from ix_tup) (pv 0) pe_int (fun _ _ => rfl))))) (fun _ _ _ _ _ => (pv 11))))))), ?_⟩)
  have E0 : Ex H H := Ex.refl H
  obtain ⟨ok_f, ok_g⟩ := hp
  refine q_set (α := (List Int)) K (er_lst eas_nil (Nat.le_of_ble_eq_true rfl)) (fun _ => (.s (.s .z))) (fun v1 H1 e1 r_1 => ?_)
  have h0 := Rep.mono e1 h0
  have h1 := Rep.mono e1 h1
  have E0 := E0.trans e1
  refine q_for K (α := Fld) (xs := ([a0, a1] : List Fld)) (wk_list (er_lst (eas_cons (er_var rfl h0) (eas_cons (er_var rfl h1) eas_nil)) (Nat.le_of_ble_eq_true rfl))) (fun pre2 σ' H' => ∃ o2_3 o2_4 o2_5 o2_6 o2_7 o2_8 o2_9 o2_10 o2_11, ∃ (w_found : V), ∃ (found : (List Int)), σ' = [some x0, some x1, some w_found, o2_3, o2_4, o2_5, o2_6, o2_7, o2_8, o2_9, o2_10, o2_11] ∧ Ey H1 H' ∧ (Rep.rel K H' w_found found ∧ (found.length ≤ 150 * pre2.length)) ∧ Ex H H') (fun H1 e1 => ⟨_, _, _, _, _, _, _, _, _, _, ([] : List Int), rfl, e1.y, ⟨(Rep.mono e1 r_1), Nat.zero_le _⟩, E0.trans e1⟩) (fun L2 pre2 y2 post2 v2 σ' A2 B2 b2 hx2 p2 pp2 c2 r2 => ?_) (fun σ' Z2 z2 pp2 => ?_)
  · obtain ⟨o2_3, o2_4, o2_5, o2_6, o2_7, o2_8, o2_9, o2_10, o2_11, w_found, found, rfl, q2, ⟨r_found, i_found⟩, E0⟩ := pp2
    have hm2 : y2 ∈ ([a0, a1] : List Fld) := by
      rw [hx2]
      exact List.mem_append_right _ (List.mem_cons_self ..)
    have t2 := p2.trans c2.y
    have g2 := q2.trans c2.y
    have h0 := Rep.moY g2 h0
    have h1 := Rep.moY g2 h1
    have E0 := E0.trans c2
    have r_found := Rep.mono c2 r_found
    refine g_name1 (.s (.s (.s .z))) ?_
    have oky : FOk y2 := (List.mem_cons.mp hm2).elim (fun h => h ▸ ok_f) (fun h => (List.mem_singleton.mp h) ▸ ok_g)
    have bdy := oky.fl
    unfold FL LOK at bdy
    have s0y := oky.s0
    have s1y := oky.s1
    have g0y := oky.g0
    have g1y := oky.g1
    refine q_unp (lo := none) (hi := (some 4)) (er_var rfl r2) (fun _ _ h => h) (fun _ _ h => ⟨4, rfl, h⟩) (by decide) rfl rfl (fun H3 e3 => ?_)
    have h0 := Rep.mono e3 h0
    have h1 := Rep.mono e3 h1
    have r_found := Rep.mono e3 r_found
    have r2 := Rep.mono e3 r2
    have g2 := g2.trans e3.y
    have t2 := t2.trans e3.y
    have E0 := E0.trans e3
    refine (g_cons (.s (.s (.s (.s .z)))) (g_cons (.s (.s (.s (.s (.s .z))))) (g_cons (.s (.s (.s (.s (.s (.s .z)))))) (g_cons (.s (.s (.s (.s (.s (.s (.s .z))))))) (g_nil ?_)))))
    refine for_wk K (α := Int) (xs := ([0, 1, 2, y2.big, (y2.big + 1)] : List Int)) (wk_list (er_lst (eas_cons er_int (eas_cons er_int (eas_cons er_int (eas_cons (er_f6 (er_var rfl r2)) (eas_cons (er_add (er_f6 (er_var rfl r2)) er_int) eas_nil))))) (Nat.le_of_ble_eq_true rfl))) (fun pre4 σ' H' => ∃ o4_8 o4_9 o4_10 o4_11, ∃ (w_found1 : V), ∃ (found1 : (List Int)), σ' = [some x0, some x1, some w_found1, some v2, some (V.int y2.low), some (V.int y2.high), some (V.int y2.step), some (V.int y2.base), o4_8, o4_9, o4_10, o4_11] ∧ Ey H3 H' ∧ (Rep.rel K H' w_found1 found1 ∧ (found1.length ≤ found.length + 30 * pre4.length)) ∧ Ex H H') (fun H1 e1 => ⟨_, _, _, _, _, found, rfl, e1.y, ⟨(Rep.mono e1 r_found), Nat.le_add_right ..⟩, E0.trans e1⟩) (fun L4 pre4 y4 post4 v4 σ' A4 B4 b4 hx4 p4 pp4 c4 r4 => ?_) (fun σ' Z4 z4 pp4 => ?_)
    · obtain ⟨o4_8, o4_9, o4_10, o4_11, w_found1, found1, rfl, q4, ⟨r_found1, i_found1⟩, E0⟩ := pp4
      have hm4 : y4 ∈ ([0, 1, 2, y2.big, (y2.big + 1)] : List Int) := by
        rw [hx4]
        exact List.mem_append_right _ (List.mem_cons_self ..)
      have t4 := p4.trans c4.y
      have g4 := q4.trans c4.y
      have h0 := Rep.moY g4 h0
      have h1 := Rep.moY g4 h1
      have r2 := Rep.moY g4 r2
      have g2 := g2.trans g4
      have t2 := t2.trans g4
      have E0 := E0.trans c4
      have r_found1 := Rep.mono c4 r_found1
      cases r4
      refine g_name1 (.s (.s (.s (.s (.s (.s (.s (.s .z)))))))) ?_
      have hmy : 0 ≤ y4 ∧ y4 ≤ 13 := by
        simp only [List.mem_cons, List.not_mem_nil, or_false] at hm4
        omega
      refine for_wk K (α := Int) (xs := ([(y2.low + (y4 * y2.step)), (y2.high - (y4 * y2.step))] : List Int)) (wk_list (er_lst (eas_cons (er_add (er_varI rfl) (er_mul (er_varI rfl) (er_varI rfl) (.inl (by constructor <;> omega)))) (eas_cons (er_sub (er_varI rfl) (er_mul (er_varI rfl) (er_varI rfl) (.inl (by constructor <;> omega)))) eas_nil)) (Nat.le_of_ble_eq_true rfl))) (fun pre5 σ' H' => ∃ o5_9 o5_10 o5_11, ∃ (w_found2 : V), ∃ (found2 : (List Int)), σ' = [some x0, some x1, some w_found2, some v2, some (V.int y2.low), some (V.int y2.high), some (V.int y2.step), some (V.int y2.base), some (V.int y4), o5_9, o5_10, o5_11] ∧ Ey B4 H' ∧ (Rep.rel K H' w_found2 found2 ∧ (found2.length ≤ found1.length + 15 * pre5.length)) ∧ Ex H H') (fun H1 e1 => ⟨_, _, _, _, found1, rfl, e1.y, ⟨(Rep.mono e1 r_found1), Nat.le_add_right ..⟩, E0.trans e1⟩) (fun L5 pre5 y5 post5 v5 σ' A5 B5 b5 hx5 p5 pp5 c5 r5 => ?_) (fun σ' Z5 z5 pp5 => ?_)
      · obtain ⟨o5_9, o5_10, o5_11, w_found2, found2, rfl, q5, ⟨r_found2, i_found2⟩, E0⟩ := pp5
        have hm5 : y5 ∈ ([(y2.low + (y4 * y2.step)), (y2.high - (y4 * y2.step))] : List Int) := by
          rw [hx5]
          exact List.mem_append_right _ (List.mem_cons_self ..)
        have t5 := p5.trans c5.y
        have g5 := q5.trans c5.y
        have h0 := Rep.moY g5 h0
        have h1 := Rep.moY g5 h1
        have r2 := Rep.moY g5 r2
        have g2 := g2.trans g5
        have t2 := t2.trans g5
        have g4 := g4.trans g5
        have t4 := t4.trans g5
        have E0 := E0.trans c5
        have r_found2 := Rep.mono c5 r_found2
        cases r5
        refine g_name1 (.s (.s (.s (.s (.s (.s (.s (.s (.s .z))))))))) ?_
        have hml := Int.mul_le_mul_of_nonneg_right hmy.2 (show 0 ≤ y2.step by omega)
        have hm0 : 0 ≤ y4 * y2.step := Int.mul_nonneg hmy.1 (by omega)
        have hy3 : -20000000000000 ≤ y5 ∧ y5 ≤ 20000000000000 := by
          simp only [List.mem_cons, List.not_mem_nil, or_false] at hm5
          omega
        have hda := div_abs (x := y5 - y2.base) s0y
        obtain ⟨place, d_place⟩ : ∃ z : Int, z = (y2.base + (((y5 - y2.base) / y2.step) * y2.step)) := ⟨_, rfl⟩
        refine q_setI K (er_is (er_add (er_varI rfl) (er_mul (er_div (er_sub (er_varI rfl) (er_varI rfl)) (er_varI rfl) (cdivw (by omega) (by omega))) (er_varI rfl) (.inl (by constructor <;> omega)))) d_place.symm) (fun _ => (.s (.s (.s (.s (.s (.s (.s (.s (.s (.s .z))))))))))) (fun H6 e6 => ?_)
        have h0 := Rep.mono e6 h0
        have h1 := Rep.mono e6 h1
        have r2 := Rep.mono e6 r2
        have r_found2 := Rep.mono e6 r_found2
        have g2 := g2.trans e6.y
        have t2 := t2.trans e6.y
        have g4 := g4.trans e6.y
        have t4 := t4.trans e6.y
        have g5 := g5.trans e6.y
        have t5 := t5.trans e6.y
        have E0 := E0.trans e6
        refine for_wk K (α := Int) (xs := ([y5, place, (place + y2.step), (place + (y2.step / 2)), (place + ((y2.step + 1) / 2))] : List Int)) (wk_list (er_lst (eas_cons (er_varI rfl) (eas_cons (er_varI rfl) (eas_cons (er_add (er_varI rfl) (er_varI rfl)) (eas_cons (er_add (er_varI rfl) (er_div (er_varI rfl) er_int (cdivw (by omega) (by omega)))) (eas_cons (er_add (er_varI rfl) (er_div (er_add (er_varI rfl) er_int) er_int (cdivw (by omega) (by omega)))) eas_nil))))) (Nat.le_of_ble_eq_true rfl))) (fun pre7 σ' H' => ∃ o7_11, ∃ (w_found3 : V), ∃ (found3 : (List Int)), σ' = [some x0, some x1, some w_found3, some v2, some (V.int y2.low), some (V.int y2.high), some (V.int y2.step), some (V.int y2.base), some (V.int y4), some (V.int y5), some (V.int place), o7_11] ∧ Ey H6 H' ∧ (Rep.rel K H' w_found3 found3 ∧ (found3.length ≤ found2.length + 3 * pre7.length)) ∧ Ex H H') (fun H1 e1 => ⟨_, _, found2, rfl, e1.y, ⟨(Rep.mono e1 r_found2), Nat.le_add_right ..⟩, E0.trans e1⟩) (fun L7 pre7 y7 post7 v7 σ' A7 B7 b7 hx7 p7 pp7 c7 r7 => ?_) (fun σ' Z7 z7 pp7 => ?_)
        · obtain ⟨o7_11, w_found3, found3, rfl, q7, ⟨r_found3, i_found3⟩, E0⟩ := pp7
          have hm7 : y7 ∈ ([y5, place, (place + y2.step), (place + (y2.step / 2)), (place + ((y2.step + 1) / 2))] : List Int) := by
            rw [hx7]
            exact List.mem_append_right _ (List.mem_cons_self ..)
          have t7 := p7.trans c7.y
          have g7 := q7.trans c7.y
          have h0 := Rep.moY g7 h0
          have h1 := Rep.moY g7 h1
          have r2 := Rep.moY g7 r2
          have g2 := g2.trans g7
          have t2 := t2.trans g7
          have g4 := g4.trans g7
          have t4 := t4.trans g7
          have g5 := g5.trans g7
          have t5 := t5.trans g7
          have E0 := E0.trans c7
          have r_found3 := Rep.mono c7 r_found3
          cases r7
          refine g_name1 (.s (.s (.s (.s (.s (.s (.s (.s (.s (.s (.s .z))))))))))) ?_
          obtain ⟨found4, d_found4⟩ : ∃ z : (List Int), z = (found3 ++ ([(y7 - 1), y7, (y7 + 1)] : List Int)) := ⟨_, rfl⟩
          refine l_set (α := (List Int)) K (er_is (er_cat (er_var rfl r_found3) (er_lst (eas_cons (er_sub (er_varI rfl) er_int) (eas_cons (er_varI rfl) (eas_cons (er_add (er_varI rfl) er_int) eas_nil))) (Nat.le_of_ble_eq_true rfl)) (by have a1 := congrArg List.length hx2; have a2 := congrArg List.length hx4; have a3 := congrArg List.length hx5; have a4 := congrArg List.length hx7; simp only [List.length_append, List.length_cons, List.length_nil] at a1 a2 a3 a4 ⊢; omega)) d_found4.symm) (fun _ => (.s (.s .z))) (fun v8 H8 e8 r_8 => ?_)
          have h0 := Rep.mono e8 h0
          have h1 := Rep.mono e8 h1
          have r2 := Rep.mono e8 r2
          have r_found3 := Rep.mono e8 r_found3
          have g2 := g2.trans e8.y
          have t2 := t2.trans e8.y
          have g4 := g4.trans e8.y
          have t4 := t4.trans e8.y
          have g5 := g5.trans e8.y
          have t5 := t5.trans e8.y
          have g7 := g7.trans e8.y
          have t7 := t7.trans e8.y
          have E0 := E0.trans e8
          exact ⟨t7, _, _, found4, rfl, g7, ⟨r_8, by rw [d_found4]; simp only [List.length_append, List.length_cons, List.length_nil] at i_found3 ⊢; omega⟩, E0⟩
        obtain ⟨o7_11, w_found3, found3, rfl, q7, ⟨r_found3, i_found3⟩, E0⟩ := pp7
        have h0 := Rep.moY q7 h0
        have h1 := Rep.moY q7 h1
        have r2 := Rep.moY q7 r2
        have g2 := g2.trans q7
        have t2 := t2.trans q7
        have g4 := g4.trans q7
        have t4 := t4.trans q7
        have g5 := g5.trans q7
        have t5 := t5.trans q7
        exact ⟨t5, _, _, _, _, found3, rfl, g5, ⟨r_found3, by simp only [List.length_append, List.length_cons, List.length_nil] at i_found3 ⊢; omega⟩, E0⟩
      obtain ⟨o5_9, o5_10, o5_11, w_found2, found2, rfl, q5, ⟨r_found2, i_found2⟩, E0⟩ := pp5
      have h0 := Rep.moY q5 h0
      have h1 := Rep.moY q5 h1
      have r2 := Rep.moY q5 r2
      have g2 := g2.trans q5
      have t2 := t2.trans q5
      have g4 := g4.trans q5
      have t4 := t4.trans q5
      exact ⟨t4, _, _, _, _, _, found2, rfl, g4, ⟨r_found2, by simp only [List.length_append, List.length_cons, List.length_nil] at i_found2 ⊢; omega⟩, E0⟩
    obtain ⟨o4_8, o4_9, o4_10, o4_11, w_found1, found1, rfl, q4, ⟨r_found1, i_found1⟩, E0⟩ := pp4
    have h0 := Rep.moY q4 h0
    have h1 := Rep.moY q4 h1
    have r2 := Rep.moY q4 r2
    have g2 := g2.trans q4
    have t2 := t2.trans q4
    exact ⟨t2, _, _, _, _, _, _, _, _, _, _, found1, rfl, g2, ⟨r_found1, by simp only [List.length_append, List.length_cons, List.length_nil] at i_found1 ⊢; omega⟩, E0⟩
  obtain ⟨o2_3, o2_4, o2_5, o2_6, o2_7, o2_8, o2_9, o2_10, o2_11, w_found, found, rfl, q2, ⟨r_found, i_found⟩, E0⟩ := pp2
  have h0 := Rep.moY q2 h0
  have h1 := Rep.moY q2 h1
  refine l_ret (α := (List Int)) K (er_lc (fun spot : Int => ((decide (a0.low ≤ spot)) && (decide (spot ≤ a0.high)))) (fun spot : Int => spot) (wk_list (er_var rfl r_found)) (by simp only [List.length_cons, List.length_nil] at i_found; omega) (fun spot w10 H10 hx10 e10 r10 Q10 q10 => gn_ok (s0 := [some x0, some x1, some w_found, o2_3, o2_4, o2_5, o2_6, o2_7, o2_8, o2_9, o2_10, none]) (s1 := fun w10 => [some x0, some x1, some w_found, o2_3, o2_4, o2_5, o2_6, o2_7, o2_8, o2_9, o2_10, some w10]) rfl (.s (.s (.s (.s (.s (.s (.s (.s (.s (.s (.s .z))))))))))) rfl (fun hw => q10 _ H10 (Ex.refl _) hw (et_t (er_chain (r1 := (fun i j => (decide (i ≤ j)))) (r2 := (fun i j => (decide (i ≤ j)))) (er_f0 (er_var rfl (Rep.mono e10 h0))) (er_var rfl r10) (er_f1 (er_var rfl (Rep.mono e10 h0))))) (fun hf => (er_var rfl r10))))) (fun v9 H9 e9 r9 => q _ v9 H9 ?_ (E0.trans e9) r9)
  rw [List.map_id']
  refine ⟨Nat.le_trans (List.length_filter_le ..) (by simp only [List.length_cons, List.length_nil] at i_found; omega), fun x hx => ?_⟩
  obtain ⟨h1, h2⟩ := (Bool.and_eq_true _ _).mp (List.mem_filter.mp hx).2
  exact ⟨of_decide_eq_true h1, of_decide_eq_true h2⟩
abbrev s_L_nearest : Stmt := topS 31
theorem sc_L_nearest : FnScope ["_law_field_here", "_law_value_here", "_law_step", "_law_base", "_law_below"] ["_law_field_here", "_law_value_here"] (defScope s_L_nearest) := ⟨rfl, rfl, rfl, by decide +kernel, rfl, by decide +kernel, by decide +kernel⟩
abbrev SP_L_nearest (K : PySem.W.Frag) : Sp := sp2 (α := Fld) (β := Int) (δ := Int) K (fun f _ => FL f) (lawNearest)
theorem ok_L_nearest {P : Program} {w : World} {K : PySem.W.Frag} {mg : Str → Option Value} {base : Heap} (T : Top K mg) {f : Addr} {fd : FuncData} (F : FnP K "_law_nearest" s_L_nearest f fd) : FnOk P w K mg base CX0 1 f fd ["_law_field_here", "_law_value_here"] (SP_L_nearest K) := by
  refine ok2 F sc_L_nearest rfl (fun x0 x1 => [some x0, some x1, none, none, none]) (fun _ _ => rfl) (fun H Q x0 x1 a0 a1 h0 h1 hp q cdv A outer s E hr => ⟨_, PSs.nox (pss_cons (ps_asg (pe_slice sl_tup (pv 0) (po_some pe_int) (po_some pe_int)) (pg_tup rfl (pgs_cons (pg_name (i := 2) sc_L_nearest.nd rfl (.inl rfl)) (pgs_cons (pg_name (i := 3) sc_L_nearest.nd rfl (.inl rfl)) pgs_nil))))
      (pss_cons (ps_set (i := 4) sc_L_nearest.nd rfl (.inl rfl) (pe_op op_add (pv 3) (pe_op op_mul (pe_op op_fdivW (pe_op op_sub (pv 1) (pv 3)) (pv 2)) (pv 2))))
      (pss_one (ps_ret (pe_ifExp (pt_cmpR op_lt (pe_op op_mul pe_int (pe_op op_sub (pv 1) (pv 4))) (pv 2) (nomark _)) (pv 4) (pe_op op_add (pv 4) (pv 2))))))), ?_⟩)
  cases h1
  obtain ⟨l0, lh, hh1, s0, s1, b0, b1⟩ := hp
  refine q_unp (lo := (some 2)) (hi := (some 4)) (er_var rfl h0) (fun _ _ h => ⟨2, rfl, h⟩) (fun _ _ h => ⟨4, rfl, h⟩) (by decide) rfl rfl (fun H1 e1 => ?_)
  refine (g_cons (.s (.s .z)) (g_cons (.s (.s (.s .z))) (g_nil ?_)))
  refine q_setI K (er_add (er_varI rfl) (er_mul (er_div (er_sub (er_varI rfl) (er_varI rfl)) (er_varI rfl) (cdivw (by omega) (by omega))) (er_varI rfl) (.inr ⟨by omega, by omega⟩))) (fun _ => (.s (.s (.s (.s .z))))) (fun H2 e2 => ?_)
  refine l_ret (α := Int) K (er_if (et_t (er_lt (er_mul er_int (er_sub (er_varI rfl) (er_varI rfl)) (.inl ⟨by omega, by omega⟩)) (er_varI rfl))) (fun _ => er_varI rfl) (fun _ => er_add (er_varI rfl) (er_varI rfl))) (fun v H3 e3 r => q v H3 (e1.trans (e2.trans e3)) ?_)
  refine (congrArg (Rep.rel K H3 v) ?_).mp r
  simp only [lawNearest, decide_eq_true_eq]
abbrev s_L_key : Stmt := topS 32
theorem sc_L_key : FnScope ["_law_field_here", "_law_value_here", "_law_key_here", "_law_low", "_law_high", "_law_step", "_law_base", "_law_off", "_law_ends", "_law_big", "_law_many", "_law_up", "_law_aim", "_law_below", "_law_above"] ["_law_field_here", "_law_value_here", "_law_key_here"] (defScope s_L_key) := ⟨rfl, rfl, rfl, by decide +kernel, rfl, by decide +kernel, by decide +kernel⟩
abbrev SP_L_key (K : PySem.W.Frag) : Sp := sp3 (α := Fld) (β := Int) (γ := Sg) (δ := Int) K (fun f _ s => FOk f ∧ isKey s.c) (fun f v s => pressKey f v s.c)
theorem ok_L_key {P : Program} {w : World} {K : PySem.W.Frag} {mg : Str → Option Value} {base : Heap} (T : Top K mg) {f_L_nearest : Addr} {fd_L_nearest : FuncData} (C_L_nearest : Cal P w K mg base CX0 1 "_law_nearest" ["_law_field_here", "_law_value_here"] (SP_L_nearest K) f_L_nearest fd_L_nearest) {f : Addr} {fd : FuncData} (F : FnP K "_law_key" s_L_key f fd) : FnOk P w K mg base CX0 2 f fd ["_law_field_here", "_law_value_here", "_law_key_here"] (SP_L_key K) := by
  refine ok3 F sc_L_key rfl (fun x0 x1 x2 => [some x0, some x1, some x2, none, none, none, none, none, none, none, none, none, none, none, none]) (fun _ _ _ => rfl) (fun H Q x0 x1 x2 a0 a1 a2 h0 h1 h2 hp q cdv A outer s E hr => ⟨_, PSs.nox (pss_cons (ps_asg (pv 0) (pg_tup rfl (pgs_cons (pg_name (i := 3) sc_L_key.nd rfl (.inl rfl)) (pgs_cons (pg_name (i := 4) sc_L_key.nd rfl (.inl rfl)) (pgs_cons (pg_name (i := 5) sc_L_key.nd rfl (.inl rfl)) (pgs_cons (pg_name (i := 6) sc_L_key.nd rfl (.inl rfl)) (pgs_cons (pg_name (i := 7) sc_L_key.nd rfl (.inl rfl)) (pgs_cons (pg_name (i := 8) sc_L_key.nd rfl (.inl rfl)) (pgs_cons (pg_name (i := 9) sc_L_key.nd rfl (.inl rfl)) pgs_nil)))))))))
      (pss_cons (ps_if (PW.pt (pw_or (pt_cmpR op_eq (pv 2) pe_str (nomark _)) (pw_or1 (pt_cmpR op_eq (pv 2) pe_str (nomark _))))) (pss_one (ps_ret (pe_ifExp (pt_cmpR op_eq (pv 2) pe_str (nomark _)) (pv 3) (pv 4)))) pss_nil)
      (pss_cons (ps_par (i := 10) (j := 11) rfl sc_L_key.nd rfl rfl (by decide) rfl rfl (pa_cons (pe_ifExp (pt_cmpR op_inS (pv 2) pe_str rfl) (pv 9) pe_int) (pa_cons (pe_cmpR op_inS (pv 2) pe_str rfl) pa_nil)) (by rfl))
      (pss_cons (ps_if (pt_cmpR op_eq (pv 7) pe_str (nomark _)) (pss_one (ps_set (i := 12) sc_L_key.nd rfl (.inl rfl) (pe_ifExp (pt_val (pv 11)) (pe_op op_add (pv 1) (pe_op op_mul (pv 10) (pv 5))) (pe_op op_sub (pv 1) (pe_op op_mul (pv 10) (pv 5)))))) (pss_one (ps_if (pt_cmpR op_eq (pv 7) pe_str (nomark _)) (pss_one (ps_set (i := 12) sc_L_key.nd rfl (.inl rfl) (pe_op op_add (pe_call C_L_nearest.ok (hr.mono (by decide)) (by rfl) C_L_nearest.mg C_L_nearest.kp C_L_nearest.bd .nil pass0 (pa_cons (pv 0) (pa_cons (pv 1) pa_nil))) (pe_ifExp (pt_val (pv 11)) (pe_op op_mul (pv 10) (pv 5)) (pe_op op_sub pe_int (pe_op op_mul (pv 10) (pv 5))))))) (pss_cons (ps_set (i := 13) sc_L_key.nd rfl (.inl rfl) (pe_op op_add (pv 6) (pe_op op_mul (pe_op op_fdivW (pe_op op_sub (pv 1) (pv 6)) (pv 5)) (pv 5))))
      (pss_cons (ps_set (i := 14) sc_L_key.nd rfl (.inl rfl) (pe_ifExp (pt_cmpR op_eq (pv 13) (pv 1) (nomark _)) (pv 13) (pe_op op_add (pv 13) (pv 5))))
      (pss_one (ps_set (i := 12) sc_L_key.nd rfl (.inl rfl) (pe_ifExp (pt_val (pv 11)) (pe_op op_add (pv 13) (pe_op op_mul (pv 10) (pv 5))) (pe_op op_sub (pv 14) (pe_op op_mul (pv 10) (pv 5)))))))))))
      (pss_cons (ps_if (pt_chain op_le op_le (pv 3) (pv 12) (pv 4)) (pss_one (ps_ret (pv 12))) pss_nil)
      (pss_cons (ps_if (pt_cmpR op_eq (pv 8) pe_str (nomark _)) (pss_one (ps_ret (pv 1))) pss_nil)
      (pss_one (ps_ret (pe_ifExp (pt_cmpR op_eq (pe_cmpR op_gt (pv 12) (pv 4) (nomark _)) (pe_cmpR op_eq (pv 8) pe_str (nomark _)) (nomark _)) (pv 4) (pv 3)))))))))), ?_⟩)
  cases h1
  cases h2
  obtain ⟨c⟩ := a2
  obtain ⟨hf, hk⟩ := hp
  have hf2 := hf.fl
  obtain ⟨l0, lh, hh1, s0, s1, b0, b1, hp_off, hp_ends, g0, g1, _⟩ := hf
  have hs : ∀ {H' : Hp} {a b c2 d e f g h i j k l m n : Option V}, ER K (tVar 2) [a, b, some (V.str ⟨#[c]⟩), c2, d, e, f, g, h, i, j, k, l, m, n] H' (Sg.mk c) := er_var rfl rfl
  refine q_unpF rfl (er_var rfl h0) (fun H1 e1 => ?_)
  refine (g_cons (.s (.s (.s .z))) (g_cons (.s (.s (.s (.s .z)))) (g_cons (.s (.s (.s (.s (.s .z))))) (g_cons (.s (.s (.s (.s (.s (.s .z)))))) (g_cons (.s (.s (.s (.s (.s (.s (.s .z))))))) (g_cons (.s (.s (.s (.s (.s (.s (.s (.s .z)))))))) (g_cons (.s (.s (.s (.s (.s (.s (.s (.s (.s .z))))))))) (g_nil ?_))))))))
  refine q_if0 K (ett_or (et_t (er_eqS (er_sg hs) er_str)) (fun _ => et_t (er_eqS (er_sg hs) er_str))) (fun c2 H2 e2 => ?_) (fun c2 H2 e2 => ?_)
  · have hc : c = 104 ∨ c = 101 := by
      simp only [Bool.or_eq_true, decide_eq_true_eq] at c2
      exact c2.imp sg_eq.mp sg_eq.mp
    refine l_ret (α := Int) K (er_if (et_t (er_eqS (er_sg hs) er_str)) (fun _ => er_varI rfl) (fun _ => er_varI rfl)) (fun v H3 e3 r => q v H3 (e1.trans (e2.trans e3)) ?_)
    refine (congrArg (Rep.rel K H3 v) ?_).mp r
    rcases hc with z | z <;> (subst z; rfl)
  have hc : ¬ (c = 104 ∨ c = 101) := by
    rw [← Bool.not_eq_true] at c2
    simp only [Bool.or_eq_true, decide_eq_true_eq] at c2
    exact fun z => c2 (z.imp sg_eq.mpr sg_eq.mpr)
  have hm : isMove c := by
    rcases hk with z | z | z | z | z | z
    · exact .inl z
    · exact .inr (.inl z)
    · exact .inr (.inr (.inl z))
    · exact .inr (.inr (.inr z))
    · exact absurd (.inl z) hc
    · exact absurd (.inr z) hc
  obtain ⟨many, up, hmany, hup, hms, hmb⟩ : ∃ (many : Int) (up : Bool), (if decide (c ∈ ("UD" : Str).cps.toList) = true then a0.big else 1) = many ∧ decide (c ∈ ("uU" : Str).cps.toList) = up ∧ manySteps a0 c = (if up = true then many else -many) ∧ 1 ≤ many ∧ many ≤ 12 := by
    rcases hm with z | z | z | z <;> subst z
    · exact ⟨1, true, rfl, rfl, rfl, by omega, by omega⟩
    · exact ⟨1, false, rfl, rfl, rfl, by omega, by omega⟩
    · exact ⟨a0.big, true, rfl, rfl, rfl, by omega, by omega⟩
    · exact ⟨a0.big, false, rfl, rfl, rfl, by omega, by omega⟩
  refine q_par (α := Int) (β := Bool) (x := many) (y := up) K (er_is (er_if (et_t (er_inS hs er_str)) (fun _ => er_varI rfl) (fun _ => er_int)) hmany) (fun H3a e3a => er_is (er_inS hs er_str) hup) (fun _ _ => (.s (.s (.s (.s (.s (.s (.s (.s (.s (.s .z))))))))))) (fun _ _ => (.s (.s (.s (.s (.s (.s (.s (.s (.s (.s (.s .z)))))))))))) (fun v3a v3b H3 e3 r3a r3b => ?_)
  cases r3a
  cases r3b
  have e03 := (e1.trans e2).trans e3
  have hpk : pressKey a0 a1 c = (if a0.low ≤ aimOf a0 a1 (manySteps a0 c) ∧ aimOf a0 a1 (manySteps a0 c) ≤ a0.high then aimOf a0 a1 (manySteps a0 c)
      else if a0.ends = "stay" then a1 else if a0.ends = "round" then (if aimOf a0 a1 (manySteps a0 c) > a0.high then a0.low else a0.high) else (if aimOf a0 a1 (manySteps a0 c) > a0.high then a0.high else a0.low)) := by
    unfold pressKey
    rw [if_neg (fun z => hc (.inl z)), if_neg (fun z => hc (.inr z))]
  refine q_ifJ K (P := fun b => b = decide (a0.off = "add")) (fun σ' H' => ∃ (o1 o2 : Option V), σ' = [some x0, some (.int a1), some (.str ⟨#[c]⟩), some (.int a0.low), some (.int a0.high), some (.int a0.step), some (.int a0.base), some (.str a0.off), some (.str a0.ends), some (.int a0.big), some (.int many), some (.bl up), some (.int (aimOf a0 a1 (manySteps a0 c))), o1, o2] ∧ Ex H H') ?cont
    (etn_of (et_t (er_eqS (er_varS rfl) er_str)) rfl) ?c1 ?c2
  case c1 =>
    intro D2 hW hb H4 e4
    have hoff : a0.off = "add" := of_decide_eq_true hb.symm
    refine l_set (α := Int) K (er_if (et_b (er_varB rfl)) (fun _ => er_add (er_varI rfl) (er_mul (er_varI rfl) (er_varI rfl) (.inl ⟨by omega, by omega⟩))) (fun _ => er_sub (er_varI rfl) (er_mul (er_varI rfl) (er_varI rfl) (.inl ⟨by omega, by omega⟩)))) (fun _ => (.s (.s (.s (.s (.s (.s (.s (.s (.s (.s (.s (.s .z))))))))))))) (fun v H5 e5 r => ?_)
    cases r
    have e : (if up = true then a1 + many * a0.step else a1 - many * a0.step) = aimOf a0 a1 (manySteps a0 c) := by
      unfold aimOf
      rw [if_pos hoff, hms]
      cases up with
      | true => rfl
      | false =>
        show a1 - many * a0.step = a1 + -many * a0.step
        rw [Int.neg_mul]
        omega
    rw [e]
    exact hW _ _ ⟨_, _, rfl, (e03.trans e4).trans e5⟩
  case c2 =>
    intro D2 hW hb H4 e4
    have hoff : ¬ a0.off = "add" := of_decide_eq_false hb.symm
    refine l_if K (et_t (er_eqS (er_varS rfl) er_str)) (fun c5 H5 e5 => ?_) (fun c5 H5 e5 => ?_)
    · have hnear : a0.off = "near" := of_decide_eq_true c5
      refine l_set (α := Int) K (er_add (er_call2 (er_var rfl (Rep.mono ((e03.trans e4).trans e5) h0)) (er_varI rfl) hf2) (er_if (et_b (er_varB rfl)) (fun _ => er_mul (er_varI rfl) (er_varI rfl) (.inl ⟨by omega, by omega⟩)) (fun _ => er_sub er_int (er_mul (er_varI rfl) (er_varI rfl) (.inl ⟨by omega, by omega⟩))))) (fun _ => (.s (.s (.s (.s (.s (.s (.s (.s (.s (.s (.s (.s .z))))))))))))) (fun v H6 e6 r => ?_)
      cases r
      have e : lawNearest a0 a1 + (if up = true then many * a0.step else 0 - many * a0.step) = aimOf a0 a1 (manySteps a0 c) := by
        unfold aimOf
        rw [if_neg hoff, if_pos hnear, hms, nearest_eq s0, Int.add_mul]
        cases up with
        | true =>
          show _ + many * a0.step = _ + (_ + many * a0.step)
          omega
        | false =>
          show _ + (0 - many * a0.step) = _ + (_ + -many * a0.step)
          rw [Int.neg_mul]
          omega
      rw [e]
      exact hW _ _ ⟨_, _, rfl, ((e03.trans e4).trans e5).trans e6⟩
    · have hnear : ¬ a0.off = "near" := of_decide_eq_false c5
      have e05 := (e03.trans e4).trans e5
      refine q_setI K (er_add (er_varI rfl) (er_mul (er_div (er_sub (er_varI rfl) (er_varI rfl)) (er_varI rfl) (cdivw (by omega) (by omega))) (er_varI rfl) (.inr ⟨by omega, by omega⟩))) (fun _ => (.s (.s (.s (.s (.s (.s (.s (.s (.s (.s (.s (.s (.s .z)))))))))))))) (fun H6 e6 => ?_)
      refine q_setI K (er_if (et_t (er_eqI (er_varI rfl) (er_varI rfl))) (fun _ => er_varI rfl) (fun _ => er_add (er_varI rfl) (er_varI rfl))) (fun _ => (.s (.s (.s (.s (.s (.s (.s (.s (.s (.s (.s (.s (.s (.s .z))))))))))))))) (fun H7 e7 => ?_)
      refine l_set (α := Int) K (er_if (et_b (er_varB rfl)) (fun _ => er_add (er_varI rfl) (er_mul (er_varI rfl) (er_varI rfl) (.inl ⟨by omega, by omega⟩))) (fun _ => er_sub (er_varI rfl) (er_mul (er_varI rfl) (er_varI rfl) (.inl ⟨by omega, by omega⟩)))) (fun _ => (.s (.s (.s (.s (.s (.s (.s (.s (.s (.s (.s (.s .z))))))))))))) (fun v H8 e8 r => ?_)
      cases r
      simp only [decide_eq_true_eq]
      have e : (if up = true then a0.base + (a1 - a0.base) / a0.step * a0.step + many * a0.step else (if a0.base + (a1 - a0.base) / a0.step * a0.step = a1 then a0.base + (a1 - a0.base) / a0.step * a0.step else a0.base + (a1 - a0.base) / a0.step * a0.step + a0.step) - many * a0.step) = aimOf a0 a1 (manySteps a0 c) := by
        unfold aimOf
        rw [if_neg hoff, if_neg hnear, hms]
        cases up with
        | true =>
          simp only [if_true]
          rw [if_pos (show (0 : Int) < many by omega), Int.add_mul]
          omega
        | false =>
          simp only [Bool.false_eq_true, if_false]
          rw [if_neg (show ¬ (0 : Int) < -many by omega), ← up_eq s0, Int.add_mul, Int.neg_mul many]
          omega
      rw [e]
      exact hW _ _ ⟨_, _, rfl, ((e05.trans e6).trans e7).trans e8⟩
  rintro _ H4 ⟨o1, o2, rfl, e04⟩
  generalize aimOf a0 a1 (manySteps a0 c) = aim at hpk
  refine q_if0 K (et_t (er_chain (er_varI rfl) (er_varI rfl) (er_varI rfl))) (fun c5 H5 e5 => ?_) (fun c5 H5 e5 => ?_)
  · simp only [Bool.and_eq_true, decide_eq_true_eq] at c5
    refine l_ret (α := Int) K (er_varI rfl) (fun v H6 e6 r => q v H6 (e04.trans (e5.trans e6)) ?_)
    rw [hpk, if_pos c5]
    exact r
  rw [← Bool.not_eq_true] at c5
  simp only [Bool.and_eq_true, decide_eq_true_eq] at c5
  rw [if_neg c5] at hpk
  refine q_if0 K (et_t (er_eqS (er_varS rfl) er_str)) (fun c6 H6 e6 => ?_) (fun c6 H6 e6 => ?_)
  · simp only [decide_eq_true_eq] at c6
    refine l_ret (α := Int) K (er_varI rfl) (fun v H7 e7 r => q v H7 (((e04.trans e5).trans e6).trans e7) ?_)
    rw [hpk, if_pos c6]
    exact r
  simp only [decide_eq_false_iff_not] at c6
  rw [if_neg c6] at hpk
  refine l_ret (α := Int) K (er_if (et_t (er_eqB (er_gt (er_varI rfl) (er_varI rfl)) (er_eqS (er_varS rfl) er_str))) (fun _ => er_varI rfl) (fun _ => er_varI rfl)) (fun v H7 e7 r => q v H7 (((e04.trans e5).trans e6).trans e7) ?_)
  rw [hpk]
  refine (congrArg (Rep.rel K H7 v) ?_).mp r
  rcases hp_ends with z | z | z
  · rw [if_pos z]
    have ne : ¬ a0.ends = "stop" := by
      rw [z]
      decide
    rw [decide_eq_false ne]
    by_cases y : a0.high < aim
    · rw [if_pos y, decide_eq_true y]
      rfl
    · rw [if_neg y, decide_eq_false y]
      rfl
  · exact absurd z c6
  · have ne : ¬ a0.ends = "round" := by
      rw [z]
      decide
    rw [if_neg ne, decide_eq_true z]
    by_cases y : a0.high < aim
    · rw [if_pos y, decide_eq_true y]
      rfl
    · rw [if_neg y, decide_eq_false y]
      rfl
abbrev s_L_first : Stmt := topS 34
theorem sc_L_first : FnScope ["_law_one", "_law_other", "_law_values", "_law_value_here", "_law_key_here"] ["_law_one", "_law_other", "_law_values"] (defScope s_L_first) := ⟨rfl, rfl, rfl, by decide +kernel, rfl, by decide +kernel, by decide +kernel⟩
abbrev SP_L_first (K : PySem.W.Frag) : Sp := sp3 (α := Fld) (β := Fld) (γ := (List Int)) (δ := (Option (Int × Sg))) K (fun o_ p_ _ => FOk o_ ∧ FOk p_) (fun o_ p_ l_ => firstVal o_ p_ l_)
theorem ok_L_first {P : Program} {w : World} {K : PySem.W.Frag} {mg : Str → Option Value} {base : Heap} (T : Top K mg) {f_L_key : Addr} {fd_L_key : FuncData} (C_L_key : Cal P w K mg base CX0 2 "_law_key" ["_law_field_here", "_law_value_here", "_law_key_here"] (SP_L_key K) f_L_key fd_L_key) {f : Addr} {fd : FuncData} (F : FnP K "_law_first" s_L_first f fd) : FnOk P w K mg base CX0 3 f fd ["_law_one", "_law_other", "_law_values"] (SP_L_first K) := by
  refine ok3 F sc_L_first rfl (fun x0 x1 x2 => [some x0, some x1, some x2, none, none]) (fun _ _ _ => rfl) (fun H Q x0 x1 x2 a0 a1 a2 h0 h1 h2 hp q cdv A outer s E hr => ⟨_, PSs.nox (pss_cons (ps_for PassesOwn.never rfl (pi_list (pv 2)) (pg_name (i := 3) sc_L_first.nd rfl (.inl rfl)) (pss_one (ps_for PassesOwn.never rfl (pi_str pe_str) (pg_name (i := 4) sc_L_first.nd rfl (.inl rfl)) (pss_one (ps_if (pt_cmpR op_ne (pe_call C_L_key.ok (hr.mono (by decide)) (by rfl) C_L_key.mg C_L_key.kp C_L_key.bd .nil pass0 (pa_cons (pv 0) (pa_cons (pv 3) (pa_cons (pv 4) pa_nil)))) (pe_call C_L_key.ok (hr.mono (by decide)) (by rfl) C_L_key.mg C_L_key.kp C_L_key.bd .nil pass0 (pa_cons (pv 1) (pa_cons (pv 3) (pa_cons (pv 4) pa_nil)))) (nomark _)) (pss_one (ps_ret (pe_tup (pa_cons (pv 3) (pa_cons (pv 4) pa_nil))))) pss_nil)))))
      (pss_one (ps_ret pe_non))), ?_⟩)
  have E0 : Ex H H := Ex.refl H
  obtain ⟨ok_f, ok_g⟩ := hp
  refine q_for K (α := Int) (xs := a2) (wk_list (er_var rfl h2)) (fun pre1 σ' H' => ∃ o1_3 o1_4, σ' = [some x0, some x1, some x2, o1_3, o1_4] ∧ Ey H H' ∧ (∀ x_ ∈ pre1, ∀ k_ ∈ keys6, sameAt a0 a1 x_ k_) ∧ Ex H H') (fun H1 e1 => ⟨_, _, rfl, e1.y, (fun _ h => nomatch h), E0.trans e1⟩) (fun L1 pre1 y1 post1 v1 σ' A1 B1 b1 hx1 p1 pp1 c1 r1 => ?_) (fun σ' Z1 z1 pp1 => ?_)
  · obtain ⟨o1_3, o1_4, rfl, q1, ip1_0, E0⟩ := pp1
    have hm1 : y1 ∈ a2 := by
      rw [hx1]
      exact List.mem_append_right _ (List.mem_cons_self ..)
    have t1 := p1.trans c1.y
    have g1 := q1.trans c1.y
    have h0 := Rep.moY g1 h0
    have h1 := Rep.moY g1 h1
    have h2 := Rep.moY g1 h2
    have E0 := E0.trans c1
    cases r1
    refine g_name1 (.s (.s (.s .z))) ?_
    refine for_wk K (α := Sg) (xs := (sgs ("udUDhe" : Str))) (wk_str er_str) (fun pre2 σ' H' => ∃ o2_4, σ' = [some x0, some x1, some x2, some (V.int y1), o2_4] ∧ Ey B1 H' ∧ (∀ k_ ∈ pre2, sameAt a0 a1 y1 k_) ∧ Ex H H') (fun H1 e1 => ⟨_, rfl, e1.y, (fun _ h => nomatch h), E0.trans e1⟩) (fun L2 pre2 y2 post2 v2 σ' A2 B2 b2 hx2 p2 pp2 c2 r2 => ?_) (fun σ' Z2 z2 pp2 => ?_)
    · obtain ⟨o2_4, rfl, q2, ip2_0, E0⟩ := pp2
      have hm2 : y2 ∈ (sgs ("udUDhe" : Str)) := by
        rw [hx2]
        exact List.mem_append_right _ (List.mem_cons_self ..)
      have t2 := p2.trans c2.y
      have g2 := q2.trans c2.y
      have h0 := Rep.moY g2 h0
      have h1 := Rep.moY g2 h1
      have h2 := Rep.moY g2 h2
      have g1 := g1.trans g2
      have t1 := t1.trans g2
      have E0 := E0.trans c2
      have hv2 : v2 = V.str ⟨#[y2.c]⟩ := r2
      subst hv2
      refine g_name1 (.s (.s (.s (.s .z)))) ?_
      have hkx := sgs_keys.mp hm2
      refine l_if0 K (b := (!decide ((pressKey a0 y1 y2.c) = (pressKey a1 y1 y2.c)))) (et_t (er_neI (er_call3 (er_var rfl h0) (er_varI rfl) (er_var (x := y2) rfl rfl) ⟨ok_f, hkx⟩) (er_call3 (er_var rfl h1) (er_varI rfl) (er_var (x := y2) rfl rfl) ⟨ok_g, hkx⟩))) (fun c3 H3 e3 => ?_) (fun c3 H3 e3 => ?_)
      · skip
        have h0 := Rep.mono e3 h0
        have h1 := Rep.mono e3 h1
        have h2 := Rep.mono e3 h2
        have g1 := g1.trans e3.y
        have t1 := t1.trans e3.y
        have g2 := g2.trans e3.y
        have t2 := t2.trans e3.y
        have E0 := E0.trans e3
        have hcond := c3
        refine l_ret (α := (Option (Int × Sg))) K (er_some (er_tup2 (er_varI rfl) (er_var (x := y2) rfl rfl))) (fun v4 H4 e4 r4 => q v4 H4 (E0.trans e4) ?_)
        refine (congrArg (Rep.rel K H4 v4) (?_ : ((some (y1, y2)) : (Option (Int × Sg))) = _)).mp r4
        exact part_go1 hx2 hx1 ip1_0 ip2_0 (of_decide_eq_false (nb_t hcond))
      · skip
        have h0 := Rep.mono e3 h0
        have h1 := Rep.mono e3 h1
        have h2 := Rep.mono e3 h2
        have g1 := g1.trans e3.y
        have t1 := t1.trans e3.y
        have g2 := g2.trans e3.y
        have t2 := t2.trans e3.y
        have E0 := E0.trans e3
        have hcond := c3
        exact ⟨t2, _, rfl, g2, fun x hx => by
          rcases List.mem_append.mp hx with z | z
          · exact ip2_0 x z
          · rw [List.mem_singleton.mp z]; exact of_decide_eq_true (nb_f hcond), E0⟩
    obtain ⟨o2_4, rfl, q2, ip2_0, E0⟩ := pp2
    have h0 := Rep.moY q2 h0
    have h1 := Rep.moY q2 h1
    have h2 := Rep.moY q2 h2
    have g1 := g1.trans q2
    have t1 := t1.trans q2
    exact ⟨t1, _, _, rfl, g1, fun x hx => by
      rcases List.mem_append.mp hx with z | z
      · exact ip1_0 x z
      · rw [List.mem_singleton.mp z]; exact ip2_0, E0⟩
  obtain ⟨o1_3, o1_4, rfl, q1, ip1_0, E0⟩ := pp1
  have h0 := Rep.moY q1 h0
  have h1 := Rep.moY q1 h1
  have h2 := Rep.moY q1 h2
  refine l_ret (α := (Option (Int × Sg))) K (er_noneO (α := (Int × Sg))) (fun v5 H5 e5 r5 => q v5 H5 (E0.trans e5) ?_)
  refine (congrArg (Rep.rel K H5 v5) (?_ : ((none : Option (Int × Sg)) : (Option (Int × Sg))) = _)).mp r5
  exact (firstVal_none.mpr ip1_0).symm
abbrev s_L_value : Stmt := topS 30
theorem sc_L_value : FnScope ["_law_source_here", "_law_field_here", "_law_low", "_law_high", "_law_step", "_law_base", "_law_way", "_law_found", "_law_more"] ["_law_source_here", "_law_field_here"] (defScope s_L_value) := ⟨rfl, rfl, rfl, by decide +kernel, rfl, by decide +kernel, by decide +kernel⟩
abbrev SP_L_value (K : PySem.W.Frag) : Sp := spn2 (α := Src) (β := Fld) (δ := Int) K (fun _ f => FL f) (fun _ f v => f.low ≤ v ∧ v ≤ f.high)
theorem ok_L_value {P : Program} {w : World} {K : PySem.W.Frag} {mg : Str → Option Value} {base : Heap} (T : Top K mg) {f_L_draw : Addr} {fd_L_draw : FuncData} (C_L_draw : Cal P w K mg base CX0 1 "_law_draw" ["_law_source_here", "_law_size"] (SP_L_draw K) f_L_draw fd_L_draw) {f_L_choice : Addr} {fd_L_choice : FuncData} (C_L_choice : Cal P w K mg base CX0 2 "_law_choice" ["_law_source_here", "_law_items"] (SP_L_choice K) f_L_choice fd_L_choice) {f : Addr} {fd : FuncData} (F : FnP K "_law_value" s_L_value f fd) : FnOk P w K mg base CX0 3 f fd ["_law_source_here", "_law_field_here"] (SP_L_value K) := by
  refine okn2 F sc_L_value rfl (fun x0 x1 => [some x0, some x1, none, none, none, none, none, none, none]) (fun _ _ => rfl) (fun H Q x0 x1 a0 a1 h0 h1 hp q cdv A outer s E hr => ⟨_, PSs.nox (pss_cons (ps_asg (pe_slice sl_tup (pv 1) po_none (po_some pe_int)) (pg_tup rfl (pgs_cons (pg_name (i := 2) sc_L_value.nd rfl (.inl rfl)) (pgs_cons (pg_name (i := 3) sc_L_value.nd rfl (.inl rfl)) (pgs_cons (pg_name (i := 4) sc_L_value.nd rfl (.inl rfl)) (pgs_cons (pg_name (i := 5) sc_L_value.nd rfl (.inl rfl)) pgs_nil))))))
      (pss_cons (ps_set (i := 6) sc_L_value.nd rfl (.inl rfl) (pe_call C_L_draw.ok (hr.mono (by decide)) (by rfl) C_L_draw.mg C_L_draw.kp C_L_draw.bd .nil pass0 (pa_cons (pv 0) (pa_cons pe_int pa_nil))))
      (pss_cons (ps_set (i := 7) sc_L_value.nd rfl (.inl rfl) (pe_op op_add (pv 2) (pe_call C_L_draw.ok (hr.mono (by decide)) (by rfl) C_L_draw.mg C_L_draw.kp C_L_draw.bd .nil pass0 (pa_cons (pv 0) (pa_cons (pe_op op_add (pe_op op_sub (pv 3) (pv 2)) pe_int) pa_nil)))))
      (pss_cons (ps_if (pt_cmpR op_eq (pv 6) pe_int (nomark _)) (pss_one (ps_set (i := 7) sc_L_value.nd rfl (.inl rfl) (pe_call C_L_choice.ok (hr.mono (by decide)) (by rfl) C_L_choice.mg C_L_choice.kp C_L_choice.bd .nil pass0 (pa_cons (pv 0) (pa_cons (pe_lst (pa_cons (pv 2) (pa_cons (pv 3) (pa_cons (pe_op op_add (pv 2) pe_int) (pa_cons (pe_op op_sub (pv 3) pe_int) pa_nil))))) pa_nil))))) (pss_one (ps_if (pt_cmpR op_lt (pv 6) pe_int (nomark _)) (pss_cons (ps_set (i := 8) sc_L_value.nd rfl (.inl rfl) (pe_call C_L_choice.ok (hr.mono (by decide)) (by rfl) C_L_choice.mg C_L_choice.kp C_L_choice.bd .nil pass0 (pa_cons (pv 0) (pa_cons (pe_lst (pa_cons pe_int (pa_cons pe_int (pa_cons pe_int (pa_cons (pe_un un_neg pe_int) (pa_cons (pe_op op_fdivW (pv 4) pe_int) (pa_cons (pe_op op_fdivW (pe_op op_add (pv 4) pe_int) pe_int) pa_nil))))))) pa_nil))))
      (pss_one (ps_set (i := 7) sc_L_value.nd rfl (.inl rfl) (pe_op op_add (pe_op op_add (pv 5) (pe_op op_mul (pe_op op_fdivW (pe_op op_sub (pv 7) (pv 5)) (pv 4)) (pv 4))) (pv 8))))) pss_nil)))
      (pss_one (ps_ret (pe_callB (call_max2 rfl) (by rfl) T.b_max (by decide +kernel) (pa_cons (pv 2) (pa_cons (pe_callB (call_min2 rfl) (by rfl) T.b_min (by decide +kernel) (pa_cons (pv 3) (pa_cons (pv 7) pa_nil))) pa_nil))))))))), ?_⟩)
  obtain ⟨l0, lh, hh1, s0, s1, b0, b1⟩ := hp
  have sr : ∀ {H' : Hp} {b c d e f g h i : Option V}, Ex H H' → ER K (tVar 0) [some x0, b, c, d, e, f, g, h, i] H' Src.mk := fun e => er_var rfl (Rep.mono e h0)
  refine q_unp (lo := none) (hi := (some 4)) (er_var rfl h1) (fun _ _ h => h) (fun _ _ h => ⟨4, rfl, h⟩) (by decide) rfl rfl (fun H1 e1 => ?_)
  refine (g_cons (.s (.s .z)) (g_cons (.s (.s (.s .z))) (g_cons (.s (.s (.s (.s .z)))) (g_cons (.s (.s (.s (.s (.s .z))))) (g_nil ?_)))))
  refine n_setI K (P := fun _ => True) (en_draw (sr e1) en_c (fun n hn => by omega) (fun _ _ _ _ _ => trivial)) (fun _ => .s (.s (.s (.s (.s (.s .z)))))) (fun way H2 _ e2 => ?_)
  have e02 := e1.trans e2
  refine n_setI K (P := fun _ => True) (en_add (P2 := fun _ => True) (en_v rfl) (en_draw (sr e02) (en_of (P := fun n => n = a1.high - a1.low + 1) (er_add (er_sub (er_varI rfl) (er_varI rfl)) er_int) rfl) (fun n hn => by omega) (fun _ _ _ _ _ => trivial)) (fun _ _ _ _ => trivial)) (fun _ => .s (.s (.s (.s (.s (.s (.s .z))))))) (fun fnd H3 _ e3 => ?_)
  have e03 := e02.trans e3
  refine q_ifJ K (P := fun _ => True) (fun σ' H' => ∃ (fnd : Int) (o : Option V), σ' = [some x0, some x1, some (.int a1.low), some (.int a1.high), some (.int a1.step), some (.int a1.base), some (.int way), some (.int fnd), o] ∧ Ex H H') ?cont
    (etn_of (et_t (er_eqI (er_varI rfl) er_int)) trivial) ?c1 ?c2
  case c1 =>
    intro D2 hW hb H4 e4
    refine nl_set (α := Int) K (P := fun _ => True) (en_pick (sr (e03.trans e4)) (ens_cons (en_of (er_varI rfl) trivial) (ens_cons (en_of (er_varI rfl) trivial) (ens_cons (en_of (er_add (er_varI rfl) er_int) trivial) (ens_cons (en_of (er_sub (er_varI rfl) er_int) trivial) ens_nil)))) (by omega) (by omega)) (fun _ => .s (.s (.s (.s (.s (.s (.s .z))))))) (fun st v H5 _ e5 r => ?_)
    cases r
    exact hW _ _ ⟨st, _, rfl, (e03.trans e4).trans e5⟩
  case c2 =>
    intro D2 hW hb H4 e4
    refine l_if0 K (et_t (er_lt (er_varI rfl) er_int)) (fun c5 H5 e5 => ?_) (fun c5 H5 e5 => hW _ _ ⟨fnd, _, rfl, (e03.trans e4).trans e5⟩)
    have e05 := (e03.trans e4).trans e5
    refine n_setI K (P := fun _ => True) (en_pick (sr e05) (ens_cons (en_of er_int trivial) (ens_cons (en_of er_int trivial) (ens_cons (en_of er_int trivial) (ens_cons (en_of (er_neg er_int) trivial) (ens_cons (en_of (er_div (er_varI rfl) er_int (cdivw (by omega) (by omega))) trivial) (ens_cons (en_of (er_div (er_add (er_varI rfl) er_int) er_int (cdivw (by omega) (by omega))) trivial) ens_nil)))))) (by omega) (by omega)) (fun _ => .s (.s (.s (.s (.s (.s (.s (.s .z)))))))) (fun more H6 _ e6 => ?_)
    refine l_set (α := Int) K (er_add (er_add (er_varI rfl) (er_mul (er_div (er_sub (er_varI rfl) (er_varI rfl)) (er_varI rfl) (cdivw (by omega) (by omega))) (er_varI rfl) (.inr ⟨by omega, by omega⟩))) (er_varI rfl)) (fun _ => .s (.s (.s (.s (.s (.s (.s .z))))))) (fun v H7 e7 r => ?_)
    cases r
    exact hW _ _ ⟨_, _, rfl, (e05.trans e6).trans e7⟩
  rintro _ H4 ⟨fnd, o, rfl, e04⟩
  refine l_ret (α := Int) K (er_max2 (er_varI rfl) (er_min2 (er_varI rfl) (er_varI rfl))) (fun v H5 e5 r => ?_)
  exact q _ v H5 (by omega) (e04.trans e5) r
abbrev s_law : Stmt := topS 36
theorem sc_law : FnScope ["_law_script", "_law_k", "_law_source_here", "_law_one", "_law_other", "_law_found", "_law_value_here", "_law_key_here", "_law_last", "_law_some", "_law_told", "_law_near_here", "_law_look"] ["_law_script"] (defScope s_law) := ⟨rfl, rfl, rfl, by decide +kernel, rfl, by decide +kernel, by decide +kernel⟩
abbrev SP_law (K : PySem.W.Frag) : Sp := SP_lawdef K
theorem ok_law {P : Program} {w : World} {K : PySem.W.Frag} {mg : Str → Option Value} {base : Heap} (T : Top K mg) {f_L_source : Addr} {fd_L_source : FuncData} (C_L_source : Cal P w K mg base CX0 1 "_law_source" ["_law_script", "_law_index"] (SP_L_source K) f_L_source fd_L_source) {f_L_choice : Addr} {fd_L_choice : FuncData} (C_L_choice : Cal P w K mg base CX0 2 "_law_choice" ["_law_source_here", "_law_items"] (SP_L_choice K) f_L_choice fd_L_choice) {f_L_field : Addr} {fd_L_field : FuncData} (C_L_field : Cal P w K mg base CX0 3 "_law_field" ["_law_source_here", "_law_wide"] (SP_L_field K) f_L_field fd_L_field) {f_L_near : Addr} {fd_L_near : FuncData} (C_L_near : Cal P w K mg base CX0 3 "_law_near" ["_law_source_here", "_law_field_here"] (SP_L_near K) f_L_near fd_L_near) {f_parting : Addr} {fd_parting : FuncData} (C_parting : Cal P w K mg base CX0 5 "parting" ["one", "other"] (SP_parting K) f_parting fd_parting) {f_L_first : Addr} {fd_L_first : FuncData} (C_L_first : Cal P w K mg base CX0 3 "_law_first" ["_law_one", "_law_other", "_law_values"] (SP_L_first K) f_L_first fd_L_first) {f_L_spots : Addr} {fd_L_spots : FuncData} (C_L_spots : Cal P w K mg base CX0 1 "_law_spots" ["_law_one", "_law_other"] (SP_L_spots K) f_L_spots fd_L_spots) {f_L_value : Addr} {fd_L_value : FuncData} (C_L_value : Cal P w K mg base CX0 3 "_law_value" ["_law_source_here", "_law_field_here"] (SP_L_value K) f_L_value fd_L_value) {f_L_draw : Addr} {fd_L_draw : FuncData} (C_L_draw : Cal P w K mg base CX0 1 "_law_draw" ["_law_source_here", "_law_size"] (SP_L_draw K) f_L_draw fd_L_draw) {f_alike : Addr} {fd_alike : FuncData} (C_alike : Cal P w K mg base CX0 5 "alike" ["one", "other"] (SP_alike K) f_alike fd_alike) {f : Addr} {fd : FuncData} (F : FnP K "law" s_law f fd) : FnOk P w K mg base CX0 6 f fd ["_law_script"] (SP_law K) := by
  refine F.ok sc_law (fun vs H Q E hs => ?_) (fun cdv A outer s H vs Q E hr hs => ?_)
  · obtain ⟨a, ns, rfl, _⟩ := hs
    rfl
  obtain ⟨a, ns, rfl, hs, hlen, q⟩ := hs
  refine ⟨_, PSs.nox (pss_cons (ps_for PassesOwn.never rfl (pi_range1 (by rfl) T.b_range (pa_cons (pe_op op_add pe_int (pe_callB (call_min2 rfl) (by rfl) T.b_min (by decide +kernel) (pa_cons (pe_callB call_len_seq (by rfl) T.b_len (by decide +kernel) (pa_cons (pv 0) pa_nil)) (pa_cons pe_int pa_nil)))) pa_nil)) (pg_name (i := 1) sc_law.nd rfl (.inl rfl)) (pss_cons (ps_set (i := 2) sc_law.nd rfl (.inr rfl) (pe_call C_L_source.ok (hr.mono (by decide)) (by rfl) C_L_source.mg C_L_source.kp C_L_source.bd .nil pass0 (pa_cons (pv 0) (pa_cons (pv 1) pa_nil))))
      (pss_cons (ps_set (i := 3) sc_law.nd rfl (.inr rfl) (pe_call C_L_field.ok (hr.mono (by decide)) (by rfl) C_L_field.mg C_L_field.kp C_L_field.bd .nil pass0 (pa_cons (pv 2) (pa_cons (pe_call C_L_choice.ok (hr.mono (by decide)) (by rfl) C_L_choice.mg C_L_choice.kp C_L_choice.bd .nil pass0 (pa_cons (pv 2) (pa_cons (pe_lst (pa_cons pe_int (pa_cons (pe_op op_pow pe_int pe_int) (pa_cons (pe_op op_pow pe_int pe_int) pa_nil)))) pa_nil))) pa_nil))))
      (pss_cons (ps_set (i := 4) sc_law.nd rfl (.inr rfl) (pe_call C_L_near.ok (hr.mono (by decide)) (by rfl) C_L_near.mg C_L_near.kp C_L_near.bd .nil pass0 (pa_cons (pv 2) (pa_cons (pe_call C_L_choice.ok (hr.mono (by decide)) (by rfl) C_L_choice.mg C_L_choice.kp C_L_choice.bd .nil pass0 (pa_cons (pv 2) (pa_cons (pe_lst (pa_cons (pv 3) (pa_cons (pv 3) (pa_cons (pe_call C_L_near.ok (hr.mono (by decide)) (by rfl) C_L_near.mg C_L_near.kp C_L_near.bd .nil pass0 (pa_cons (pv 2) (pa_cons (pv 3) pa_nil))) pa_nil)))) pa_nil))) pa_nil))))
      (pss_cons (ps_set (i := 5) sc_law.nd rfl (.inl rfl) (pe_call C_parting.ok (hr.mono (by decide)) (by rfl) C_parting.mg C_parting.kp C_parting.bd .nil pass0 (pa_cons (pv 3) (pa_cons (pv 4) pa_nil))))
      (pss_cons (ps_if (pt_cmpR op_notN1 (pv 5) pe_non (nomark _)) (pss_cons (ps_asg (pv 5) (pg_tup rfl (pgs_cons (pg_name (i := 6) sc_law.nd rfl (.inl rfl)) (pgs_cons (pg_name (i := 7) sc_law.nd rfl (.inl rfl)) pgs_nil))))
      (pss_one (ps_if (PW.pt (pw_or (pt_cmpR op_notInS (pv 7) pe_str rfl) (pw_or1 (pt_cmpR (op_neD hr.units) (pe_call C_L_first.ok (hr.mono (by decide)) (by rfl) C_L_first.mg C_L_first.kp C_L_first.bd .nil pass0 (pa_cons (pv 3) (pa_cons (pv 4) (pa_cons (pe_lst (pa_cons (pv 6) pa_nil)) pa_nil)))) (pv 5) (nomark _))))) (pss_one (ps_ret pe_bl)) pss_nil))) pss_nil)
      (pss_cons (ps_set (i := 8) sc_law.nd rfl (.inr rfl) (pe_ifExp (pt_cmpR op_isN1 (pv 5) pe_non (nomark _)) (pe_op op_add (pe_ix ix_tup (pv 3) pe_int (fun _ _ => rfl)) pe_int) (pe_ix ix_tup (pv 5) pe_int (fun _ _ => rfl))))
      (pss_cons (ps_set (i := 9) sc_law.nd rfl (.inl rfl) (pe_op op_cat (pe_call C_L_spots.ok (hr.mono (by decide)) (by rfl) C_L_spots.mg C_L_spots.kp C_L_spots.bd .nil pass0 (pa_cons (pv 3) (pa_cons (pv 4) pa_nil))) (pe_lc (own := [("_law_look", 12)]) (g := gName 12) (tt := tYes)  rfl sc_law.nd (pi_range1 (by rfl) T.b_range (pa_cons pe_int pa_nil)) (blkOk_by (own := [("_law_look", 12)]) (N := ["_law_script", "_law_k", "_law_source_here", "_law_one", "_law_other", "_law_found", "_law_value_here", "_law_key_here", "_law_last", "_law_some", "_law_told", "_law_near_here", "_law_look"]) (sc := defScope s_law) (by decide +kernel)) (fun _ _ _ _ _ => (pg_name (i := 12) sc_law.nd rfl (.inl rfl))) (fun _ _ _ _ _ => pts_nil) (fun _ _ _ _ _ => (pe_call C_L_value.ok (hr.mono (by decide)) (by rfl) C_L_value.mg C_L_value.kp C_L_value.bd .nil pass0 (pa_cons (pv 2) (pa_cons (pv 3) pa_nil)))))))
      (pss_cons (ps_set (i := 9) sc_law.nd rfl (.inl rfl) (pe_op op_cat (pv 9) (pe_lc (own := [("_law_look", 12)]) (g := gName 12) (tt := tYes)  rfl sc_law.nd (pi_range1 (by rfl) T.b_range (pa_cons pe_int pa_nil)) (blkOk_by (own := [("_law_look", 12)]) (N := ["_law_script", "_law_k", "_law_source_here", "_law_one", "_law_other", "_law_found", "_law_value_here", "_law_key_here", "_law_last", "_law_some", "_law_told", "_law_near_here", "_law_look"]) (sc := defScope s_law) (by decide +kernel)) (fun _ _ _ _ _ => (pg_name (i := 12) sc_law.nd rfl (.inl rfl))) (fun _ _ _ _ _ => pts_nil) (fun _ _ _ _ _ => (pe_call C_L_value.ok (hr.mono (by decide)) (by rfl) C_L_value.mg C_L_value.kp C_L_value.bd .nil pass0 (pa_cons (pv 2) (pa_cons (pv 4) pa_nil)))))))
      (pss_cons (ps_set (i := 9) sc_law.nd rfl (.inl rfl) (pe_op op_cat (pv 9) (pe_lc (own := [("_law_look", 12)]) (g := gName 12) (tt := tYes)  rfl sc_law.nd (pi_range1 (by rfl) T.b_range (pa_cons pe_int pa_nil)) (blkOk_by (own := [("_law_look", 12)]) (N := ["_law_script", "_law_k", "_law_source_here", "_law_one", "_law_other", "_law_found", "_law_value_here", "_law_key_here", "_law_last", "_law_some", "_law_told", "_law_near_here", "_law_look"]) (sc := defScope s_law) (by decide +kernel)) (fun _ _ _ _ _ => (pg_name (i := 12) sc_law.nd rfl (.inl rfl))) (fun _ _ _ _ _ => pts_nil) (fun _ _ _ _ _ => (pe_op op_add (pe_ix (show IxR _ (rIxT K) from ix_tup) (pv 3) pe_int (fun _ _ => rfl)) (pe_call C_L_draw.ok (hr.mono (by decide)) (by rfl) C_L_draw.mg C_L_draw.kp C_L_draw.bd .nil pass0 (pa_cons (pv 2) (pa_cons (pe_op op_sub (pe_op op_add pe_int (pv 8)) (pe_ix (show IxR _ (rIxT K) from ix_tup) (pv 3) pe_int (fun _ _ => rfl))) pa_nil))))))))
      (pss_cons (ps_if (pt_cmpR op_notN1 (pe_call C_L_first.ok (hr.mono (by decide)) (by rfl) C_L_first.mg C_L_first.kp C_L_first.bd .nil pass0 (pa_cons (pv 3) (pa_cons (pv 4) (pa_cons (pe_lc (own := [("_law_value_here", 6)]) (g := gName 6)  rfl sc_law.nd (pi_list (pv 9)) (blkOk_by (own := [("_law_value_here", 6)]) (N := ["_law_script", "_law_k", "_law_source_here", "_law_one", "_law_other", "_law_found", "_law_value_here", "_law_key_here", "_law_last", "_law_some", "_law_told", "_law_near_here", "_law_look"]) (sc := defScope s_law) (by decide +kernel)) (fun _ _ _ _ _ => (pg_name (i := 6) sc_law.nd rfl (.inl rfl))) (fun _ _ _ _ _ => (pts_one (pt_cmpR op_lt (pv 6) (pv 8) (nomark _)))) (fun _ _ _ _ _ => (pv 6))) pa_nil)))) pe_non (nomark _)) (pss_one (ps_ret pe_bl)) pss_nil)
      (pss_cons (ps_set (i := 10) sc_law.nd rfl (.inl rfl) (pe_call C_alike.ok (hr.mono (by decide)) (by rfl) C_alike.mg C_alike.kp C_alike.bd .nil pass0 (pa_cons (pv 3) (pa_cons (pv 4) pa_nil))))
      (pss_one (ps_if (PW.pt (pw_or (pt_cmpR op_ne (pv 10) (pe_cmpR op_isN1 (pv 5) pe_non (nomark _)) (nomark _)) (pw_or (pt_cmpR (op_neD hr.units) (pe_call C_parting.ok (hr.mono (by decide)) (by rfl) C_parting.mg C_parting.kp C_parting.bd .nil pass0 (pa_cons (pv 4) (pa_cons (pv 3) pa_nil))) (pv 5) (nomark _)) (pw_or1 (pt_not (pt_val (pe_callB call_isi (by rfl) T.b_isinstance (by decide +kernel) (pa_cons (pv 10) (pa_cons (pe_bltn (v := .ty "bool") (by rfl) T.b_bool (by decide +kernel) rfl) pa_nil))))))))) (pss_one (ps_ret pe_bl)) pss_nil))))))))))))))
      (pss_cons (ps_set (i := 3) sc_law.nd rfl (.inr rfl) (pe_tup (pa_cons pe_int (pa_cons (pe_op op_pow pe_int pe_int) (pa_cons pe_int (pa_cons pe_int (pa_cons pe_str (pa_cons pe_str (pa_cons pe_int pa_nil)))))))))
      (pss_cons (ps_if (pt_cmpR (op_neD hr.units) (pe_call C_parting.ok (hr.mono (by decide)) (by rfl) C_parting.mg C_parting.kp C_parting.bd .nil pass0 (pa_cons (pv 3) (pa_cons (pe_op op_catT (pe_op op_catT (pe_slice sl_tup (pv 3) po_none (po_some pe_int)) (pe_tup (pa_cons pe_str pa_nil))) (pe_slice sl_tup (pv 3) (po_some pe_int) po_none)) pa_nil))) (pe_tup (pa_cons pe_int (pa_cons pe_str pa_nil))) (nomark _)) (pss_one (ps_ret pe_bl)) pss_nil)
      (pss_cons (ps_set (i := 11) sc_law.nd rfl (.inl rfl) (pe_op op_catT (pe_slice sl_tup (pv 3) po_none (po_some pe_int)) (pe_tup (pa_cons pe_str (pa_cons pe_str (pa_cons pe_int pa_nil))))))
      (pss_cons (ps_if (PW.pt (pw_or (pt_cmpR (op_neD hr.units) (pe_call C_parting.ok (hr.mono (by decide)) (by rfl) C_parting.mg C_parting.kp C_parting.bd .nil pass0 (pa_cons (pv 11) (pa_cons (pe_op op_catT (pe_slice sl_tup (pv 11) po_none (po_some pe_int)) (pe_tup (pa_cons pe_str (pa_cons pe_int pa_nil)))) pa_nil))) (pe_tup (pa_cons pe_int (pa_cons pe_str pa_nil))) (nomark _)) (pw_or1 (pt_cmpR op_isnot_bl (pe_call C_alike.ok (hr.mono (by decide)) (by rfl) C_alike.mg C_alike.kp C_alike.bd .nil pass0 (pa_cons (pv 11) (pa_cons (pe_op op_catT (pe_op op_catT (pe_slice sl_tup (pv 11) po_none (po_some pe_int)) (pe_tup (pa_cons pe_int pa_nil))) (pe_slice sl_tup (pv 11) (po_some pe_int) po_none)) pa_nil))) pe_bl (nomark _))))) (pss_one (ps_ret pe_bl)) pss_nil)
      (pss_one (ps_ret (pe_cmpR (op_eqD hr.units) (pe_call C_parting.ok (hr.mono (by decide)) (by rfl) C_parting.mg C_parting.kp C_parting.bd .nil pass0 (pa_cons (pv 11) (pa_cons (pe_op op_catT (pe_op op_catT (pe_slice sl_tup (pv 11) po_none (po_some pe_int)) (pe_tup (pa_cons pe_int pa_nil))) (pe_slice sl_tup (pv 11) (po_some pe_int) po_none)) pa_nil))) (pe_tup (pa_cons pe_int (pa_cons pe_str pa_nil))) (nomark _))))))))), ?_⟩
  show (_ : TS) _ [some (V.ref a), none, none, none, none, none, none, none, none, none, none, none, none] H
  dsimp only [cxOf, Cx.wish]
  have mk : ∀ s : Str, rowOkB s = true → rowOk s := fun s h => rowOkB_ok h
  refine q_for K (α := Int) (xs := (rng 0 ((1 + (min (ns.length : Int) 5)) : Int).toNat)) (wk_rng1 (er_add er_int (er_min2 (er_lenScript rfl hs) er_int)) ⟨by first | omega | walk_at "sd", by first | omega | walk_at "sd"⟩) (fun pre1 σ' H' => ∃ o1_1 o1_2 o1_3 o1_4 o1_5 o1_6 o1_7 o1_8 o1_9 o1_10, σ' = [some (V.ref a), o1_1, o1_2, o1_3, o1_4, o1_5, o1_6, o1_7, o1_8, o1_9, o1_10, none, none] ∧ Ey H H') (fun H1 e1 => ⟨_, _, _, _, _, _, _, _, _, _, rfl, e1.y⟩) (fun L1 pre1 y1 post1 v1 σ' A1 B1 b1 hx1 p1 pp1 c1 r1 => ?_) (fun σ' Z1 z1 pp1 => ?_)
  · obtain ⟨o1_1, o1_2, o1_3, o1_4, o1_5, o1_6, o1_7, o1_8, o1_9, o1_10, rfl, q1⟩ := pp1
    have hm1 : y1 ∈ (rng 0 ((1 + (min (ns.length : Int) 5)) : Int).toNat) := by
      rw [hx1]
      exact List.mem_append_right _ (List.mem_cons_self ..)
    have hr1 := rng_mem.mp hm1
    have t1 := p1.trans c1.y
    have g1 := q1.trans c1.y
    have hs := eyF g1 hs
    cases r1
    refine g_name1 (.s .z) ?_
    refine q_set (α := Src) K (er_source rfl hs (er_varI rfl) (by walk_at "sd") (by walk_at "sd")) (fun _ => (.s (.s .z))) (fun v2 H2 e2 rs => ?_)
    have hs := exF e2 hs
    have g1 := g1.trans e2.y
    have t1 := t1.trans e2.y
    refine n_set (α := Fld) K (P := fun z => ∃ (x4_1 : Int), ((x4_1 = 2000) ∨ (x4_1 = 1000000) ∨ (x4_1 = 100000000000)) ∧ (FieldPost x4_1 z)) ?_ (fun _ => (.s (.s (.s .z)))) (fun one v3 H3 p_one e3 r_one => ?_)
    · exact (en_ca2 (P := fun z => ∃ (x4_1 : Int), ((x4_1 = 2000) ∨ (x4_1 = 1000000) ∨ (x4_1 = 100000000000)) ∧ (FieldPost x4_1 z)) (en_is (er_var rfl rs)) (en_pick (P := fun z => (z = 2000) ∨ (z = 1000000) ∨ (z = 100000000000)) (er_var rfl rs) (ens_cons (en_imp (P := fun z => z = 2000) (en_is er_int) (fun _ h => .inl h)) (ens_cons (en_imp (P := fun z => z = 1000000) (en_is (er_powc (k := 1000000) ⟨by decide, by decide, by decide⟩ (by decide))) (fun _ h => .inr (.inl h))) (ens_cons (en_imp (P := fun z => z = 100000000000) (en_is (er_powc (k := 100000000000) ⟨by decide, by decide, by decide⟩ (by decide))) (fun _ h => .inr (.inr (h)))) ens_nil))) (by decide) (by decide)) (fun x4_0 x4_1 v4_0 v4_1 H4 E4 p4_0 p4_1 r4_0 r4_1 => by replace p4_0 := p4_0.symm; subst p4_0; exact en_imp (P := fun z => (FieldPost x4_1 z)) (en_call2 (er_c (x := Src.mk) r4_0) (er_c (x := x4_1) r4_1) (by walk_at "sd")) (fun z hz => ⟨x4_1, p4_1, hz⟩)))
    have rs := Rep.mono e3 rs
    have hs := exF e3 hs
    have g1 := g1.trans e3.y
    have t1 := t1.trans e3.y
    obtain ⟨x4_1, h_x4_1, p_one⟩ := p_one
    have ok_one := p_one.ok
    have bd_one := p_one.ok.fl
    unfold FL LOK at bd_one
    refine n_set (α := Fld) K (P := fun z => ∃ (x6_1 : Fld), ((x6_1 = one) ∨ (x6_1 = one) ∨ ((NearPost one x6_1))) ∧ (NearPost x6_1 z)) ?_ (fun _ => (.s (.s (.s (.s .z))))) (fun other v5 H5 p_other e5 r_other => ?_)
    · exact (en_ca2 (P := fun z => ∃ (x6_1 : Fld), ((x6_1 = one) ∨ (x6_1 = one) ∨ ((NearPost one x6_1))) ∧ (NearPost x6_1 z)) (en_is (er_var rfl rs)) (en_pick (P := fun z => (z = one) ∨ (z = one) ∨ ((NearPost one z))) (er_var rfl rs) (ens_cons (en_imp (P := fun z => z = one) (en_is (er_var rfl r_one)) (fun _ h => .inl h)) (ens_cons (en_imp (P := fun z => z = one) (en_is (er_var rfl r_one)) (fun _ h => .inr (.inl h))) (ens_cons (en_imp (P := fun z => (NearPost one z)) (en_call2 (er_var rfl rs) (er_var rfl r_one) (by walk_at "sd")) (fun _ h => .inr (.inr (h)))) ens_nil))) (by decide) (by decide)) (fun x6_0 x6_1 v6_0 v6_1 H6 E6 p6_0 p6_1 r6_0 r6_1 => by replace p6_0 := p6_0.symm; subst p6_0; exact en_imp (P := fun z => (NearPost x6_1 z)) (en_call2 (er_c (x := Src.mk) r6_0) (er_c (x := x6_1) r6_1) (k04_mid ok_one (by assumption)).ok) (fun z hz => ⟨x6_1, p6_1, hz⟩)))
    have rs := Rep.mono e5 rs
    have r_one := Rep.mono e5 r_one
    have hs := exF e5 hs
    have g1 := g1.trans e5.y
    have t1 := t1.trans e5.y
    obtain ⟨x6_1, h_x6_1, p_other⟩ := p_other
    have hox := k04_mid ok_one h_x6_1
    have ok_other := p_other.ok
    have el := p_other.low.trans hox.low
    have eh := p_other.high.trans hox.high
    obtain ⟨found, d_found⟩ : ∃ z : (Option (Int × Sg)), z = (partOf one other) := ⟨_, rfl⟩
    refine q_set (α := (Option (Int × Sg))) K (er_is (er_call2 (er_var rfl r_one) (er_var rfl r_other) ⟨ok_one, ok_other, el, eh⟩) d_found.symm) (fun _ => (.s (.s (.s (.s (.s .z)))))) (fun v7 H7 e7 r_7 => ?_)
    have rs := Rep.mono e7 rs
    have r_one := Rep.mono e7 r_one
    have r_other := Rep.mono e7 r_other
    have hs := exF e7 hs
    have g1 := g1.trans e7.y
    have t1 := t1.trans e7.y
    refine q_ifD K (b := (!found.isNone)) (fun σ' H' => ∃ o8_6 o8_7, σ' = [some (V.ref a), some (V.int y1), some v2, some v3, some v5, some v7, o8_6, o8_7, o1_8, o1_9, o1_10, none, none] ∧ Ey H7 H') (fun σ' Z8 pp8 => ?_) (et_t (er_isNNone (er_var rfl r_7))) (fun c8 H8 e8 D8 dn8 => ?_) (fun c8 H8 e8 D8 dn8 => ?_)
    rotate_left
    · skip
      have rs := Rep.mono e8 rs
      have r_one := Rep.mono e8 r_one
      have r_other := Rep.mono e8 r_other
      have r_7 := Rep.mono e8 r_7
      have hs := exF e8 hs
      have g1 := g1.trans e8.y
      have t1 := t1.trans e8.y
      have jx8 := e8.y
      have hcond := c8
      obtain ⟨value, d_value⟩ : ∃ z : (Int × Sg), z = (found.getD ((0 : Int), Sg.mk 0)) := ⟨_, rfl⟩
      refine q_unpP (α := Int) (β := Sg) K (er_is (er_get (x := found) (y := (found.getD ((0 : Int), Sg.mk 0))) (er_var rfl r_7) (by first | exact some_getD5 (nb_t hcond) | exact some_getD5 hc)) d_value.symm) (fun v9a v9b H9 e9 r_9a r_9b => ?_)
      have rs := Rep.mono e9 rs
      have r_one := Rep.mono e9 r_one
      have r_other := Rep.mono e9 r_other
      have r_7 := Rep.mono e9 r_7
      have hs := exF e9 hs
      have g1 := g1.trans e9.y
      have t1 := t1.trans e9.y
      have jx8 := jx8.trans e9.y
      cases r_9a
      cases r_9b
      refine (g_cons (.s (.s (.s (.s (.s (.s .z)))))) (g_cons (.s (.s (.s (.s (.s (.s (.s .z))))))) (g_nil ?_)))
      -- check 1: key_here not in 'udUDhe' or first(one, other, [value_here]) != found
      have ck1 : ((!decide (value.2.c ∈ ("udUDhe" : Str).cps.toList)) || (!decide ((firstVal one other ([value.1] : List Int)) = found))) = false := k05_c1 d_found hcond d_value
      refine l_no K (et_is (a := ((!decide (value.2.c ∈ ("udUDhe" : Str).cps.toList)) || (!decide ((firstVal one other ([value.1] : List Int)) = found)))) (ett_or (et_t (er_notInS (er_var (x := value.2) rfl rfl) er_str)) (fun hc => (et_t (er_neT (α := (Option (Int × Sg))) (er_call3 (er_var rfl r_one) (er_var rfl r_other) (er_lst (eas_cons (er_varI rfl) eas_nil) (Nat.le_of_ble_eq_true rfl)) ⟨ok_one, ok_other⟩) (er_var rfl r_7) good_first (by rw [d_found]; exact good_part) (by decide))))) ck1) (fun H10 e10 => ?_)
      have rs := Rep.mono e10 rs
      have r_one := Rep.mono e10 r_one
      have r_other := Rep.mono e10 r_other
      have r_7 := Rep.mono e10 r_7
      have hs := exF e10 hs
      have g1 := g1.trans e10.y
      have t1 := t1.trans e10.y
      have jx8 := jx8.trans e10.y
      exact dn8 _ _ ⟨_, _, rfl, jx8⟩
    · skip
      have rs := Rep.mono e8 rs
      have r_one := Rep.mono e8 r_one
      have r_other := Rep.mono e8 r_other
      have r_7 := Rep.mono e8 r_7
      have hs := exF e8 hs
      have g1 := g1.trans e8.y
      have t1 := t1.trans e8.y
      have jx8 := e8.y
      have hcond := c8
      refine l_next ?_
      exact dn8 _ _ ⟨_, _, rfl, jx8⟩
    obtain ⟨o8_6, o8_7, rfl, pp8⟩ := pp8
    have rs := Rep.moY pp8 rs
    have r_one := Rep.moY pp8 r_one
    have r_other := Rep.moY pp8 r_other
    have r_7 := Rep.moY pp8 r_7
    have hs := eyF pp8 hs
    have g1 := g1.trans pp8
    have t1 := t1.trans pp8
    obtain ⟨last, d_last⟩ : ∃ z : Int, z = (if (found.isNone) = true then (one.high + 1) else (found.getD ((0 : Int), Sg.mk 0)).1) := ⟨_, rfl⟩
    refine q_setI K (er_is (er_if (et_t (er_isNone (er_var rfl r_7))) (fun hc => (er_add (er_f1 (er_var rfl r_one)) er_int)) (fun hc => (er_p0 (er_get (x := found) (y := (found.getD ((0 : Int), Sg.mk 0))) (er_var rfl r_7) (by first | exact some_getD5 (nb_t hcond) | exact some_getD5 hc))))) d_last.symm) (fun _ => (.s (.s (.s (.s (.s (.s (.s (.s .z))))))))) (fun H11 e11 => ?_)
    have rs := Rep.mono e11 rs
    have r_one := Rep.mono e11 r_one
    have r_other := Rep.mono e11 r_other
    have r_7 := Rep.mono e11 r_7
    have hs := exF e11 hs
    have g1 := g1.trans e11.y
    have t1 := t1.trans e11.y
    have hlast := k05_last ok_one el eh d_found d_last
    have hla := hlast.1
    refine n_set (α := (List Int)) K (P := fun z => ∃ (x14_0 : (List Int)) (x14_1 : (List Int)), ((x14_0.length ≤ 300 ∧ ∀ x_ ∈ x14_0, one.low ≤ x_ ∧ x_ ≤ one.high)) ∧ (x14_1.length = (rng 0 (80 : Int).toNat).length ∧ ∀ y_ ∈ x14_1, (one.low ≤ y_ ∧ y_ ≤ one.high)) ∧ z = (x14_0 ++ x14_1)) ?_ (fun _ => (.s (.s (.s (.s (.s (.s (.s (.s (.s .z)))))))))) (fun some_ v12 H12 p_some_ e12 r_some_ => ?_)
    · exact (en_op2 (P := fun z => ∃ (x14_0 : (List Int)) (x14_1 : (List Int)), ((x14_0.length ≤ 300 ∧ ∀ x_ ∈ x14_0, one.low ≤ x_ ∧ x_ ≤ one.high)) ∧ (x14_1.length = (rng 0 (80 : Int).toNat).length ∧ ∀ y_ ∈ x14_1, (one.low ≤ y_ ∧ y_ ≤ one.high)) ∧ z = (x14_0 ++ x14_1)) (en_call2 (er_var rfl r_one) (er_var rfl r_other) ⟨ok_one, ok_other⟩) (en_imp (P' := fun z => z.length = (rng 0 (80 : Int).toNat).length ∧ ∀ y_ ∈ z, (one.low ≤ y_ ∧ y_ ≤ one.high)) (en_lcY (fun (look : Int) (z : Int) => (one.low ≤ z ∧ z ≤ one.high)) (wkn_of (wk_rng1 er_int ⟨by first | omega | walk_at "sd", by first | omega | walk_at "sd"⟩)) (fun xs h => by subst h; exact (by rw [rng_len]; omega)) (fun xs13 look w13 H13 hpx13 hx13 e13 r13 Q13 q13 => by subst hpx13; exact gn_ok (s0 := [some (V.ref a), some (V.int y1), some v2, some v3, some v5, some v7, o8_6, o8_7, some (V.int last), o1_9, o1_10, none, none]) (s1 := fun w13 => [some (V.ref a), some (V.int y1), some v2, some v3, some v5, some v7, o8_6, o8_7, some (V.int last), o1_9, o1_10, none, some w13]) rfl (.s (.s (.s (.s (.s (.s (.s (.s (.s (.s (.s (.s .z)))))))))))) rfl (fun hw => q13 _ H13 (Ex.refl _) hw (en_call2 (er_var rfl (Rep.mono e13 rs)) (er_var rfl (Rep.mono e13 r_one)) ok_one.fl)))) (fun z h => by obtain ⟨xs, rfl, h2⟩ := h; exact ⟨paired_len h2, paired_all h2 (fun _ _ h => h)⟩)) (fun x14_0 x14_1 v14_0 v14_1 H14 E14 p14_0 p14_1 r14_0 r14_1 => by exact en_of (er_cat (er_c (x := x14_0) r14_0) (er_c (x := x14_1) r14_1) (by simp only [rng_len] at *; omega)) ⟨x14_0, x14_1, p14_0, p14_1, rfl⟩))
    have rs := Rep.mono e12 rs
    have r_one := Rep.mono e12 r_one
    have r_other := Rep.mono e12 r_other
    have r_7 := Rep.mono e12 r_7
    have hs := exF e12 hs
    have g1 := g1.trans e12.y
    have t1 := t1.trans e12.y
    obtain ⟨x14_0, x14_1, h_x14_0, h_x14_1, d_some_⟩ := p_some_
    have hl0 := len_cat5 d_some_ h_x14_0.1 h_x14_1.1
    have hlow0 := low_cat (lo := one.low) d_some_ (fun v hv => (h_x14_0.2 v hv).1) (fun v hv => (h_x14_1.2 v hv).1)
    rw [rng_len] at hl0
    have hlast := k05_last ok_one el eh d_found d_last
    have hla := hlast.1
    refine n_set (α := (List Int)) K (P := fun z => ∃ (x17_1 : (List Int)), (x17_1.length = (rng 0 (40 : Int).toNat).length ∧ ∀ y_ ∈ x17_1, (other.low ≤ y_ ∧ y_ ≤ other.high)) ∧ z = (some_ ++ x17_1)) ?_ (fun _ => (.s (.s (.s (.s (.s (.s (.s (.s (.s .z)))))))))) (fun some_1 v15 H15 p_some_1 e15 r_some_1 => ?_)
    · exact (en_op2 (P := fun z => ∃ (x17_1 : (List Int)), (x17_1.length = (rng 0 (40 : Int).toNat).length ∧ ∀ y_ ∈ x17_1, (other.low ≤ y_ ∧ y_ ≤ other.high)) ∧ z = (some_ ++ x17_1)) (en_is (er_var rfl r_some_)) (en_imp (P' := fun z => z.length = (rng 0 (40 : Int).toNat).length ∧ ∀ y_ ∈ z, (other.low ≤ y_ ∧ y_ ≤ other.high)) (en_lcY (fun (look1 : Int) (z : Int) => (other.low ≤ z ∧ z ≤ other.high)) (wkn_of (wk_rng1 er_int ⟨by first | omega | walk_at "sd", by first | omega | walk_at "sd"⟩)) (fun xs h => by subst h; exact (by rw [rng_len]; omega)) (fun xs16 look1 w16 H16 hpx16 hx16 e16 r16 Q16 q16 => by subst hpx16; exact gn_ok (s0 := [some (V.ref a), some (V.int y1), some v2, some v3, some v5, some v7, o8_6, o8_7, some (V.int last), some v12, o1_10, none, none]) (s1 := fun w16 => [some (V.ref a), some (V.int y1), some v2, some v3, some v5, some v7, o8_6, o8_7, some (V.int last), some v12, o1_10, none, some w16]) rfl (.s (.s (.s (.s (.s (.s (.s (.s (.s (.s (.s (.s .z)))))))))))) rfl (fun hw => q16 _ H16 (Ex.refl _) hw (en_call2 (er_var rfl (Rep.mono e16 rs)) (er_var rfl (Rep.mono e16 r_other)) ok_other.fl)))) (fun z h => by obtain ⟨xs, rfl, h2⟩ := h; exact ⟨paired_len h2, paired_all h2 (fun _ _ h => h)⟩)) (fun x17_0 x17_1 v17_0 v17_1 H17 E17 p17_0 p17_1 r17_0 r17_1 => by replace p17_0 := p17_0.symm; subst p17_0; exact en_of (er_cat (er_c (x := some_) r17_0) (er_c (x := x17_1) r17_1) (by simp only [rng_len] at *; omega)) ⟨x17_1, p17_1, rfl⟩))
    have rs := Rep.mono e15 rs
    have r_one := Rep.mono e15 r_one
    have r_other := Rep.mono e15 r_other
    have r_7 := Rep.mono e15 r_7
    have r_some_ := Rep.mono e15 r_some_
    have hs := exF e15 hs
    have g1 := g1.trans e15.y
    have t1 := t1.trans e15.y
    obtain ⟨x17_1, h_x17_1, d_some_1⟩ := p_some_1
    have hl1 := len_cat5 d_some_1 hl0 h_x17_1.1
    have hlow1 := low_cat (lo := one.low) d_some_1 hlow0 (fun v hv => by have := (h_x17_1.2 v hv).1; omega)
    rw [rng_len] at hl1
    have hlast := k05_last ok_one el eh d_found d_last
    have hla := hlast.1
    refine n_set (α := (List Int)) K (P := fun z => ∃ (x21_1 : (List Int)), (x21_1.length = (rng 0 (60 : Int).toNat).length ∧ ∀ y_ ∈ x21_1, ∃ (x20_1 : Int), (0 ≤ x20_1 ∧ x20_1 < ((1 + last) - one.low)) ∧ y_ = (one.low + x20_1)) ∧ z = (some_1 ++ x21_1)) ?_ (fun _ => (.s (.s (.s (.s (.s (.s (.s (.s (.s .z)))))))))) (fun some_2 v18 H18 p_some_2 e18 r_some_2 => ?_)
    · exact (en_op2 (P := fun z => ∃ (x21_1 : (List Int)), (x21_1.length = (rng 0 (60 : Int).toNat).length ∧ ∀ y_ ∈ x21_1, ∃ (x20_1 : Int), (0 ≤ x20_1 ∧ x20_1 < ((1 + last) - one.low)) ∧ y_ = (one.low + x20_1)) ∧ z = (some_1 ++ x21_1)) (en_is (er_var rfl r_some_1)) (en_imp (P' := fun z => z.length = (rng 0 (60 : Int).toNat).length ∧ ∀ y_ ∈ z, ∃ (x20_1 : Int), (0 ≤ x20_1 ∧ x20_1 < ((1 + last) - one.low)) ∧ y_ = (one.low + x20_1)) (en_lcY (fun (look2 : Int) (z : Int) => ∃ (x20_1 : Int), (0 ≤ x20_1 ∧ x20_1 < ((1 + last) - one.low)) ∧ z = (one.low + x20_1)) (wkn_of (wk_rng1 er_int ⟨by first | omega | walk_at "sd", by first | omega | walk_at "sd"⟩)) (fun xs h => by subst h; exact (by rw [rng_len]; omega)) (fun xs19 look2 w19 H19 hpx19 hx19 e19 r19 Q19 q19 => by subst hpx19; exact gn_ok (s0 := [some (V.ref a), some (V.int y1), some v2, some v3, some v5, some v7, o8_6, o8_7, some (V.int last), some v15, o1_10, none, none]) (s1 := fun w19 => [some (V.ref a), some (V.int y1), some v2, some v3, some v5, some v7, o8_6, o8_7, some (V.int last), some v15, o1_10, none, some w19]) rfl (.s (.s (.s (.s (.s (.s (.s (.s (.s (.s (.s (.s .z)))))))))))) rfl (fun hw => q19 _ H19 (Ex.refl _) hw (en_op2 (P := fun z => ∃ (x20_1 : Int), (0 ≤ x20_1 ∧ x20_1 < ((1 + last) - one.low)) ∧ z = (one.low + x20_1)) (en_is (er_f0 (er_var rfl (Rep.mono e19 r_one)))) (en_drawE (er_var rfl (Rep.mono e19 rs)) (er_sub (er_add er_int (er_varI rfl)) (er_f0 (er_var rfl (Rep.mono e19 r_one)))) ⟨by walk_at "sd", by walk_at "sd"⟩) (fun x20_0 x20_1 v20_0 v20_1 H20 E20 p20_0 p20_1 r20_0 r20_1 => by replace p20_0 := p20_0.symm; subst p20_0; exact en_of (er_add (er_c (x := one.low) r20_0) (er_c (x := x20_1) r20_1)) ⟨x20_1, p20_1, rfl⟩))))) (fun z h => by obtain ⟨xs, rfl, h2⟩ := h; exact ⟨paired_len h2, paired_all h2 (fun _ _ h => h)⟩)) (fun x21_0 x21_1 v21_0 v21_1 H21 E21 p21_0 p21_1 r21_0 r21_1 => by replace p21_0 := p21_0.symm; subst p21_0; exact en_of (er_cat (er_c (x := some_1) r21_0) (er_c (x := x21_1) r21_1) (by simp only [rng_len] at *; omega)) ⟨x21_1, p21_1, rfl⟩))
    have rs := Rep.mono e18 rs
    have r_one := Rep.mono e18 r_one
    have r_other := Rep.mono e18 r_other
    have r_7 := Rep.mono e18 r_7
    have r_some_ := Rep.mono e18 r_some_
    have r_some_1 := Rep.mono e18 r_some_1
    have hs := exF e18 hs
    have g1 := g1.trans e18.y
    have t1 := t1.trans e18.y
    obtain ⟨x21_1, h_x21_1, d_some_2⟩ := p_some_2
    have hl2 := len_cat5 d_some_2 hl1 h_x21_1.1
    have hlow2 := low_cat (lo := one.low) d_some_2 hlow1 (fun v hv => by obtain ⟨x, hx, e⟩ := h_x21_1.2 v hv; omega)
    rw [rng_len] at hl2
    -- check 2: first(one, other, [value_here for value_here in some if value_here < last]) is not None
    have ck2 : (!(firstVal one other ((some_2.filter fun value1 => (decide (value1 < last))).map fun value1 => value1)).isNone) = false := k05_c2 ok_one ok_other el eh hlast hlow2
    refine q_no K (et_is (a := (!(firstVal one other ((some_2.filter fun value1 => (decide (value1 < last))).map fun value1 => value1)).isNone)) (et_t (er_isNNone (er_call3 (er_var rfl r_one) (er_var rfl r_other) (er_lc (fun value1 : Int => (decide (value1 < last))) (fun value1 : Int => value1) (wk_list (er_var rfl r_some_2)) (by omega) (fun value1 w23 H23 hx23 e23 r23 Q23 q23 => gn_ok (s0 := [some (V.ref a), some (V.int y1), some v2, some v3, some v5, some v7, none, o8_7, some (V.int last), some v18, o1_10, none, none]) (s1 := fun w23 => [some (V.ref a), some (V.int y1), some v2, some v3, some v5, some v7, some w23, o8_7, some (V.int last), some v18, o1_10, none, none]) rfl (.s (.s (.s (.s (.s (.s .z)))))) rfl (fun hw => q23 _ H23 (Ex.refl _) hw (et_t (er_lt (er_var rfl r23) (er_varI rfl))) (fun hf => (er_var rfl r23))))) ⟨ok_one, ok_other⟩))) ck2) (fun H22 e22 => ?_)
    have rs := Rep.mono e22 rs
    have r_one := Rep.mono e22 r_one
    have r_other := Rep.mono e22 r_other
    have r_7 := Rep.mono e22 r_7
    have r_some_ := Rep.mono e22 r_some_
    have r_some_1 := Rep.mono e22 r_some_1
    have r_some_2 := Rep.mono e22 r_some_2
    have hs := exF e22 hs
    have g1 := g1.trans e22.y
    have t1 := t1.trans e22.y
    obtain ⟨told, d_told⟩ : ∃ z : Bool, z = ((partOf one other).isNone) := ⟨_, rfl⟩
    refine q_setB K (er_is (er_call2 (er_var rfl r_one) (er_var rfl r_other) ⟨ok_one, ok_other, el, eh⟩) d_told.symm) (fun _ => (.s (.s (.s (.s (.s (.s (.s (.s (.s (.s .z))))))))))) (fun H24 e24 => ?_)
    have rs := Rep.mono e24 rs
    have r_one := Rep.mono e24 r_one
    have r_other := Rep.mono e24 r_other
    have r_7 := Rep.mono e24 r_7
    have r_some_ := Rep.mono e24 r_some_
    have r_some_1 := Rep.mono e24 r_some_1
    have r_some_2 := Rep.mono e24 r_some_2
    have hs := exF e24 hs
    have g1 := g1.trans e24.y
    have t1 := t1.trans e24.y
    -- check 3: told != (found is None) or parting(other, one) != found or (not isinstance(told, bool))
    have ck3 : ((!decide (told = (found.isNone))) || ((!decide ((partOf other one) = found)) || (!true))) = false := k05_c3 d_found d_told
    refine l_no K (et_is (a := ((!decide (told = (found.isNone))) || ((!decide ((partOf other one) = found)) || (!true)))) (ett_or (et_t (er_neB (er_varB rfl) (er_isNone (er_var rfl r_7)))) (fun hc => (ett_or (et_t (er_neT (α := (Option (Int × Sg))) (er_call2 (er_var rfl r_other) (er_var rfl r_one) ⟨ok_other, ok_one, el.symm, eh.symm⟩) (er_var rfl r_7) good_part (by rw [d_found]; exact good_part) (by decide))) (fun hc => (ett_not (et_b (er_isi (b := true) (er_enc (α := Bool) (er_varB rfl)) rfl))))))) ck3) (fun H25 e25 => ?_)
    have rs := Rep.mono e25 rs
    have r_one := Rep.mono e25 r_one
    have r_other := Rep.mono e25 r_other
    have r_7 := Rep.mono e25 r_7
    have r_some_ := Rep.mono e25 r_some_
    have r_some_1 := Rep.mono e25 r_some_1
    have r_some_2 := Rep.mono e25 r_some_2
    have hs := exF e25 hs
    have g1 := g1.trans e25.y
    have t1 := t1.trans e25.y
    exact ⟨t1, _, _, _, _, _, _, _, _, _, _, rfl, g1⟩
  obtain ⟨o1_1, o1_2, o1_3, o1_4, o1_5, o1_6, o1_7, o1_8, o1_9, o1_10, rfl, q1⟩ := pp1
  have hs := eyF q1 hs
  refine q_set (α := Fld) K (er_mkF (f := Fld.mk 0 1000000000000 1000 0 ("next" : Str) ("stop" : Str) 5) er_int (er_powc (k := 1000000000000) ⟨by decide, by decide, by decide⟩ (by decide)) er_int er_int er_str er_str er_int) (fun _ => (.s (.s (.s .z)))) (fun v26 H26 e26 r_26 => ?_)
  have hs := exF e26 hs
  -- check 4: parting(one, one[:4] + ('near',) + one[5:]) != (500, 'u')
  have ck4 : (!decide ((partOf (Fld.mk 0 1000000000000 1000 0 ("next" : Str) ("stop" : Str) 5) (Fld.mk 0 1000000000000 1000 0 ("near" : Str) ("stop" : Str) 5)) = (some (500, (Sg.mk 117))))) = false := k05_c4
  refine q_no K (et_is (a := (!decide ((partOf (Fld.mk 0 1000000000000 1000 0 ("next" : Str) ("stop" : Str) 5) (Fld.mk 0 1000000000000 1000 0 ("near" : Str) ("stop" : Str) 5)) = (some (500, (Sg.mk 117)))))) (et_t (er_neT (α := (Option (Int × Sg))) (er_call2 (er_var rfl r_26) (er_ofV (f := Fld.mk 0 1000000000000 1000 0 ("near" : Str) ("stop" : Str) 5) (ev_cat (ev_cat (ev_slF (ys := [V.int 0, V.int 1000000000000, V.int 1000, V.int 0]) none (some 4) (ev_fld (er_var rfl r_26)) (fun _ _ h => h) (fun _ _ h => ⟨4, rfl, h⟩) (show ¬ ((0 : Nat) = 0 ∧ (4 : Nat) = 7) by decide) rfl) (ev_tup (evs_S (K := K) er_str evs_nil) (Nat.le_of_ble_eq_true rfl)) (by simp [Fld.vs, cutV]) (by simp [Fld.vs, cutV]) (Nat.le_of_ble_eq_true rfl)) (ev_slF (ys := [V.str ("stop" : Str), V.int 5]) (some 5) none (ev_fld (er_var rfl r_26)) (fun _ _ h => ⟨5, rfl, h⟩) (fun _ _ h => h) (show ¬ ((5 : Nat) = 0 ∧ (7 : Nat) = 7) by decide) rfl) (by simp [Fld.vs, cutV]) (by simp [Fld.vs, cutV]) (Nat.le_of_ble_eq_true rfl)) rfl) ⟨(by constructor <;> decide), (by constructor <;> decide), rfl, rfl⟩) (er_some (er_tup2 er_int (er_g (c := 117) rfl))) good_part (goodS (by decide)) (by decide))) ck4) (fun H27 e27 => ?_)
  have r_26 := Rep.mono e27 r_26
  have hs := exF e27 hs
  refine q_set (α := Fld) K (er_ofV (f := Fld.mk 0 1000000000000 1000 0 ("near" : Str) ("stop" : Str) 5) (ev_cat (ev_slF (ys := [V.int 0, V.int 1000000000000, V.int 1000, V.int 0]) none (some 4) (ev_fld (er_var rfl r_26)) (fun _ _ h => h) (fun _ _ h => ⟨4, rfl, h⟩) (show ¬ ((0 : Nat) = 0 ∧ (4 : Nat) = 7) by decide) rfl) (ev_tup (evs_S (K := K) er_str (evs_S (K := K) er_str (evs_I (K := K) er_int evs_nil))) (Nat.le_of_ble_eq_true rfl)) (by simp [Fld.vs, cutV]) (by simp [Fld.vs, cutV]) (Nat.le_of_ble_eq_true rfl)) rfl) (fun _ => (.s (.s (.s (.s (.s (.s (.s (.s (.s (.s (.s .z)))))))))))) (fun v28 H28 e28 r_28 => ?_)
  have r_26 := Rep.mono e28 r_26
  have hs := exF e28 hs
  -- check 5: parting(near_here, near_here[:5] + ('stay', 5)) != (1, 'd') or alike(near_here, near_here[:3] + (7000,) + near_here[4:]) is not True
  have ck5 : ((!decide ((partOf (Fld.mk 0 1000000000000 1000 0 ("near" : Str) ("stop" : Str) 5) (Fld.mk 0 1000000000000 1000 0 ("near" : Str) ("stay" : Str) 5)) = (some (1, (Sg.mk 100))))) || (!decide (((partOf (Fld.mk 0 1000000000000 1000 0 ("near" : Str) ("stop" : Str) 5) (Fld.mk 0 1000000000000 1000 7000 ("near" : Str) ("stop" : Str) 5)).isNone) = true))) = false := k05_c5
  refine q_no K (et_is (a := ((!decide ((partOf (Fld.mk 0 1000000000000 1000 0 ("near" : Str) ("stop" : Str) 5) (Fld.mk 0 1000000000000 1000 0 ("near" : Str) ("stay" : Str) 5)) = (some (1, (Sg.mk 100))))) || (!decide (((partOf (Fld.mk 0 1000000000000 1000 0 ("near" : Str) ("stop" : Str) 5) (Fld.mk 0 1000000000000 1000 7000 ("near" : Str) ("stop" : Str) 5)).isNone) = true)))) (ett_or (et_t (er_neT (α := (Option (Int × Sg))) (er_call2 (er_var rfl r_28) (er_ofV (f := Fld.mk 0 1000000000000 1000 0 ("near" : Str) ("stay" : Str) 5) (ev_cat (ev_slF (ys := [V.int 0, V.int 1000000000000, V.int 1000, V.int 0, V.str ("near" : Str)]) none (some 5) (ev_fld (er_var rfl r_28)) (fun _ _ h => h) (fun _ _ h => ⟨5, rfl, h⟩) (show ¬ ((0 : Nat) = 0 ∧ (5 : Nat) = 7) by decide) rfl) (ev_tup (evs_S (K := K) er_str (evs_I (K := K) er_int evs_nil)) (Nat.le_of_ble_eq_true rfl)) (by simp [Fld.vs, cutV]) (by simp [Fld.vs, cutV]) (Nat.le_of_ble_eq_true rfl)) rfl) ⟨(by constructor <;> decide), (by constructor <;> decide), rfl, rfl⟩) (er_some (er_tup2 er_int (er_g (c := 100) rfl))) good_part (goodS (by decide)) (by decide))) (fun hc => (et_t (er_isNB (er_call2 (er_var rfl r_28) (er_ofV (f := Fld.mk 0 1000000000000 1000 7000 ("near" : Str) ("stop" : Str) 5) (ev_cat (ev_cat (ev_slF (ys := [V.int 0, V.int 1000000000000, V.int 1000]) none (some 3) (ev_fld (er_var rfl r_28)) (fun _ _ h => h) (fun _ _ h => ⟨3, rfl, h⟩) (show ¬ ((0 : Nat) = 0 ∧ (3 : Nat) = 7) by decide) rfl) (ev_tup (evs_I (K := K) er_int evs_nil) (Nat.le_of_ble_eq_true rfl)) (by simp [Fld.vs, cutV]) (by simp [Fld.vs, cutV]) (Nat.le_of_ble_eq_true rfl)) (ev_slF (ys := [V.str ("near" : Str), V.str ("stop" : Str), V.int 5]) (some 4) none (ev_fld (er_var rfl r_28)) (fun _ _ h => ⟨4, rfl, h⟩) (fun _ _ h => h) (show ¬ ((4 : Nat) = 0 ∧ (7 : Nat) = 7) by decide) rfl) (by simp [Fld.vs, cutV]) (by simp [Fld.vs, cutV]) (Nat.le_of_ble_eq_true rfl)) rfl) ⟨(by constructor <;> decide), (by constructor <;> decide), rfl, rfl⟩) er_bl)))) ck5) (fun H29 e29 => ?_)
  have r_26 := Rep.mono e29 r_26
  have r_28 := Rep.mono e29 r_28
  have hs := exF e29 hs
  -- the end 6: parting(near_here, near_here[:3] + (2,) + near_here[4:]) == (0, 'u')
  have ck6 : (decide ((partOf (Fld.mk 0 1000000000000 1000 0 ("near" : Str) ("stop" : Str) 5) (Fld.mk 0 1000000000000 1000 2 ("near" : Str) ("stop" : Str) 5)) = (some (0, (Sg.mk 117))))) = true := k05_c6
  refine l_ret (α := Bool) K (er_is (x := (decide ((partOf (Fld.mk 0 1000000000000 1000 0 ("near" : Str) ("stop" : Str) 5) (Fld.mk 0 1000000000000 1000 2 ("near" : Str) ("stop" : Str) 5)) = (some (0, (Sg.mk 117)))))) (er_eqT (α := (Option (Int × Sg))) (er_call2 (er_var rfl r_28) (er_ofV (f := Fld.mk 0 1000000000000 1000 2 ("near" : Str) ("stop" : Str) 5) (ev_cat (ev_cat (ev_slF (ys := [V.int 0, V.int 1000000000000, V.int 1000]) none (some 3) (ev_fld (er_var rfl r_28)) (fun _ _ h => h) (fun _ _ h => ⟨3, rfl, h⟩) (show ¬ ((0 : Nat) = 0 ∧ (3 : Nat) = 7) by decide) rfl) (ev_tup (evs_I (K := K) er_int evs_nil) (Nat.le_of_ble_eq_true rfl)) (by simp [Fld.vs, cutV]) (by simp [Fld.vs, cutV]) (Nat.le_of_ble_eq_true rfl)) (ev_slF (ys := [V.str ("near" : Str), V.str ("stop" : Str), V.int 5]) (some 4) none (ev_fld (er_var rfl r_28)) (fun _ _ h => ⟨4, rfl, h⟩) (fun _ _ h => h) (show ¬ ((4 : Nat) = 0 ∧ (7 : Nat) = 7) by decide) rfl) (by simp [Fld.vs, cutV]) (by simp [Fld.vs, cutV]) (Nat.le_of_ble_eq_true rfl)) rfl) ⟨(by constructor <;> decide), (by constructor <;> decide), rfl, rfl⟩) (er_some (er_tup2 er_int (er_g (c := 117) rfl))) good_part (goodS (by decide)) (by decide)) ck6) (fun v30 H30 e30 r30 => ?_)
  cases r30
  exact q _
def D_L_source : He.DefD := ⟨("_law_source", none), "_law_source", "_law_source", defArgs s_L_source, defBody s_L_source, defScope s_L_source, [], []⟩
def D_L_draw : He.DefD := ⟨("_law_draw", none), "_law_draw", "_law_draw", defArgs s_L_draw, defBody s_L_draw, defScope s_L_draw, [], []⟩
def D_L_choice : He.DefD := ⟨("_law_choice", none), "_law_choice", "_law_choice", defArgs s_L_choice, defBody s_L_choice, defScope s_L_choice, [], []⟩
def D_L_field : He.DefD := ⟨("_law_field", none), "_law_field", "_law_field", defArgs s_L_field, defBody s_L_field, defScope s_L_field, [], []⟩
def D_grid_of : He.DefD := ⟨("grid_of", none), "grid_of", "grid_of", defArgs s_grid_of, defBody s_grid_of, defScope s_grid_of, [], []⟩
def D_is_word : He.DefD := ⟨("is_word", none), "is_word", "is_word", defArgs s_is_word, defBody s_is_word, defScope s_is_word, [], []⟩
def D_is_between : He.DefD := ⟨("is_between", none), "is_between", "is_between", defArgs s_is_between, defBody s_is_between, defScope s_is_between, [], []⟩
def D_is_field : He.DefD := ⟨("is_field", none), "is_field", "is_field", defArgs s_is_field, defBody s_is_field, defScope s_is_field, [], []⟩
def D_L_near : He.DefD := ⟨("_law_near", none), "_law_near", "_law_near", defArgs s_L_near, defBody s_L_near, defScope s_L_near, [], []⟩
def D_need_field : He.DefD := ⟨("need_field", none), "need_field", "need_field", defArgs s_need_field, defBody s_need_field, defScope s_need_field, [], []⟩
def D_need_both : He.DefD := ⟨("need_both", none), "need_both", "need_both", defArgs s_need_both, defBody s_need_both, defScope s_need_both, [], []⟩
def D_rests_of : He.DefD := ⟨("rests_of", none), "rests_of", "rests_of", defArgs s_rests_of, defBody s_rests_of, defScope s_rests_of, [], []⟩
def D_values_of : He.DefD := ⟨("values_of", none), "values_of", "values_of", defArgs s_values_of, defBody s_values_of, defScope s_values_of, [], []⟩
def D_aim_of : He.DefD := ⟨("aim_of", none), "aim_of", "aim_of", defArgs s_aim_of, defBody s_aim_of, defScope s_aim_of, [], []⟩
def D_many_steps : He.DefD := ⟨("many_steps", none), "many_steps", "many_steps", defArgs s_many_steps, defBody s_many_steps, defScope s_many_steps, [], []⟩
def D_press_key : He.DefD := ⟨("press_key", none), "press_key", "press_key", defArgs s_press_key, defBody s_press_key, defScope s_press_key, [], []⟩
def D_parting_of : He.DefD := ⟨("parting_of", none), "parting_of", "parting_of", defArgs s_parting_of, defBody s_parting_of, defScope s_parting_of, [], []⟩
def D_parting : He.DefD := ⟨("parting", none), "parting", "parting", defArgs s_parting, defBody s_parting, defScope s_parting, [], []⟩
def D_alike : He.DefD := ⟨("alike", none), "alike", "alike", defArgs s_alike, defBody s_alike, defScope s_alike, [], []⟩
def D_L_spots : He.DefD := ⟨("_law_spots", none), "_law_spots", "_law_spots", defArgs s_L_spots, defBody s_L_spots, defScope s_L_spots, [], []⟩
def D_L_nearest : He.DefD := ⟨("_law_nearest", none), "_law_nearest", "_law_nearest", defArgs s_L_nearest, defBody s_L_nearest, defScope s_L_nearest, [], []⟩
def D_L_key : He.DefD := ⟨("_law_key", none), "_law_key", "_law_key", defArgs s_L_key, defBody s_L_key, defScope s_L_key, [], []⟩
def D_L_first : He.DefD := ⟨("_law_first", none), "_law_first", "_law_first", defArgs s_L_first, defBody s_L_first, defScope s_L_first, [], []⟩
def D_L_value : He.DefD := ⟨("_law_value", none), "_law_value", "_law_value", defArgs s_L_value, defBody s_L_value, defScope s_L_value, [], []⟩
def D_law : He.DefD := ⟨("law", none), "law", "law", defArgs s_law, defBody s_law, defScope s_law, [], []⟩
def hfn : List He.DefD := ([D_L_source, D_L_draw, D_L_choice, D_L_field, D_grid_of, D_is_word, D_is_between, D_is_field, D_L_near, D_need_field, D_need_both, D_rests_of, D_values_of, D_aim_of, D_many_steps, D_press_key, D_parting_of, D_parting, D_alike, D_L_spots] : List He.DefD) ++ ([D_L_nearest, D_L_key, D_L_first, D_L_value, D_law] : List He.DefD)
def hfa : List He.Fa := ([.glo "_law_source", .glo "_law_draw", .glo "_law_choice", .glo "_law_field", .glo "grid_of", .glo "is_word", .glo "is_between", .glo "is_field", .glo "_law_near", .glo "need_field", .glo "need_both", .glo "rests_of", .glo "values_of", .glo "aim_of", .glo "many_steps", .glo "press_key", .glo "parting_of", .glo "parting", .glo "alike", .glo "_law_spots"] : List He.Fa) ++ ([.glo "_law_nearest", .glo "_law_key", .glo "_law_first", .glo "_law_value", .glo "law", .free "len", .free "abs", .free "all", .free "any", .free "range", .free "int", .free "str", .free "tuple", .free "bool", .free "isinstance", .free "min", .free "max", .free "list", .free "sum", .free "sorted"] : List He.Fa) ++ ([.free "set", .free "zip", .free "enumerate", .free "dict", .int "MOST" 1000000000000, .str "KEYS" "udUDhe", .glo "OFFS", .glo "ENDS", .int "FEW" 400] : List He.Fa)
def hts : List (Str × List Str) := [("OFFS", ["add", "near", "next"]), ("ENDS", ["round", "stay", "stop"])]
def hloose : List Str := (["StepError", "InvalidField", "Unlike", "MOST", "KEYS", "OFFS", "ENDS", "is_between", "is_word", "grid_of", "is_field", "need_field", "many_steps", "aim_of", "press_key", "FEW", "rests_of", "values_of", "parting_of", "need_both"] : List Str) ++ (["parting", "alike", "_law_source", "_law_draw", "_law_choice", "_law_field", "_law_value", "_law_nearest", "_law_key", "_law_near", "_law_first", "_law_spots"] : List Str)
abbrev hR : PySem.W.OpenRow := PySem.W.OpenLaw.row PySem.Challenge.rw_stepfields_k05_whole_wide_fields_alike
abbrev hk : PySem.W.Hook := hookS 5 hfa hfn hts
def hob (s : PySem.W.SharedT) : He.AlD × Bool := obsS 5 hfa hfn hts (HandSHeadRun.getT s)
theorem hob_eq (s : PySem.W.SharedT) : hob s = hk.obs s.abs := obsS_eq (HandSHeadRun.getT_eq s)
theorem hrun (w : World) : HandSHeadRun.RunEq hR (PySem.W.view hR.prog [36]) hk hob 9000 hloose w := by
  intro os
  kernel_rfl
theorem hfacts {P : Program} {w : World} {K : PySem.W.Frag} {h : Heap} {mg : Str → Option Value} {f : Addr} (X : K.In h) (G : h.Ns mainGlobals mg) (hfa0 : mg ("law" : Str) = some (.ref f)) (c : He.SaysD hfa hfn K) (ct : tabsB hts K = true) :
    ∃ fd : FuncData, (∀ (s : Shared) (v : Value), BindsTo s fd ⟨[v], []⟩ [("_law_script", v)]) ∧ ∀ base : Heap, K.In base → base.Ns mainGlobals mg → FnOk P w K mg base CX0 6 f fd ["_law_script"] (SP_lawdef K) := by
  obtain ⟨fd_L_source, F_L_source⟩ := c.def_ 0 (d := D_L_source) rfl
  obtain ⟨fd_L_draw, F_L_draw⟩ := c.def_ 1 (d := D_L_draw) rfl
  obtain ⟨fd_L_choice, F_L_choice⟩ := c.def_ 2 (d := D_L_choice) rfl
  obtain ⟨fd_L_field, F_L_field⟩ := c.def_ 3 (d := D_L_field) rfl
  obtain ⟨fd_grid_of, F_grid_of⟩ := c.def_ 4 (d := D_grid_of) rfl
  obtain ⟨fd_is_word, F_is_word⟩ := c.def_ 5 (d := D_is_word) rfl
  obtain ⟨fd_is_between, F_is_between⟩ := c.def_ 6 (d := D_is_between) rfl
  obtain ⟨fd_is_field, F_is_field⟩ := c.def_ 7 (d := D_is_field) rfl
  obtain ⟨fd_L_near, F_L_near⟩ := c.def_ 8 (d := D_L_near) rfl
  obtain ⟨fd_need_field, F_need_field⟩ := c.def_ 9 (d := D_need_field) rfl
  obtain ⟨fd_need_both, F_need_both⟩ := c.def_ 10 (d := D_need_both) rfl
  obtain ⟨fd_rests_of, F_rests_of⟩ := c.def_ 11 (d := D_rests_of) rfl
  obtain ⟨fd_values_of, F_values_of⟩ := c.def_ 12 (d := D_values_of) rfl
  obtain ⟨fd_aim_of, F_aim_of⟩ := c.def_ 13 (d := D_aim_of) rfl
  obtain ⟨fd_many_steps, F_many_steps⟩ := c.def_ 14 (d := D_many_steps) rfl
  obtain ⟨fd_press_key, F_press_key⟩ := c.def_ 15 (d := D_press_key) rfl
  obtain ⟨fd_parting_of, F_parting_of⟩ := c.def_ 16 (d := D_parting_of) rfl
  obtain ⟨fd_parting, F_parting⟩ := c.def_ 17 (d := D_parting) rfl
  obtain ⟨fd_alike, F_alike⟩ := c.def_ 18 (d := D_alike) rfl
  obtain ⟨fd_L_spots, F_L_spots⟩ := c.def_ 19 (d := D_L_spots) rfl
  obtain ⟨fd_L_nearest, F_L_nearest⟩ := c.def_ 20 (d := D_L_nearest) rfl
  obtain ⟨fd_L_key, F_L_key⟩ := c.def_ 21 (d := D_L_key) rfl
  obtain ⟨fd_L_first, F_L_first⟩ := c.def_ 22 (d := D_L_first) rfl
  obtain ⟨fd_L_value, F_L_value⟩ := c.def_ 23 (d := D_L_value) rfl
  obtain ⟨fd_law, F_law⟩ := c.def_ 24 (d := D_law) rfl
  have e := hfa0.symm.trans (He.glo_ok X G (c.fact 24 (f := .glo "law") rfl))
  cases e
  have b_L_source : Binds K fd_L_source ["_law_script", "_law_index"] [] := FunD.bindsN F_L_source fun _ _ _ _ _ _ us hl => match us, hl with | [_, _], _ => rfl
  have b_L_draw : Binds K fd_L_draw ["_law_source_here", "_law_size"] [] := FunD.bindsN F_L_draw fun _ _ _ _ _ _ us hl => match us, hl with | [_, _], _ => rfl
  have b_L_choice : Binds K fd_L_choice ["_law_source_here", "_law_items"] [] := FunD.bindsN F_L_choice fun _ _ _ _ _ _ us hl => match us, hl with | [_, _], _ => rfl
  have b_L_field : Binds K fd_L_field ["_law_source_here", "_law_wide"] [] := FunD.bindsN F_L_field fun _ _ _ _ _ _ us hl => match us, hl with | [_, _], _ => rfl
  have b_grid_of : Binds K fd_grid_of ["field"] [] := FunD.bindsN F_grid_of fun _ _ _ _ _ _ us hl => match us, hl with | [_], _ => rfl
  have b_is_word : Binds K fd_is_word ["thing", "words"] [] := FunD.bindsN F_is_word fun _ _ _ _ _ _ us hl => match us, hl with | [_, _], _ => rfl
  have b_is_between : Binds K fd_is_between ["thing", "low", "high"] [] := FunD.bindsN F_is_between fun _ _ _ _ _ _ us hl => match us, hl with | [_, _, _], _ => rfl
  have b_is_field : Binds K fd_is_field ["thing"] [] := FunD.bindsN F_is_field fun _ _ _ _ _ _ us hl => match us, hl with | [_], _ => rfl
  have b_L_near : Binds K fd_L_near ["_law_source_here", "_law_field_here"] [] := FunD.bindsN F_L_near fun _ _ _ _ _ _ us hl => match us, hl with | [_, _], _ => rfl
  have b_need_field : Binds K fd_need_field ["field"] [] := FunD.bindsN F_need_field fun _ _ _ _ _ _ us hl => match us, hl with | [_], _ => rfl
  have b_need_both : Binds K fd_need_both ["one", "other"] [] := FunD.bindsN F_need_both fun _ _ _ _ _ _ us hl => match us, hl with | [_, _], _ => rfl
  have b_rests_of : Binds K fd_rests_of ["field"] [] := FunD.bindsN F_rests_of fun _ _ _ _ _ _ us hl => match us, hl with | [_], _ => rfl
  have b_values_of : Binds K fd_values_of ["field", "many"] [] := FunD.bindsN F_values_of fun _ _ _ _ _ _ us hl => match us, hl with | [_, _], _ => rfl
  have b_aim_of : Binds K fd_aim_of ["field", "value", "many"] [] := FunD.bindsN F_aim_of fun _ _ _ _ _ _ us hl => match us, hl with | [_, _, _], _ => rfl
  have b_many_steps : Binds K fd_many_steps ["field", "key"] [] := FunD.bindsN F_many_steps fun _ _ _ _ _ _ us hl => match us, hl with | [_, _], _ => rfl
  have b_press_key : Binds K fd_press_key ["field", "value", "key"] [] := FunD.bindsN F_press_key fun _ _ _ _ _ _ us hl => match us, hl with | [_, _, _], _ => rfl
  have b_parting_of : Binds K fd_parting_of ["one", "other"] [] := FunD.bindsN F_parting_of fun _ _ _ _ _ _ us hl => match us, hl with | [_, _], _ => rfl
  have b_parting : Binds K fd_parting ["one", "other"] [] := FunD.bindsN F_parting fun _ _ _ _ _ _ us hl => match us, hl with | [_, _], _ => rfl
  have b_alike : Binds K fd_alike ["one", "other"] [] := FunD.bindsN F_alike fun _ _ _ _ _ _ us hl => match us, hl with | [_, _], _ => rfl
  have b_L_spots : Binds K fd_L_spots ["_law_one", "_law_other"] [] := FunD.bindsN F_L_spots fun _ _ _ _ _ _ us hl => match us, hl with | [_, _], _ => rfl
  have b_L_nearest : Binds K fd_L_nearest ["_law_field_here", "_law_value_here"] [] := FunD.bindsN F_L_nearest fun _ _ _ _ _ _ us hl => match us, hl with | [_, _], _ => rfl
  have b_L_key : Binds K fd_L_key ["_law_field_here", "_law_value_here", "_law_key_here"] [] := FunD.bindsN F_L_key fun _ _ _ _ _ _ us hl => match us, hl with | [_, _, _], _ => rfl
  have b_L_first : Binds K fd_L_first ["_law_one", "_law_other", "_law_values"] [] := FunD.bindsN F_L_first fun _ _ _ _ _ _ us hl => match us, hl with | [_, _, _], _ => rfl
  have b_L_value : Binds K fd_L_value ["_law_source_here", "_law_field_here"] [] := FunD.bindsN F_L_value fun _ _ _ _ _ _ us hl => match us, hl with | [_, _], _ => rfl
  have b_law := FunD.bindsA (ps := ["_law_script"]) F_law fun _ _ _ _ _ _ us hl => match us, hl with | [_], _ => rfl
  have T : Top K mg := {
    b_len := He.free_ok X G (c.fact 25 (f := .free "len") rfl)
    b_abs := He.free_ok X G (c.fact 26 (f := .free "abs") rfl)
    b_all := He.free_ok X G (c.fact 27 (f := .free "all") rfl)
    b_any := He.free_ok X G (c.fact 28 (f := .free "any") rfl)
    b_range := He.free_ok X G (c.fact 29 (f := .free "range") rfl)
    b_int := He.free_ok X G (c.fact 30 (f := .free "int") rfl)
    b_str := He.free_ok X G (c.fact 31 (f := .free "str") rfl)
    b_tuple := He.free_ok X G (c.fact 32 (f := .free "tuple") rfl)
    b_bool := He.free_ok X G (c.fact 33 (f := .free "bool") rfl)
    b_isinstance := He.free_ok X G (c.fact 34 (f := .free "isinstance") rfl)
    b_min := He.free_ok X G (c.fact 35 (f := .free "min") rfl)
    b_max := He.free_ok X G (c.fact 36 (f := .free "max") rfl)
    b_list := He.free_ok X G (c.fact 37 (f := .free "list") rfl)
    b_sum := He.free_ok X G (c.fact 38 (f := .free "sum") rfl)
    b_sorted := He.free_ok X G (c.fact 39 (f := .free "sorted") rfl)
    b_set := He.free_ok X G (c.fact 40 (f := .free "set") rfl)
    b_zip := He.free_ok X G (c.fact 41 (f := .free "zip") rfl)
    b_enumerate := He.free_ok X G (c.fact 42 (f := .free "enumerate") rfl)
    b_dict := He.free_ok X G (c.fact 43 (f := .free "dict") rfl)
    g_MOST := He.int_ok X G (c.fact 44 (f := .int "MOST" 1000000000000) rfl)
    g_KEYS := He.str_ok X G (c.fact 45 (f := .str "KEYS" "udUDhe") rfl)
    g_OFFS := ⟨_, He.glo_ok X G (c.fact 46 (f := .glo "OFFS") rfl), fun H => tab_of ct 0 (p := ("OFFS", ["add", "near", "next"])) rfl H⟩
    g_ENDS := ⟨_, He.glo_ok X G (c.fact 47 (f := .glo "ENDS") rfl), fun H => tab_of ct 1 (p := ("ENDS", ["round", "stay", "stop"])) rfl H⟩
    g_FEW := He.int_ok X G (c.fact 48 (f := .int "FEW" 400) rfl) }
  refine ⟨fd_law, fun s v => b_law s [v] rfl, fun base _ _ => ?_⟩
  have C_L_source : Cal P w K mg base CX0 1 "_law_source" ["_law_script", "_law_index"] (SP_L_source K) _ _ := ⟨ok_L_source T F_L_source, He.glo_ok X G (c.fact 0 (f := .glo "_law_source") rfl), F_L_source.kp, b_L_source⟩
  have C_L_draw : Cal P w K mg base CX0 1 "_law_draw" ["_law_source_here", "_law_size"] (SP_L_draw K) _ _ := ⟨ok_L_draw T F_L_draw, He.glo_ok X G (c.fact 1 (f := .glo "_law_draw") rfl), F_L_draw.kp, b_L_draw⟩
  have C_L_choice : Cal P w K mg base CX0 2 "_law_choice" ["_law_source_here", "_law_items"] (SP_L_choice K) _ _ := ⟨ok_L_choice T C_L_draw F_L_choice, He.glo_ok X G (c.fact 2 (f := .glo "_law_choice") rfl), F_L_choice.kp, b_L_choice⟩
  have C_L_field : Cal P w K mg base CX0 3 "_law_field" ["_law_source_here", "_law_wide"] (SP_L_field K) _ _ := ⟨ok_L_field T C_L_draw C_L_choice F_L_field, He.glo_ok X G (c.fact 3 (f := .glo "_law_field") rfl), F_L_field.kp, b_L_field⟩
  have C_grid_of : Cal P w K mg base CX0 1 "grid_of" ["field"] (SP_grid_of K) _ _ := ⟨ok_grid_of T F_grid_of, He.glo_ok X G (c.fact 4 (f := .glo "grid_of") rfl), F_grid_of.kp, b_grid_of⟩
  have C_is_word : Cal P w K mg base CX0 1 "is_word" ["thing", "words"] (SP_is_word K) _ _ := ⟨ok_is_word T F_is_word, He.glo_ok X G (c.fact 5 (f := .glo "is_word") rfl), F_is_word.kp, b_is_word⟩
  have C_is_between : Cal P w K mg base CX0 1 "is_between" ["thing", "low", "high"] (SP_is_between K) _ _ := ⟨ok_is_between T F_is_between, He.glo_ok X G (c.fact 6 (f := .glo "is_between") rfl), F_is_between.kp, b_is_between⟩
  have C_is_field : Cal P w K mg base CX0 2 "is_field" ["thing"] (SP_is_field K) _ _ := ⟨ok_is_field T C_is_between C_is_word C_grid_of F_is_field, He.glo_ok X G (c.fact 7 (f := .glo "is_field") rfl), F_is_field.kp, b_is_field⟩
  have C_L_near : Cal P w K mg base CX0 3 "_law_near" ["_law_source_here", "_law_field_here"] (SP_L_near K) _ _ := ⟨ok_L_near T C_L_draw C_L_choice C_is_field F_L_near, He.glo_ok X G (c.fact 8 (f := .glo "_law_near") rfl), F_L_near.kp, b_L_near⟩
  have C_need_field : Cal P w K mg base CX0 3 "need_field" ["field"] (SP_need_field K) _ _ := ⟨ok_need_field T C_is_field F_need_field, He.glo_ok X G (c.fact 9 (f := .glo "need_field") rfl), F_need_field.kp, b_need_field⟩
  have C_need_both : Cal P w K mg base CX0 4 "need_both" ["one", "other"] (SP_need_both K) _ _ := ⟨ok_need_both T C_need_field F_need_both, He.glo_ok X G (c.fact 10 (f := .glo "need_both") rfl), F_need_both.kp, b_need_both⟩
  have C_rests_of : Cal P w K mg base CX0 1 "rests_of" ["field"] (SP_rests_of K) _ _ := ⟨ok_rests_of T F_rests_of, He.glo_ok X G (c.fact 11 (f := .glo "rests_of") rfl), F_rests_of.kp, b_rests_of⟩
  have C_values_of : Cal P w K mg base CX0 2 "values_of" ["field", "many"] (SP_values_of K) _ _ := ⟨ok_values_of T C_rests_of F_values_of, He.glo_ok X G (c.fact 12 (f := .glo "values_of") rfl), F_values_of.kp, b_values_of⟩
  have C_aim_of : Cal P w K mg base CX0 1 "aim_of" ["field", "value", "many"] (SP_aim_of K) _ _ := ⟨ok_aim_of T F_aim_of, He.glo_ok X G (c.fact 13 (f := .glo "aim_of") rfl), F_aim_of.kp, b_aim_of⟩
  have C_many_steps : Cal P w K mg base CX0 1 "many_steps" ["field", "key"] (SP_many_steps K) _ _ := ⟨ok_many_steps T F_many_steps, He.glo_ok X G (c.fact 14 (f := .glo "many_steps") rfl), F_many_steps.kp, b_many_steps⟩
  have C_press_key : Cal P w K mg base CX0 2 "press_key" ["field", "value", "key"] (SP_press_key K) _ _ := ⟨ok_press_key T C_many_steps C_aim_of F_press_key, He.glo_ok X G (c.fact 15 (f := .glo "press_key") rfl), F_press_key.kp, b_press_key⟩
  have C_parting_of : Cal P w K mg base CX0 3 "parting_of" ["one", "other"] (SP_parting_of K) _ _ := ⟨ok_parting_of T C_values_of C_press_key F_parting_of, He.glo_ok X G (c.fact 16 (f := .glo "parting_of") rfl), F_parting_of.kp, b_parting_of⟩
  have C_parting : Cal P w K mg base CX0 5 "parting" ["one", "other"] (SP_parting K) _ _ := ⟨ok_parting T C_need_both C_parting_of F_parting, He.glo_ok X G (c.fact 17 (f := .glo "parting") rfl), F_parting.kp, b_parting⟩
  have C_alike : Cal P w K mg base CX0 5 "alike" ["one", "other"] (SP_alike K) _ _ := ⟨ok_alike T C_need_both C_parting_of F_alike, He.glo_ok X G (c.fact 18 (f := .glo "alike") rfl), F_alike.kp, b_alike⟩
  have C_L_spots : Cal P w K mg base CX0 1 "_law_spots" ["_law_one", "_law_other"] (SP_L_spots K) _ _ := ⟨ok_L_spots T F_L_spots, He.glo_ok X G (c.fact 19 (f := .glo "_law_spots") rfl), F_L_spots.kp, b_L_spots⟩
  have C_L_nearest : Cal P w K mg base CX0 1 "_law_nearest" ["_law_field_here", "_law_value_here"] (SP_L_nearest K) _ _ := ⟨ok_L_nearest T F_L_nearest, He.glo_ok X G (c.fact 20 (f := .glo "_law_nearest") rfl), F_L_nearest.kp, b_L_nearest⟩
  have C_L_key : Cal P w K mg base CX0 2 "_law_key" ["_law_field_here", "_law_value_here", "_law_key_here"] (SP_L_key K) _ _ := ⟨ok_L_key T C_L_nearest F_L_key, He.glo_ok X G (c.fact 21 (f := .glo "_law_key") rfl), F_L_key.kp, b_L_key⟩
  have C_L_first : Cal P w K mg base CX0 3 "_law_first" ["_law_one", "_law_other", "_law_values"] (SP_L_first K) _ _ := ⟨ok_L_first T C_L_key F_L_first, He.glo_ok X G (c.fact 22 (f := .glo "_law_first") rfl), F_L_first.kp, b_L_first⟩
  have C_L_value : Cal P w K mg base CX0 3 "_law_value" ["_law_source_here", "_law_field_here"] (SP_L_value K) _ _ := ⟨ok_L_value T C_L_draw C_L_choice F_L_value, He.glo_ok X G (c.fact 23 (f := .glo "_law_value") rfl), F_L_value.kp, b_L_value⟩
  exact ok_law T C_L_source C_L_choice C_L_field C_L_near C_parting C_L_first C_L_spots C_L_value C_L_draw C_alike F_law
end Sf
open PySem PySem.W PySem.Calls PyProof.Rows
set_option maxHeartbeats 0 in
theorem PySem.Challenge.cw_stepfields_k05_whole_wide_fields_alike_holds : PySem.Challenge.rw_stepfields_k05_whole_wide_fields_alike.Holds := by
  w_on; o_law
  refine HandSHeadRun.head_any (r := OpenLaw.row PySem.Challenge.rw_stepfields_k05_whole_wide_fields_alike) (q := view (OpenLaw.row PySem.Challenge.rw_stepfields_k05_whole_wide_fields_alike).prog [36]) (H := Sf.hk) (ob := Sf.hob) (M := 9000) (loose := Sf.hloose) (d := HandSHeadRun.topDef (OpenLaw.row PySem.Challenge.rw_stepfields_k05_whole_wide_fields_alike).prog 36) (kwd := []) Sf.hob_eq
    (by kernel_rfl) (fun s => by kernel_rfl) Sf.hrun (by kernel_rfl) (by kernel_rfl) (by kernel_rfl) (by rfl) (by first | assumption | decide +kernel) (by decide +kernel) ⟨rfl, rfl, rfl, rfl, rfl, by decide +kernel⟩ ?hw ?hc
  case hw => w_witness2
  case hc =>
    refine L2.walk_ofE (l := PySem.Challenge.rw_stepfields_k05_whole_wide_fields_alike) (n := 63) (k := 6) (x := "_law_script") (CX := L2.CX0) rfl (by decide) (by kernel_rfl) ⟨rfl, by decide, by decide⟩ ?F (fun _ _ _ _ z => z)
    intro w mg fa h Y G hmg0
    obtain ⟨K, KX, c, ct⟩ := Y
    have hmg : mg ("law" : PySem.Str) = some (.ref fa) := by
      have e : (HandSHeadRun.topDef (OpenLaw.row PySem.Challenge.rw_stepfields_k05_whole_wide_fields_alike).prog 36).name = ("law" : PySem.Str) := by kernel_rfl
      rw [← e]
      exact hmg0
    obtain ⟨fd, hb, hF⟩ := Sf.hfacts (P := (PySem.Challenge.rw_stepfields_k05_whole_wide_fields_alike).prog) (w := w) KX G hmg c ct
    exact ⟨K, fd, Sf.SP_lawdef K, KX, hb, fun H a ns hl hO hS => ⟨a, ns, rfl, Sf.SqF.of hO hS, hl, fun _ => rfl⟩, hF⟩
