import PyProof.Rows.All
import Wide.All
import OpenK.AllK
import Wide.FinOn
import HandS.ForMost
import HandS.Evl
import HandS.Steps
import HandS.Wide
import HandS.Defaults
import HandS.IsInst
import HandS.SetFor
import HandS.Walk
import PyProof.ListStr
import HandS.TupLe
import HandS.Zip
import HandS.Text
import HandS.Star
import HandS.More
import HandS.SortInts
import HandS.Set
import HandS.Strs
import KE.GoesMore
import HandS.Conv
import KE.KStateDown
import Lean
import HandS.WordsExc
import HandS.Head0
import HandS.Head1
import HandS.Head2
import HandS.HeadEnd
import HandS.HeadHook1
import HandS.HeadHook2
import HandS.Deep
import HandS.Style
import PySem.Challenge.RW_stepfields_k18_whole_orders_on_wide_fiel
set_option Elab.async false
set_option linter.all false
set_option maxRecDepth 100000
set_option maxHeartbeats 4000000
namespace Sf
open PySem PySem.Spec PyProof.Rows L2 Evl

/-! things that change in place: a list that is being built (MutO: its content is told by the object alone), dicts, sets, instances -/
def MutO (a : Addr) (ws : List V) : HO := .ext fun h => ws.length ≤ sizeLine ∧ ∃ (its : List Value) (n : Nat), Vals ws its ∧ h.get? a = some { cls := .type "list", data := .seq its.toArray n }
def SrcO (S : Addr) : HO := .ext fun h => ∃ (x y : Int) (its : List Value) (n : Nat), 0 ≤ y ∧ y < 2147483647 ∧ Vals [.int x, .int y] its ∧ h.get? S = some { cls := .type "list", data := .seq its.toArray n }
inductive IsM (a : Addr) : HO → Prop
  | m (ws : List V) : IsM a (MutO a ws)
  | dK (k : List (Key × V)) : IsM a (.dK k)
  | dT (k : List (List Key × V)) : IsM a (.dT k)
  | set (S : Int → Bool) (n : Nat) : IsM a (.set S n)
  | tbl (ps : Array Value) : IsM a (.tbl ps)
/-- all but such things is kept -/
def Ey (H H' : Hp) : Prop := ∀ a o, H a = some o → IsM a o ∨ H' a = some o
theorem Ey.refl (H : Hp) : Ey H H := fun _ _ h => .inr h
theorem _root_.Evl.Ex.y {H H' : Hp} (e : Ex H H') : Ey H H' := fun a o h => .inr (e a o h)
theorem Ey.trans {H H1 H2 : Hp} (a : Ey H H1) (b : Ey H1 H2) : Ey H H2 := fun x o h => by
  rcases a x o h with z | z
  · exact .inl z
  · exact b x o z
theorem ey_lst {H H' : Hp} {a : Addr} {xs : List V} (e : Ey H H') (h : H a = some (.lst xs)) : H' a = some (.lst xs) := by
  rcases e _ _ h with z | z
  · cases z
  · exact z
theorem ey_tup {H H' : Hp} {a : Addr} {xs : List V} (e : Ey H H') (h : H a = some (.tup xs)) : H' a = some (.tup xs) := by
  rcases e _ _ h with z | z
  · cases z
  · exact z
theorem ey_frz {H H' : Hp} {a : Addr} {o : Obj} {u : HO} (e : Ey H H') (h : H a = some (.frz o u)) : H' a = some (.frz o u) := by
  rcases e _ _ h with z | z
  · cases z
  · exact z
theorem ey_l {K : PySem.W.Frag} {H H' : Hp} {a : Addr} {xs : List V} (e : Ey H H') (h : SqL K H a xs) : SqL K H' a xs := by
  rcases h with (h | ⟨o, h⟩) | h
  · exact .inl (.inl (ey_lst e h))
  · exact .inl (.inr ⟨o, ey_frz e h⟩)
  · exact .inr h
theorem ey_t {K : PySem.W.Frag} {H H' : Hp} {a : Addr} {xs : List V} (e : Ey H H') (h : SqT K H a xs) : SqT K H' a xs := by
  rcases h with (h | ⟨o, h⟩) | h
  · exact .inl (.inl (ey_tup e h))
  · exact .inl (.inr ⟨o, ey_frz e h⟩)
  · exact .inr h
def heapAt (a : Addr) (o : Obj) : Heap := { objs := Array.replicate (a + 1) o }
theorem heapAt_get (a : Addr) (x y : Int) : (heapAt a { cls := .type "list", data := .seq #[Value.int x 0, Value.int y 0] 0 }).get? a = some { cls := .type "list", data := .seq #[Value.int x 0, Value.int y 0] 0 } := by
  unfold heapAt Heap.get?
  rw [Array.getElem?_replicate, if_pos (Nat.lt_succ_self a)]
theorem src_ne {S : Addr} {ws : List V} : SrcO S ≠ MutO S ws := by
  intro e
  unfold SrcO MutO at e
  have ef := HO.ext.inj e
  have go : ∀ x : Int, ∃ u, ws[0]? = some u ∧ ∃ t, RelV u (Value.int x t) := by
    intro x
    have e1 := congrFun ef (heapAt S { cls := .type "list", data := .seq #[Value.int x 0, Value.int 0 0] 0 })
    have p : (∃ (x' y' : Int) (its : List Value) (n : Nat), 0 ≤ y' ∧ y' < 2147483647 ∧ Vals [.int x', .int y'] its ∧ (heapAt S { cls := .type "list", data := .seq #[Value.int x 0, Value.int 0 0] 0 }).get? S = some { cls := .type "list", data := .seq its.toArray n }) :=
      ⟨x, 0, [Value.int x 0, Value.int 0 0], 0, by decide, by decide, .cons ⟨0, rfl⟩ (.cons ⟨0, rfl⟩ .nil), heapAt_get S x 0⟩
    have p2 : ws.length ≤ sizeLine ∧ ∃ (its : List Value) (n : Nat), Vals ws its ∧ (heapAt S { cls := .type "list", data := .seq #[Value.int x 0, Value.int 0 0] 0 }).get? S = some { cls := .type "list", data := .seq its.toArray n } := Eq.mp e1 p
    rw [heapAt_get] at p2
    obtain ⟨_, its, n, r, e2⟩ := p2
    have e3 : [Value.int x 0, Value.int 0 0] = its := by
      have e4 := Option.some.inj e2
      injection e4 with _ _ e5
      injection e5 with e6
      exact congrArg Array.toList e6
    subst e3
    cases r with
    | cons r0 _ => exact ⟨_, rfl, 0, r0⟩
  obtain ⟨u, h1, t1, r1⟩ := go 0
  obtain ⟨v, h2, t2, r2⟩ := go 1
  rw [h1] at h2
  cases h2
  cases u with
  | int i =>
    obtain ⟨t, e1⟩ := r1
    obtain ⟨t', e2⟩ := r2
    injection e1 with e1 _
    injection e2 with e2 _
    omega
  | _ => first | (obtain ⟨_, e1⟩ := r1; cases e1) | (have e1 : Value.int 0 t1 = _ := r1; cases e1)
theorem ey_src {H H' : Hp} {S : Addr} (e : Ey H H') (h : H S = some (SrcO S)) : H' S = some (SrcO S) := by
  rcases e _ _ h with z | z
  · have g : ∀ o, IsM S o → o = SrcO S → False := by
      intro o z e
      cases z with
      | m ws => exact src_ne e.symm
      | _ => unfold SrcO at e; cases e
    exact (g _ z rfl).elim
  · exact z
/-- a list that is known to the object: the script -/
def SqF (K : PySem.W.Frag) (H : Hp) (a : Addr) (xs : List V) : Prop := (∃ o, H a = some (.frz o (.lst xs))) ∨ ((∀ H', SqL K H' a xs))
theorem SqF.l {K : PySem.W.Frag} {H : Hp} {a : Addr} {xs : List V} (h : SqF K H a xs) : SqL K H a xs := by
  rcases h with ⟨o, h⟩ | h
  · exact .inl (.inr ⟨o, h⟩)
  · exact h H
theorem SqF.of {K : PySem.W.Frag} {H : Hp} {a : Addr} {xs : List V} (o : Only H) (h : SqL K H a xs) : SqF K H a xs := by
  rcases h with (h | ⟨ob, h⟩) | h
  · rcases o a with z | ⟨_, _, z⟩
    · rw [z] at h
      cases h
    · rw [z] at h
      cases h
  · exact .inl ⟨ob, h⟩
  · exact .inr fun _ => .inr h
theorem eyF {K : PySem.W.Frag} {H H' : Hp} {a : Addr} {xs : List V} (e : Ey H H') (h : SqF K H a xs) : SqF K H' a xs := by
  rcases h with ⟨o, h⟩ | h
  · exact .inl ⟨o, ey_frz e h⟩
  · exact .inr h
theorem exF {K : PySem.W.Frag} {H H' : Hp} {a : Addr} {xs : List V} (e : Ex H H') (h : SqF K H a xs) : SqF K H' a xs := eyF e.y h
theorem zF {K : PySem.W.Frag} {H : Hp} {a l : Addr} {xs ws : List V} {o : HO} (hl : H l = some (.lst ws)) (h : SqF K H a xs) : SqF K (upd H l o) a xs := by
  rcases h with ⟨ob, h⟩ | h
  · exact .inl ⟨ob, by rw [upd_ne (ne_of h hl (by intro z; cases z))]; exact h⟩
  · exact .inr h
/-! typed data over the abstract heap -/
class Rep (α : Type) where
  rel : PySem.W.Frag → Hp → V → α → Prop
  moY : ∀ {K : PySem.W.Frag} {H H' : Hp} {v : V} {x : α}, Ey H H' → rel K H v x → rel K H' v x
theorem Rep.mono {α : Type} [Rep α] {K : PySem.W.Frag} {H H' : Hp} {v : V} {x : α} (e : Ex H H') (h : Rep.rel K H v x) : Rep.rel K H' v x := Rep.moY e.y h
instance : Rep Int := ⟨fun _ _ v x => v = .int x, fun _ h => h⟩
instance : Rep Bool := ⟨fun _ _ v x => v = .bl x, fun _ h => h⟩
instance : Rep Str := ⟨fun _ _ v x => v = .str x, fun _ h => h⟩
instance : Rep Unit := ⟨fun _ _ v _ => v = .non, fun _ h => h⟩
instance : Rep V := ⟨fun _ _ v x => v = x, fun _ h => h⟩
/-- a text of one sign -/
structure Sg where
  c : Nat
deriving DecidableEq
instance : Rep Sg := ⟨fun _ _ v x => v = .str ⟨#[x.c]⟩, fun _ h => h⟩
/-- a field's seven parts -/
structure Fld where
  low : Int
  high : Int
  step : Int
  base : Int
  off : Str
  ends : Str
  big : Int
deriving DecidableEq
def Fld.vs (f : Fld) : List V := [.int f.low, .int f.high, .int f.step, .int f.base, .str f.off, .str f.ends, .int f.big]
instance : Rep Fld := ⟨fun K H v f => ∃ a, v = .ref a ∧ SqT K H a f.vs, fun e ⟨a, h1, h2⟩ => ⟨a, h1, ey_t e h2⟩⟩
instance {α β : Type} [Rep α] [Rep β] : Rep (α × β) := ⟨fun K H v x => ∃ a v1 v2, v = .ref a ∧ SqT K H a [v1, v2] ∧ Rep.rel K H v1 x.1 ∧ Rep.rel K H v2 x.2,
  fun e ⟨a, v1, v2, h, h1, h2, h3⟩ => ⟨a, v1, v2, h, ey_t e h1, Rep.moY e h2, Rep.moY e h3⟩⟩
structure Tri (α β γ : Type) where
  a : α
  b : β
  c : γ
deriving DecidableEq
instance {α β γ : Type} [Rep α] [Rep β] [Rep γ] : Rep (Tri α β γ) := ⟨fun K H v x => ∃ a v1 v2 v3, v = .ref a ∧ SqT K H a [v1, v2, v3] ∧ Rep.rel K H v1 x.a ∧ Rep.rel K H v2 x.b ∧ Rep.rel K H v3 x.c,
  fun e ⟨a, v1, v2, v3, h, h1, h2, h3, h4⟩ => ⟨a, v1, v2, v3, h, ey_t e h1, Rep.moY e h2, Rep.moY e h3, Rep.moY e h4⟩⟩
def rels {α : Type} [Rep α] (K : PySem.W.Frag) (H : Hp) : List V → List α → Prop := Paired (fun v x => Rep.rel K H v x)
theorem rels_moY {α : Type} [Rep α] {K : PySem.W.Frag} {H H' : Hp} {vs : List V} {xs : List α} (e : Ey H H') (h : rels K H vs xs) : rels K H' vs xs := Paired.mapP h fun _ _ => Rep.moY e
theorem rels_mono {α : Type} [Rep α] {K : PySem.W.Frag} {H H' : Hp} {vs : List V} {xs : List α} (e : Ex H H') (h : rels K H vs xs) : rels K H' vs xs := rels_moY e.y h
instance {α : Type} [Rep α] : Rep (List α) := ⟨fun K H v xs => ∃ a vs, v = .ref a ∧ H a = some (.lst vs) ∧ rels K H vs xs, fun e ⟨a, vs, h, h1, h2⟩ => ⟨a, vs, h, ey_lst e h1, rels_moY e h2⟩⟩
/-- a tuple of things of one kind -/
structure Tpl (α : Type) where
  l : List α
deriving DecidableEq
instance {α : Type} [Rep α] : Rep (Tpl α) := ⟨fun K H v xs => ∃ a vs, v = .ref a ∧ SqT K H a vs ∧ rels K H vs xs.l, fun e ⟨a, vs, h, h1, h2⟩ => ⟨a, vs, h, ey_t e h1, rels_moY e h2⟩⟩
/-- None or a thing -/
instance {α : Type} [Rep α] : Rep (Option α) := ⟨fun K H v x => match x with
  | none => v = .non
  | some y => Rep.rel K H v y, fun {K H H' v x} e h => by
    cases x with
    | none => exact h
    | some y => exact Rep.moY e h⟩

/-- data that no change of a list touches -/
class Imm (α : Type) [Rep α] : Prop where
  imm : ∀ {K : PySem.W.Frag} {H : Hp} {v : V} {x : α} {l : Addr} {ws ws' : List V}, H l = some (.lst ws) → Rep.rel K H v x → Rep.rel K (upd H l (.lst ws')) v x
theorem sqT_imm {K : PySem.W.Frag} {H : Hp} {a l : Addr} {xs ws ws' : List V} (hl : H l = some (.lst ws)) (h : SqT K H a xs) : SqT K (upd H l (.lst ws')) a xs := by
  rcases h with (h | ⟨o, h⟩) | h
  · exact .inl (.inl (by rw [upd_ne (ne_of h hl (by intro z; cases z))]; exact h))
  · exact .inl (.inr ⟨o, by rw [upd_ne (ne_of h hl (by intro z; cases z))]; exact h⟩)
  · exact .inr h
instance : Imm Int := ⟨fun _ h => h⟩
instance : Imm Bool := ⟨fun _ h => h⟩
instance : Imm Str := ⟨fun _ h => h⟩
instance : Imm Unit := ⟨fun _ h => h⟩
instance : Imm V := ⟨fun _ h => h⟩
instance : Imm Sg := ⟨fun _ h => h⟩
instance : Imm Fld := ⟨fun hl ⟨a, h, hs⟩ => ⟨a, h, sqT_imm hl hs⟩⟩
instance {α β : Type} [Rep α] [Rep β] [Imm α] [Imm β] : Imm (α × β) := ⟨fun hl ⟨a, v1, v2, h, hs, h1, h2⟩ => ⟨a, v1, v2, h, sqT_imm hl hs, Imm.imm hl h1, Imm.imm hl h2⟩⟩
instance {α β γ : Type} [Rep α] [Rep β] [Rep γ] [Imm α] [Imm β] [Imm γ] : Imm (Tri α β γ) := ⟨fun hl ⟨a, v1, v2, v3, h, hs, h1, h2, h3⟩ => ⟨a, v1, v2, v3, h, sqT_imm hl hs, Imm.imm hl h1, Imm.imm hl h2, Imm.imm hl h3⟩⟩
theorem rels_imm {α : Type} [Rep α] [Imm α] {K : PySem.W.Frag} {H : Hp} {vs : List V} {xs : List α} {l : Addr} {ws ws' : List V} (hl : H l = some (.lst ws)) (h : rels K H vs xs) : rels K (upd H l (.lst ws')) vs xs := Paired.mapP h fun _ _ => Imm.imm hl
instance {α : Type} [Rep α] [Imm α] : Imm (Tpl α) := ⟨fun hl ⟨a, vs, h, hs, hr⟩ => ⟨a, vs, h, sqT_imm hl hs, rels_imm hl hr⟩⟩
instance {α : Type} [Rep α] [Imm α] : Imm (Option α) := ⟨fun {K H v x l ws ws'} hl h => by
  cases x with
  | none => exact h
  | some y => exact Imm.imm (x := y) hl h⟩

/-! what evaluates to what -/
def ER {α : Type} [Rep α] (K : PySem.W.Frag) (te : TE) (σ : L2.St) (H : Hp) (x : α) : Prop := ∀ H1, Ex H H1 → ∀ Q : VK, (∀ v H2, Ex H1 H2 → Rep.rel K H2 v x → Q v H2) → te σ H1 Q
def ET (_ : PySem.W.Frag) (tt : TT) (σ : L2.St) (H : Hp) (b : Bool) : Prop := EvT tt σ H b

section
variable {K : PySem.W.Frag} {σ : L2.St} {H H' : Hp} {ta tb te tc tx : TE} {t u : TT} {i j : Int} {v : V} {a b : Bool}
theorem er_var {α : Type} [Rep α] {x : α} {n : Nat} (h : σ[n]? = some (some v)) (r : Rep.rel K H v x) : ER K (tVar n) σ H x := fun H1 e _ q => ⟨v, h, q v H1 (Ex.refl H1) (Rep.mono e r)⟩
theorem er_varI {n : Nat} (h : σ[n]? = some (some (.int i))) : ER K (tVar n) σ H i := er_var h rfl
theorem er_varB {n : Nat} (h : σ[n]? = some (some (.bl a))) : ER K (tVar n) σ H a := er_var h rfl
theorem er_varS {n : Nat} {x : Str} (h : σ[n]? = some (some (.str x))) : ER K (tVar n) σ H x := er_var h rfl
theorem er_int : ER K (tC (.int i)) σ H i := fun H1 _ _ q => q _ H1 (Ex.refl H1) rfl
theorem er_bl : ER K (tC (.bl a)) σ H a := fun H1 _ _ q => q _ H1 (Ex.refl H1) rfl
theorem er_str {x : Str} : ER K (tC (.str x)) σ H x := fun H1 _ _ q => q _ H1 (Ex.refl H1) rfl
theorem er_ref {α : Type} [Rep α] {x : α} {p : Addr} (r : Rep.rel K H (.ref p) x) : ER K (tC (.ref p)) σ H x := fun H1 e _ q => q _ H1 (Ex.refl H1) (Rep.mono e r)
/-- two rng by a rule -/
theorem er_II {β : Type} [Rep β] {r : R2} {z : β} (ha : ER K ta σ H i) (hb : ER K tb σ H j) (hr : ∀ H1 (Q : VK), (∀ v, Rep.rel K H1 v z → Q v H1) → r (.int i) (.int j) H1 Q) : ER K (tOp r ta tb) σ H z := fun H1 e Q q =>
  ha H1 e _ fun v1 H2 e2 r1 => hb H2 (e.trans e2) _ fun v2 H3 e3 r2 => by
    cases r1
    cases r2
    exact hr H3 Q fun v rv => q v H3 (e2.trans e3) rv
theorem er_add (ha : ER K ta σ H i) (hb : ER K tb σ H j) : ER K (tOp (rI0 fun i j => .int (i + j)) ta tb) σ H (i + j) := er_II ha hb fun H1 Q q => ⟨i, j, rfl, rfl, q _ rfl⟩
theorem er_sub (ha : ER K ta σ H i) (hb : ER K tb σ H j) : ER K (tOp (rI0 fun i j => .int (i - j)) ta tb) σ H (i - j) := er_II ha hb fun H1 Q q => ⟨i, j, rfl, rfl, q _ rfl⟩
theorem er_mul (ha : ER K ta σ H i) (hb : ER K tb σ H j) (c : CMul i j) : ER K (tOp (rI CMul fun i j => .int (i * j)) ta tb) σ H (i * j) := er_II ha hb fun H1 Q q => ⟨i, j, rfl, rfl, c, q _ rfl⟩
theorem er_div (ha : ER K ta σ H i) (hb : ER K tb σ H j) (c : CDivW i j) : ER K (tOp (rI CDivW fun i j => .int (i / j)) ta tb) σ H (i / j) := er_II ha hb fun H1 Q q => ⟨i, j, rfl, rfl, c, q _ rfl⟩
theorem er_mod (ha : ER K ta σ H i) (hb : ER K tb σ H j) (c : 0 < j) : ER K (tOp (rI (fun _ j => 0 < j) fun i j => .int (i % j)) ta tb) σ H (i % j) := er_II ha hb fun H1 Q q => ⟨i, j, rfl, rfl, c, q _ rfl⟩
theorem er_pow (ha : ER K ta σ H i) (hb : ER K tb σ H j) (c : CPow i j) : ER K (tOp (rI CPow fun i j => .int (i ^ j.toNat)) ta tb) σ H (i ^ j.toNat) := er_II ha hb fun H1 Q q => ⟨i, j, rfl, rfl, c, q _ rfl⟩
theorem er_lt (ha : ER K ta σ H i) (hb : ER K tb σ H j) : ER K (tOp (rI0 fun i j => .bl (decide (i < j))) ta tb) σ H (decide (i < j)) := er_II ha hb fun H1 Q q => ⟨i, j, rfl, rfl, q _ rfl⟩
theorem er_le (ha : ER K ta σ H i) (hb : ER K tb σ H j) : ER K (tOp (rI0 fun i j => .bl (decide (i ≤ j))) ta tb) σ H (decide (i ≤ j)) := er_II ha hb fun H1 Q q => ⟨i, j, rfl, rfl, q _ rfl⟩
theorem er_gt (ha : ER K ta σ H i) (hb : ER K tb σ H j) : ER K (tOp (rI0 fun i j => .bl (decide (j < i))) ta tb) σ H (decide (j < i)) := er_II ha hb fun H1 Q q => ⟨i, j, rfl, rfl, q _ rfl⟩
theorem er_ge (ha : ER K ta σ H i) (hb : ER K tb σ H j) : ER K (tOp (rI0 fun i j => .bl (decide (j ≤ i))) ta tb) σ H (decide (j ≤ i)) := er_II ha hb fun H1 Q q => ⟨i, j, rfl, rfl, q _ rfl⟩
theorem er_eqI (ha : ER K ta σ H i) (hb : ER K tb σ H j) : ER K (tOp rEq ta tb) σ H (decide (i = j)) := er_II ha hb fun H1 Q q => ⟨rfl, q _ (by
  show V.bl (decide (V.int i = V.int j)) = V.bl (decide (i = j))
  simp only [V.int.injEq])⟩
theorem er_neI (ha : ER K ta σ H i) (hb : ER K tb σ H j) : ER K (tOp rNe ta tb) σ H (!decide (i = j)) := er_II ha hb fun H1 Q q => ⟨rfl, q _ (by
  show V.bl (!decide (V.int i = V.int j)) = V.bl (!decide (i = j))
  simp only [V.int.injEq])⟩
theorem er_SS {β : Type} [Rep β] {r : R2} {z : β} {x y : Str} (ha : ER K ta σ H x) (hb : ER K tb σ H y) (hr : ∀ H1 (Q : VK), (∀ v, Rep.rel K H1 v z → Q v H1) → r (.str x) (.str y) H1 Q) : ER K (tOp r ta tb) σ H z := fun H1 e Q q =>
  ha H1 e _ fun v1 H2 e2 r1 => hb H2 (e.trans e2) _ fun v2 H3 e3 r2 => by
    cases r1
    cases r2
    exact hr H3 Q fun v rv => q v H3 (e2.trans e3) rv
theorem er_eqS {x y : Str} (ha : ER K ta σ H x) (hb : ER K tb σ H y) : ER K (tOp rEq ta tb) σ H (decide (x = y)) := er_SS ha hb fun H1 Q q => ⟨rfl, q _ (by
  show V.bl (decide (V.str x = V.str y)) = V.bl (decide (x = y))
  simp only [V.str.injEq])⟩
theorem er_neS {x y : Str} (ha : ER K ta σ H x) (hb : ER K tb σ H y) : ER K (tOp rNe ta tb) σ H (!decide (x = y)) := er_SS ha hb fun H1 Q q => ⟨rfl, q _ (by
  show V.bl (!decide (V.str x = V.str y)) = V.bl (!decide (x = y))
  simp only [V.str.injEq])⟩
theorem er_neg (ha : ER K ta σ H i) : ER K (tUn (rU fun i => .int (-i)) ta) σ H (-i) := fun H1 e Q q => ha H1 e _ fun v1 H2 e2 r1 => by
  cases r1
  exact ⟨i, rfl, q _ H2 e2 rfl⟩
/-- one sign in a text -/
theorem er_inS {c : Sg} {z : Str} (ha : ER K ta σ H c) (hb : ER K tb σ H z) : ER K (tOp rInS ta tb) σ H (decide (c.c ∈ z.cps.toList)) := fun H1 e Q q =>
  ha H1 e _ fun v1 H2 e2 r1 => hb H2 (e.trans e2) _ fun v2 H3 e3 r2 => by
    cases r1
    cases r2
    exact ⟨c.c, z, rfl, rfl, q _ H3 (e2.trans e3) rfl⟩
/-- a < b < c -/
theorem er_chain {r1 r2 : Int → Int → Bool} {k : Int} (ha : ER K ta σ H i) (hb : ER K tb σ H j) (hc : ER K tc σ H k) : ER K (tChain (rI0 fun i j => .bl (r1 i j)) (rI0 fun i j => .bl (r2 i j)) ta tb tc) σ H (r1 i j && r2 j k) := fun H1 e Q q =>
  ha H1 e _ fun v1 H2 e2 q1 => hb H2 (e.trans e2) _ fun v2 H3 e3 q2 => by
    cases q1
    cases q2
    refine ⟨i, j, rfl, rfl, r1 i j, rfl, ?_⟩
    cases h : r1 i j with
    | false =>
      rw [if_neg Bool.false_ne_true]
      exact q _ H3 (e2.trans e3) (by rw [h]; rfl)
    | true =>
      rw [if_pos rfl]
      exact hc H3 ((e.trans e2).trans e3) _ fun v3 H4 e4 q3 => by
        cases q3
        exact ⟨j, k, rfl, rfl, q _ H4 ((e2.trans e3).trans e4) (by rw [h]; rfl)⟩
/-! tests -/
theorem et_t (h : ER K te σ H a) : ET K (tTest te) σ H a := fun H1 e _ q => h H1 e _ fun v H2 e2 r => ⟨a, r, q H2 e2⟩
theorem et_b (h : ER K te σ H a) : ET K (tB te) σ H a := fun H1 e _ q => h H1 e _ fun v H2 e2 r => ⟨a, r, q H2 e2⟩
theorem ett_and (h1 : ET K t σ H a) (h2 : a = true → ET K u σ H b) : ET K (tAnd t u) σ H (a && b) := et_and h1 h2
theorem ett_or (h1 : ET K t σ H a) (h2 : a = false → ET K u σ H b) : ET K (tOr t u) σ H (a || b) := et_or h1 h2
theorem ett_not (h1 : ET K t σ H a) : ET K (tNot t) σ H (!a) := et_not h1
theorem er_and (h1 : ER K ta σ H a) (h2 : a = true → ER K tb σ H b) : ER K (tAndV ta tb) σ H (a && b) := fun H1 e Q q => h1 H1 e _ fun v H2 e2 r => ⟨a, r, by
  cases a with
  | true =>
    show tb σ H2 Q
    exact h2 rfl H2 (e.trans e2) Q fun w H3 e3 => q w H3 (e2.trans e3)
  | false =>
    show Q (.bl false) H2
    exact q _ H2 e2 rfl⟩
theorem er_or (h1 : ER K ta σ H a) (h2 : a = false → ER K tb σ H b) : ER K (tOrV ta tb) σ H (a || b) := fun H1 e Q q => h1 H1 e _ fun v H2 e2 r => ⟨a, r, by
  cases a with
  | true =>
    show Q (.bl true) H2
    exact q _ H2 e2 rfl
  | false =>
    show tb σ H2 Q
    exact h2 rfl H2 (e.trans e2) Q fun w H3 e3 => q w H3 (e2.trans e3)⟩
theorem er_not (h1 : ER K ta σ H a) : ER K (tNotV ta) σ H (!a) := fun H1 e _ q => h1 H1 e _ fun v H2 e2 r => ⟨a, r, q _ H2 e2 rfl⟩
theorem er_if {α : Type} [Rep α] {x y : α} (h : ET K t σ H a) (h1 : a = true → ER K ta σ H x) (h2 : a = false → ER K tb σ H y) : ER K (tIf t ta tb) σ H (if a = true then x else y) := fun H1 e Q q => h H1 e _ fun H2 e2 => by
  cases a with
  | true =>
    show ta σ H2 Q
    exact h1 rfl H2 (e.trans e2) Q fun w H3 e3 r => q w H3 (e2.trans e3) r
  | false =>
    show tb σ H2 Q
    exact h2 rfl H2 (e.trans e2) Q fun w H3 e3 r => q w H3 (e2.trans e3) r
theorem er_is {α : Type} [Rep α] {x y : α} (h : ER K te σ H x) (e : x = y) : ER K te σ H y := e ▸ h
theorem ER.mono {α : Type} [Rep α] {x : α} (e : Ex H H') (h : ER K te σ H x) : ER K te σ H' x := fun H1 e1 Q q => h H1 (e.trans e1) Q q
/-! tuples -/
theorem er_fld {α : Type} [Rep α] {x : α} {f : Fld} {n : Int} {w : V} (ha : ER K ta σ H f) (h : atI f.vs n = some w) (hx : ∀ H, Rep.rel K H w x) : ER K (tOp (rIxT K) ta (tC (.int n))) σ H x := fun H1 e Q q =>
  ha H1 e _ fun v H2 e2 ⟨p, hv, hs⟩ => ⟨p, f.vs, n, w, hv, rfl, hs, h, q w H2 e2 (hx H2)⟩
theorem er_f0 {f : Fld} (ha : ER K ta σ H f) : ER K (tOp (rIxT K) ta (tC (.int 0))) σ H f.low := er_fld ha rfl fun _ => rfl
theorem er_f1 {f : Fld} (ha : ER K ta σ H f) : ER K (tOp (rIxT K) ta (tC (.int 1))) σ H f.high := er_fld ha rfl fun _ => rfl
theorem er_f2 {f : Fld} (ha : ER K ta σ H f) : ER K (tOp (rIxT K) ta (tC (.int 2))) σ H f.step := er_fld ha rfl fun _ => rfl
theorem er_f3 {f : Fld} (ha : ER K ta σ H f) : ER K (tOp (rIxT K) ta (tC (.int 3))) σ H f.base := er_fld ha rfl fun _ => rfl
theorem er_f4 {f : Fld} (ha : ER K ta σ H f) : ER K (tOp (rIxT K) ta (tC (.int 4))) σ H f.off := er_fld ha rfl fun _ => rfl
theorem er_f5 {f : Fld} (ha : ER K ta σ H f) : ER K (tOp (rIxT K) ta (tC (.int 5))) σ H f.ends := er_fld ha rfl fun _ => rfl
theorem er_f6 {f : Fld} (ha : ER K ta σ H f) : ER K (tOp (rIxT K) ta (tC (.int 6))) σ H f.big := er_fld ha rfl fun _ => rfl
theorem er_p0 {α β : Type} [Rep α] [Rep β] {x : α × β} (ha : ER K ta σ H x) : ER K (tOp (rIxT K) ta (tC (.int 0))) σ H x.1 := fun H1 e Q q =>
  ha H1 e _ fun v H2 e2 ⟨p, v1, v2, hv, hs, r1, r2⟩ => ⟨p, [v1, v2], 0, v1, hv, rfl, hs, rfl, q v1 H2 e2 r1⟩
theorem er_p1 {α β : Type} [Rep α] [Rep β] {x : α × β} (ha : ER K ta σ H x) : ER K (tOp (rIxT K) ta (tC (.int 1))) σ H x.2 := fun H1 e Q q =>
  ha H1 e _ fun v H2 e2 ⟨p, v1, v2, hv, hs, r1, r2⟩ => ⟨p, [v1, v2], 1, v2, hv, rfl, hs, rfl, q v2 H2 e2 r2⟩
theorem er_tup2 {α β : Type} [Rep α] [Rep β] {x : α} {y : β} (ha : ER K ta σ H x) (hb : ER K tb σ H y) : ER K (tTup (tCons ta (tCons tb tNil))) σ H (x, y) := fun H1 e Q q =>
  ha H1 e _ fun v1 H2 e2 r1 => hb H2 (e.trans e2) _ fun v2 H3 e3 r2 => ⟨sz_of (by show 2 ≤ 100000; decide), fun p hp =>
    have n := Ex.new (o := .tup [v1, v2]) hp
    q (.ref p) _ ((e2.trans e3).trans n) ⟨p, v1, v2, rfl, st_of upd_same, Rep.mono (e3.trans n) r1, Rep.mono n r2⟩⟩
theorem er_tup3 {α β γ : Type} [Rep α] [Rep β] [Rep γ] {x : α} {y : β} {z : γ} (ha : ER K ta σ H x) (hb : ER K tb σ H y) (hc : ER K tc σ H z) : ER K (tTup (tCons ta (tCons tb (tCons tc tNil)))) σ H (Tri.mk x y z) := fun H1 e Q q =>
  ha H1 e _ fun v1 H2 e2 r1 => hb H2 (e.trans e2) _ fun v2 H3 e3 r2 => hc H3 ((e.trans e2).trans e3) _ fun v3 H4 e4 r3 => ⟨sz_of (by show 3 ≤ 100000; decide), fun p hp =>
    have n := Ex.new (o := .tup [v1, v2, v3]) hp
    q (.ref p) _ (((e2.trans e3).trans e4).trans n) ⟨p, v1, v2, v3, rfl, st_of upd_same, Rep.mono ((e3.trans e4).trans n) r1, Rep.mono (e4.trans n) r2, Rep.mono n r3⟩⟩
end

/-! slots -/
inductive SetAt : L2.St → Nat → V → L2.St → Prop
  | z {o : Option V} {r : L2.St} {v : V} : SetAt (o :: r) 0 v (some v :: r)
  | s {o : Option V} {r r' : L2.St} {n : Nat} {v : V} : SetAt r n v r' → SetAt (o :: r) (n + 1) v (o :: r')
theorem SetAt.eq {σ σ' : L2.St} {n : Nat} {v : V} (h : SetAt σ n v σ') : σ.set n (some v) = σ' := by
  induction h with
  | z => rfl
  | s _ ih => rw [List.set_cons_succ, ih]

/-! what a def promises -/
section
variable {α β γ ε δ : Type} [Rep α] [Rep β] [Rep γ] [Rep ε] [Rep δ]
def sp1 (K : PySem.W.Frag) (pre : α → Prop) (g : α → δ) : Sp := fun vs H Q _ => ∃ x a, vs = [x] ∧ Rep.rel K H x a ∧ pre a ∧ ∀ v H', Ex H H' → Rep.rel K H' v (g a) → Q v H'
def sp2 (K : PySem.W.Frag) (pre : α → β → Prop) (g : α → β → δ) : Sp := fun vs H Q _ => ∃ x y a b, vs = [x, y] ∧ Rep.rel K H x a ∧ Rep.rel K H y b ∧ pre a b ∧ ∀ v H', Ex H H' → Rep.rel K H' v (g a b) → Q v H'
def sp3 (K : PySem.W.Frag) (pre : α → β → γ → Prop) (g : α → β → γ → δ) : Sp := fun vs H Q _ => ∃ x y z a b c, vs = [x, y, z] ∧ Rep.rel K H x a ∧ Rep.rel K H y b ∧ Rep.rel K H z c ∧ pre a b c ∧ ∀ v H', Ex H H' → Rep.rel K H' v (g a b c) → Q v H'
def sp4 (K : PySem.W.Frag) (pre : α → β → γ → ε → Prop) (g : α → β → γ → ε → δ) : Sp := fun vs H Q _ => ∃ x y z u a b c d, vs = [x, y, z, u] ∧ Rep.rel K H x a ∧ Rep.rel K H y b ∧ Rep.rel K H z c ∧ Rep.rel K H u d ∧ pre a b c d ∧ ∀ v H', Ex H H' → Rep.rel K H' v (g a b c d) → Q v H'
variable {K : PySem.W.Frag} {σ : L2.St} {H : Hp} {ta tb tc td : TE} {E : XK} {a : α} {b : β} {c : γ} {d : ε}
theorem er_call1 {pre : α → Prop} {g : α → δ} (ha : ER K ta σ H a) (hp : pre a) : ER K (tCall (sp1 K pre g) [] E (tCons ta tNil)) σ H (g a) := fun H1 e Q q =>
  ha H1 e _ fun v1 H2 e2 r1 => ⟨v1, a, rfl, r1, hp, fun v H' e' r => q v H' (e2.trans e') r⟩
theorem er_call2 {pre : α → β → Prop} {g : α → β → δ} (ha : ER K ta σ H a) (hb : ER K tb σ H b) (hp : pre a b) : ER K (tCall (sp2 K pre g) [] E (tCons ta (tCons tb tNil))) σ H (g a b) := fun H1 e Q q =>
  ha H1 e _ fun v1 H2 e2 r1 => hb H2 (e.trans e2) _ fun v2 H3 e3 r2 => ⟨v1, v2, a, b, rfl, Rep.mono e3 r1, r2, hp, fun v H' e' r => q v H' ((e2.trans e3).trans e') r⟩
theorem er_call3 {pre : α → β → γ → Prop} {g : α → β → γ → δ} (ha : ER K ta σ H a) (hb : ER K tb σ H b) (hc : ER K tc σ H c) (hp : pre a b c) : ER K (tCall (sp3 K pre g) [] E (tCons ta (tCons tb (tCons tc tNil)))) σ H (g a b c) := fun H1 e Q q =>
  ha H1 e _ fun v1 H2 e2 r1 => hb H2 (e.trans e2) _ fun v2 H3 e3 r2 => hc H3 ((e.trans e2).trans e3) _ fun v3 H4 e4 r3 =>
    ⟨v1, v2, v3, a, b, c, rfl, Rep.mono (e3.trans e4) r1, Rep.mono e4 r2, r3, hp, fun v H' e' r => q v H' (((e2.trans e3).trans e4).trans e') r⟩
theorem er_call4 {pre : α → β → γ → ε → Prop} {g : α → β → γ → ε → δ} (ha : ER K ta σ H a) (hb : ER K tb σ H b) (hc : ER K tc σ H c) (hd : ER K td σ H d) (hp : pre a b c d) :
    ER K (tCall (sp4 K pre g) [] E (tCons ta (tCons tb (tCons tc (tCons td tNil))))) σ H (g a b c d) := fun H1 e Q q =>
  ha H1 e _ fun v1 H2 e2 r1 => hb H2 (e.trans e2) _ fun v2 H3 e3 r2 => hc H3 ((e.trans e2).trans e3) _ fun v3 H4 e4 r3 => hd H4 (((e.trans e2).trans e3).trans e4) _ fun v4 H5 e5 r4 =>
    ⟨v1, v2, v3, v4, a, b, c, d, rfl, Rep.mono ((e3.trans e4).trans e5) r1, Rep.mono (e4.trans e5) r2, Rep.mono e5 r3, r4, hp, fun v H' e' r => q v H' ((((e2.trans e3).trans e4).trans e5).trans e') r⟩
variable {P : Program} {w : World} {mg : Str → Option Value} {base : Heap} {x qual : Str} {params : Arguments} {body : List Stmt} {scope : Scope} {dvs : List V} {kws : List (Str × V)} {f : Addr} {fd : FuncData} {N ps : List Str} {k : Nat} {CX : CXT}
/-- the def's body: a derivation, and its reading from the slots σ0 -/
def Body (CX : CXT) (P : Program) (w : World) (K : PySem.W.Frag) (mg : Str → Option Value) (base : Heap) (k : Nat) (f : Addr) (N : List Str) (qual : Str) (scope : Scope) (body : List Stmt) (H : Hp) (Q : VK) (σ0 : L2.St) : Prop :=
  ∀ (cdv : Value) (A : Around) (outer : List Env) (s : Shared) (E : XK), Room k (A.deeper (envOfC qual scope s.heap.objs.size f cdv)) →
    ∃ t, PSs (cxOf CX P w K mg base N qual scope f cdv A outer s H E) body t ∧ t { nx := fun _ H' => Q .non H', rt := Q } σ0 H
theorem ok1 {pre : α → Prop} {g : α → δ} (F : FunD K x qual params body scope dvs kws f fd) (S : FnScope N ps scope) (hl : ps.length = 1) (σ0 : V → L2.St) (h0 : ∀ x, start N [x] = σ0 x)
    (h : ∀ (H : Hp) (Q : VK) (x : V) (a : α), Rep.rel K H x a → pre a → (∀ v H', Ex H H' → Rep.rel K H' v (g a) → Q v H') → Body CX P w K mg base k f N qual scope body H Q (σ0 x)) : FnOk P w K mg base CX (k + 1) f fd ps (sp1 K pre g) := by
  refine F.ok S (fun vs H Q E hs => ?_) (fun cdv A outer s H vs Q E hr hs => ?_)
  · obtain ⟨x, a, rfl, _⟩ := hs
    exact hl.symm
  · obtain ⟨x, a, rfl, h1, hp, q⟩ := hs
    rw [h0]
    exact h H Q x a h1 hp q cdv A outer s E hr
theorem ok2 {pre : α → β → Prop} {g : α → β → δ} (F : FunD K x qual params body scope dvs kws f fd) (S : FnScope N ps scope) (hl : ps.length = 2) (σ0 : V → V → L2.St) (h0 : ∀ x y, start N [x, y] = σ0 x y)
    (h : ∀ (H : Hp) (Q : VK) (x y : V) (a : α) (b : β), Rep.rel K H x a → Rep.rel K H y b → pre a b → (∀ v H', Ex H H' → Rep.rel K H' v (g a b) → Q v H') → Body CX P w K mg base k f N qual scope body H Q (σ0 x y)) : FnOk P w K mg base CX (k + 1) f fd ps (sp2 K pre g) := by
  refine F.ok S (fun vs H Q E hs => ?_) (fun cdv A outer s H vs Q E hr hs => ?_)
  · obtain ⟨x, y, a, b, rfl, _⟩ := hs
    exact hl.symm
  · obtain ⟨x, y, a, b, rfl, h1, h2, hp, q⟩ := hs
    rw [h0]
    exact h H Q x y a b h1 h2 hp q cdv A outer s E hr
theorem ok3 {pre : α → β → γ → Prop} {g : α → β → γ → δ} (F : FunD K x qual params body scope dvs kws f fd) (S : FnScope N ps scope) (hl : ps.length = 3) (σ0 : V → V → V → L2.St) (h0 : ∀ x y z, start N [x, y, z] = σ0 x y z)
    (h : ∀ (H : Hp) (Q : VK) (x y z : V) (a : α) (b : β) (c : γ), Rep.rel K H x a → Rep.rel K H y b → Rep.rel K H z c → pre a b c → (∀ v H', Ex H H' → Rep.rel K H' v (g a b c) → Q v H') → Body CX P w K mg base k f N qual scope body H Q (σ0 x y z)) : FnOk P w K mg base CX (k + 1) f fd ps (sp3 K pre g) := by
  refine F.ok S (fun vs H Q E hs => ?_) (fun cdv A outer s H vs Q E hr hs => ?_)
  · obtain ⟨x, y, z, a, b, c, rfl, _⟩ := hs
    exact hl.symm
  · obtain ⟨x, y, z, a, b, c, rfl, h1, h2, h3, hp, q⟩ := hs
    rw [h0]
    exact h H Q x y z a b c h1 h2 h3 hp q cdv A outer s E hr
theorem ok4 {pre : α → β → γ → ε → Prop} {g : α → β → γ → ε → δ} (F : FunD K x qual params body scope dvs kws f fd) (S : FnScope N ps scope) (hl : ps.length = 4) (σ0 : V → V → V → V → L2.St) (h0 : ∀ x y z u, start N [x, y, z, u] = σ0 x y z u)
    (h : ∀ (H : Hp) (Q : VK) (x y z u : V) (a : α) (b : β) (c : γ) (d : ε), Rep.rel K H x a → Rep.rel K H y b → Rep.rel K H z c → Rep.rel K H u d → pre a b c d → (∀ v H', Ex H H' → Rep.rel K H' v (g a b c d) → Q v H') → Body CX P w K mg base k f N qual scope body H Q (σ0 x y z u)) : FnOk P w K mg base CX (k + 1) f fd ps (sp4 K pre g) := by
  refine F.ok S (fun vs H Q E hs => ?_) (fun cdv A outer s H vs Q E hr hs => ?_)
  · obtain ⟨x, y, z, u, a, b, c, d, rfl, _⟩ := hs
    exact hl.symm
  · obtain ⟨x, y, z, u, a, b, c, d, rfl, h1, h2, h3, h4, hp, q⟩ := hs
    rw [h0]
    exact h H Q x y z u a b c d h1 h2 h3 h4 hp q cdv A outer s E hr
end
/-- a def of the module, to be called -/
structure Cal (P : Program) (w : World) (K : PySem.W.Frag) (mg : Str → Option Value) (base : Heap) (CX : CXT) (k : Nat) (x : Str) (ps : List Str) (sp : Sp) (f : Addr) (fd : FuncData) : Prop where
  ok : FnOk P w K mg base CX k f fd ps sp
  mg : mg x = some (.ref f)
  kp : PySem.W.keepIn K (.ref f) = true
  bd : Binds K fd ps []

/-! statements -/
section
variable {α : Type} [Rep α] {σ σ' : L2.St} {H : Hp} {te : TE} {tt : TT} {x : α} {D : Ends} {u t1 t2 : TS} {n : Nat} {b : Bool} {i : Int}
theorem q_set (K : PySem.W.Frag) {s' : V → L2.St} (h : ER K te σ H x) (s : ∀ v, SetAt σ n v (s' v)) (k : ∀ v H1, Ex H H1 → Rep.rel K H1 v x → u D (s' v) H1) : tSeq (tAsg te (gName n)) u D σ H := h H (Ex.refl H) _ fun v H1 e r => by
  show u D (σ.set n (some v)) H1
  rw [(s v).eq]
  exact k v H1 e r
theorem q_setI (K : PySem.W.Frag) {s' : V → L2.St} (h : ER K te σ H i) (s : ∀ v, SetAt σ n v (s' v)) (k : ∀ H1, Ex H H1 → u D (s' (.int i)) H1) : tSeq (tAsg te (gName n)) u D σ H := q_set K h s fun v H1 e r => by
  cases r
  exact k H1 e
theorem q_setB (K : PySem.W.Frag) {s' : V → L2.St} (h : ER K te σ H b) (s : ∀ v, SetAt σ n v (s' v)) (k : ∀ H1, Ex H H1 → u D (s' (.bl b)) H1) : tSeq (tAsg te (gName n)) u D σ H := q_set K h s fun v H1 e r => by
  cases r
  exact k H1 e
theorem q_drop (K : PySem.W.Frag) (h : ER K te σ H x) (k : ∀ H1, Ex H H1 → u D σ H1) : tSeq (tDrop te) u D σ H := h H (Ex.refl H) _ fun _ H1 e _ => k H1 e
theorem l_drop (K : PySem.W.Frag) (h : ER K te σ H x) (k : ∀ H1, Ex H H1 → D.nx σ H1) : tDrop te D σ H := h H (Ex.refl H) _ fun _ H1 e _ => k H1 e
theorem l_set (K : PySem.W.Frag) {s' : V → L2.St} (h : ER K te σ H x) (s : ∀ v, SetAt σ n v (s' v)) (k : ∀ v H1, Ex H H1 → Rep.rel K H1 v x → D.nx (s' v) H1) : tAsg te (gName n) D σ H := h H (Ex.refl H) _ fun v H1 e r => by
  show D.nx (σ.set n (some v)) H1
  rw [(s v).eq]
  exact k v H1 e r
theorem l_ret (K : PySem.W.Frag) {Q : VK} {nx bk ct} (h : ER K te σ H x) (k : ∀ v H1, Ex H H1 → Rep.rel K H1 v x → Q v H1) : tRet te ⟨nx, Q, bk, ct⟩ σ H := h H (Ex.refl H) _ k
theorem q_ret (K : PySem.W.Frag) {Q : VK} {nx bk ct} (h : ER K te σ H x) (k : ∀ v H1, Ex H H1 → Rep.rel K H1 v x → Q v H1) : tSeq (tRet te) u ⟨nx, Q, bk, ct⟩ σ H := h H (Ex.refl H) _ k
theorem l_if (K : PySem.W.Frag) (h : ET K tt σ H b) (h1 : b = true → ∀ H1, Ex H H1 → t1 D σ H1) (h2 : b = false → ∀ H1, Ex H H1 → t2 D σ H1) : tIfS tt t1 t2 D σ H := s_if h h1 h2
theorem q_if (K : PySem.W.Frag) (h : ET K tt σ H b) (h1 : b = true → ∀ H1, Ex H H1 → t1 { D with nx := u D } σ H1) (h2 : b = false → ∀ H1, Ex H H1 → t2 { D with nx := u D } σ H1) : tSeq (tIfS tt t1 t2) u D σ H := s_if (D := { D with nx := u D }) h h1 h2
theorem l_if0 (K : PySem.W.Frag) (h : ET K tt σ H b) (h1 : b = true → ∀ H1, Ex H H1 → t1 D σ H1) (h2 : b = false → ∀ H1, Ex H H1 → D.nx σ H1) : tIfS tt t1 tNext D σ H := s_if h h1 h2
theorem q_if0 (K : PySem.W.Frag) (h : ET K tt σ H b) (h1 : b = true → ∀ H1, Ex H H1 → t1 { D with nx := u D } σ H1) (h2 : b = false → ∀ H1, Ex H H1 → u D σ H1) : tSeq (tIfS tt t1 tNext) u D σ H := s_if (D := { D with nx := u D }) h h1 h2
theorem l_next (h : D.nx σ H) : tNext D σ H := h
end

theorem cdivw {i j : Int} (h : 0 < j) (h1 : j < 1267650600228229401496703205376) : CDivW i j := wide_div h (b := 100) (by omega) (by decide) (by decide)
/-! a slice of a field, unpacked -/
section
variable {K : PySem.W.Frag} {σ : L2.St} {H : Hp} {te : TE} {u : TS} {D : Ends} {f : Fld}
theorem q_unp {lo hi : Option Int} {tl th : TO} {n : Nat} {g : TGs} {ys : List V} (h : ER K te σ H f) (hl : ∀ (Q : Option Int → Hp → Prop) H1, Q lo H1 → tl σ H1 Q) (hh : ∀ (Q : Option Int → Hp → Prop) H1, Q hi H1 → th σ H1 Q)
    (hn : ¬ (HT.sIx 7 0 lo = 0 ∧ HT.sIx 7 7 hi = 7)) (hc : cutV f.vs lo hi = ys) (hy : ys.length = n) (k : ∀ H1, Ex H H1 → g ys σ H1 fun σ' H' => u D σ' H') :
    tSeq (tAsg (tSl (rSlT K) te tl th) (gTup K n g)) u D σ H := h H (Ex.refl H) _ fun v H1 e r => by
  obtain ⟨a, rfl, hs⟩ := r
  refine hl _ _ (hh _ _ ⟨a, f.vs, rfl, hs, hn, fun p hp => ?_⟩)
  refine ⟨p, cutV f.vs lo hi, rfl, st_of upd_same, ?_, ?_⟩
  · rw [hc, hy]
  · rw [hc]
    exact k _ (e.trans (Ex.new hp))
theorem g_cons {i : Nat} {v : V} {vs : List V} {σ' : L2.St} {g : TGs} {Q : L2.St → Hp → Prop} (s : SetAt σ i v σ') (k : g vs σ' H Q) : gCons (gName i) g (v :: vs) σ H Q := ⟨v, vs, rfl, by
  show g vs (σ.set i (some v)) H Q
  rw [s.eq]
  exact k⟩
theorem g_nil {Q : L2.St → Hp → Prop} (k : Q σ H) : gNil [] σ H Q := ⟨rfl, k⟩
end

/-! ### what is walked -/
section
variable {α β γ : Type} [Rep α] [Rep β] [Rep γ] {K : PySem.W.Frag} {σ : L2.St} {H H' : Hp} {te tl ta tb : TE} {u : TS} {D : Ends} {tt : TT} {tA : TA}
theorem rels_len {vs : List V} {xs : List α} (h : rels K H vs xs) : vs.length = xs.length := by
  induction h with
  | nil => rfl
  | cons _ _ ih => simp only [List.length_cons, ih]
theorem rels_get {vs : List V} {xs : List α} (h : rels K H vs xs) {i : Nat} {v : V} (e : vs[i]? = some v) : ∃ x, xs[i]? = some x ∧ Rep.rel K H v x := by
  induction h generalizing i with
  | nil => simp at e
  | @cons a b l1 l2 r _ ih =>
    cases i with
    | zero =>
      have e1 : a = v := Option.some.inj e
      subst e1
      exact ⟨b, rfl, r⟩
    | succ n =>
      rw [List.getElem?_cons_succ] at e
      obtain ⟨x, h1, h2⟩ := ih e
      exact ⟨x, by rw [List.getElem?_cons_succ]; exact h1, h2⟩
theorem rels_at {vs : List V} {xs : List α} (h : rels K H vs xs) {i : Nat} {x : α} (e : xs[i]? = some x) : ∃ v, vs[i]? = some v ∧ Rep.rel K H v x := by
  induction h generalizing i with
  | nil => simp at e
  | @cons a b l1 l2 r _ ih =>
    cases i with
    | zero =>
      have e1 : b = x := Option.some.inj e
      subst e1
      exact ⟨a, rfl, r⟩
    | succ n =>
      rw [List.getElem?_cons_succ] at e
      obtain ⟨v, h1, h2⟩ := ih e
      exact ⟨v, by rw [List.getElem?_cons_succ]; exact h1, h2⟩
theorem rels_snoc {vs : List V} {xs : List α} {v : V} {x : α} (h : rels K H vs xs) (r : Rep.rel K H v x) : rels K H (vs ++ [v]) (xs ++ [x]) := Paired.snoc h r
theorem rels_app {vs ws : List V} {xs ys : List α} (h : rels K H vs xs) (h2 : rels K H ws ys) : rels K H (vs ++ ws) (xs ++ ys) := by
  induction h with
  | nil => exact h2
  | cons r _ ih => exact .cons r ih
theorem rels_ints {vs : List V} {xs : List Int} (h : rels K H vs xs) : vs = xs.map V.int := by
  induction h with
  | nil => rfl
  | cons r _ ih =>
    cases r
    rw [ih]
    rfl
theorem ints_rels {xs : List Int} : rels K H (xs.map V.int) xs := by
  induction xs with
  | nil => exact .nil
  | cons x r ih => exact .cons rfl ih
theorem rels_bls {vs : List V} {xs : List Bool} (h : rels K H vs xs) : vs = xs.map V.bl := by
  induction h with
  | nil => rfl
  | cons r _ ih =>
    cases r
    rw [ih]
    rfl
theorem rels_strs {vs : List V} {xs : List Str} (h : rels K H vs xs) : vs = xs.map V.str := by
  induction h with
  | nil => rfl
  | cons r _ ih =>
    cases r
    rw [ih]
    rfl
/-- a walk gives the data xs -/
def Wk (K : PySem.W.Frag) (wi : TI) (σ : L2.St) (H : Hp) (xs : List α) : Prop := ∀ H1, Ex H H1 → ∀ R : It → Hp → Prop, (∀ J H2 G Y, Ex H1 H2 → Walk J xs.length G Y → (∀ H3, Ey H2 H3 → G H3) →
  (∀ i Ha v Hb, i < xs.length → Ey H2 Ha → Y i Ha v Hb → Ex Ha Hb ∧ ∃ x, xs[i]? = some x ∧ Rep.rel K Hb v x) → R J H2) → wi σ H1 R
theorem wk_list {xs : List α} (h : ER K tl σ H xs) : Wk K (iList K tl) σ H xs := fun H1 e R k => h H1 e _ fun v H2 e2 ⟨a, vs, hv, hs, hr⟩ => ⟨a, hv, ⟨vs, sq_of hs⟩, by
  refine k _ H2 _ _ e2 (rels_len hr ▸ walk_list (xs := vs)) (fun H3 e3 => ey_l e3 (sq_of hs)) fun i Ha v Hb hi ea y => ?_
  obtain ⟨rfl, hy⟩ := y
  obtain ⟨x, h1, h2⟩ := rels_get hr hy
  exact ⟨Ex.refl _, x, h1, Rep.moY ea h2⟩⟩
theorem wk_tup {xs : List α} (h : ER K tl σ H (Tpl.mk xs)) : Wk K (iTup K tl) σ H xs := fun H1 e R k => h H1 e _ fun v H2 e2 ⟨a, vs, hv, hs, hr⟩ => ⟨a, hv, ⟨vs, hs⟩, by
  refine k _ H2 _ _ e2 (rels_len hr ▸ walk_tup (xs := vs)) (fun H3 e3 => ey_t e3 hs) fun i Ha v Hb hi ea y => ?_
  obtain ⟨rfl, hy⟩ := y
  obtain ⟨x, h1, h2⟩ := rels_get hr hy
  exact ⟨Ex.refl _, x, h1, Rep.moY ea h2⟩⟩
def sgs (z : Str) : List Sg := z.cps.toList.map Sg.mk
theorem wk_str {z : Str} (h : ER K tl σ H z) : Wk K (iStr tl) σ H (sgs z) := fun H1 e R k => h H1 e _ fun v H2 e2 r => ⟨z, r, by
  have hl : (sgs z).length = z.cps.size := by simp [sgs]
  refine k _ H2 _ _ e2 (hl ▸ walk_str (z := z)) (fun _ _ => trivial) fun i Ha v Hb hi ea y => ?_
  obtain ⟨rfl, c, hc, rfl⟩ := y
  refine ⟨Ex.refl _, ⟨c⟩, ?_, rfl⟩
  simp only [sgs, List.getElem?_map, Array.getElem?_toList, hc, Option.map_some]⟩
/-- 0, 1, .., n - 1; lo, lo + 1, .. -/
def rng (lo : Int) (n : Nat) : List Int := (List.range n).map fun i => lo + ((i : Nat) : Int)
theorem rng_len {lo : Int} {n : Nat} : (rng lo n).length = n := by simp [rng]
theorem rng_get {lo : Int} {n i : Nat} (h : i < n) : (rng lo n)[i]? = some (lo + (i : Int)) := by
  simp only [rng, List.getElem?_map, List.getElem?_range h, Option.map_some]
theorem rng_mem {lo : Int} {n : Nat} {z : Int} : z ∈ rng lo n ↔ lo ≤ z ∧ z < lo + n := by
  simp only [rng, List.mem_map, List.mem_range]
  constructor
  · rintro ⟨a, h, rfl⟩
    omega
  · intro h
    exact ⟨(z - lo).toNat, by omega, by omega⟩
theorem walk_rng {lo : Int} {n : Nat} : Walk (Itr lo n) (rng lo n).length (fun _ => True) (YFn fun i => .int (lo + i)) := by
  rw [rng_len]
  exact walk_range
theorem wk_rng1 {n : Int} (h : ER K ta σ H n) (hn : -(2 ^ 62) ≤ n ∧ n < 2 ^ 62) : Wk K (iRng1 (tCons ta tNil)) σ H (rng 0 n.toNat) := fun H1 e R k => h H1 e _ fun v H2 e2 r => by
  cases r
  refine ⟨n, rfl, hn.1, hn.2, k _ H2 _ _ e2 walk_rng (fun _ _ => trivial) fun i Ha v Hb hi ea y => ?_⟩
  obtain ⟨rfl, rfl⟩ := y
  rw [rng_len] at hi
  exact ⟨Ex.refl _, _, rng_get hi, rfl⟩
theorem wk_rng2 {m n : Int} (h : ER K ta σ H m) (h2 : ER K tb σ H n) (hn : -(2 ^ 62) ≤ m ∧ m < 2 ^ 62 ∧ -(2 ^ 62) ≤ n ∧ n < 2 ^ 62) : Wk K (iRng2 (tCons ta (tCons tb tNil))) σ H (rng m (n - m).toNat) := fun H1 e R k => h H1 e _ fun v H2 e2 r =>
  h2 H2 (e.trans e2) _ fun v3 H3 e3 r3 => by
  cases r
  cases r3
  refine ⟨m, n, rfl, hn, k _ H3 _ _ (e2.trans e3) walk_rng (fun _ _ => trivial) fun i Ha v Hb hi ea y => ?_⟩
  obtain ⟨rfl, rfl⟩ := y
  rw [rng_len] at hi
  exact ⟨Ex.refl _, _, rng_get hi, rfl⟩
/-- enumerate -/
def enum (xs : List α) : List (Int × α) := (xs.zipIdx 0).map fun p => ((p.2 : Int), p.1)
theorem enum_get {xs : List α} {i : Nat} {x : α} (h : xs[i]? = some x) : (enum xs)[i]? = some ((i : Int), x) := by
  simp [enum, h]
theorem wk_enum {xs : List α} (h : ER K ta σ H xs) : Wk K (iEnum K (tCons ta tNil)) σ H (enum xs) := fun H1 e R k => h H1 e _ fun v H2 e2 ⟨a, vs, hv, hs, hr⟩ => by
  subst hv
  have hl : (enum xs).length = vs.length := by simp [enum, rels_len hr]
  refine ⟨a, vs, rfl, sq_of hs, k _ H2 _ _ e2 (hl ▸ walk_enum (xs := vs)) (fun H3 e3 => ey_l e3 (sq_of hs)) fun i Ha v Hb hi ea y => ?_⟩
  obtain ⟨T, x1, y1, rfl, hT, rfl, h1, h2⟩ := y
  cases h1
  obtain ⟨x, h3, h4⟩ := rels_get hr h2
  have n := Ex.new (o := .tup [.int (i : Nat), y1]) hT
  exact ⟨n, _, enum_get h3, T, _, _, rfl, st_of upd_same, rfl, Rep.moY (ea.trans n.y) h4⟩
theorem wk_zip {xs : List α} {ys : List β} (h : ER K ta σ H xs) (h' : ER K tb σ H ys) : Wk K (iZip K (tCons ta (tCons tb tNil))) σ H (xs.zip ys) := fun H1 e R k => h H1 e _ fun v H2 e2 ⟨a, vs, hv, hs, hr⟩ =>
  h' H2 (e.trans e2) _ fun v' H3 e3 ⟨b, ws, hw, hs', hr'⟩ => by
  subst hv
  subst hw
  refine ⟨a, b, vs, ws, rfl, sq_of (e3 _ _ hs), sq_of hs', k _ H3 _ _ (e2.trans e3) (walk_zip (xs := vs) (ys := ws) (by rw [List.length_zip, rels_len hr, rels_len hr'])) (fun H4 e4 => ⟨sq_of (ey_lst e4 (e3 _ _ hs)), sq_of (ey_lst e4 hs')⟩) fun i Ha v Hb hi ea y => ?_⟩
  obtain ⟨T, x1, y1, rfl, hT, rfl, h1, h2⟩ := y
  obtain ⟨x, h3, h4⟩ := rels_get hr h1
  obtain ⟨z, h5, h6⟩ := rels_get hr' h2
  have n := Ex.new (o := .tup [x1, y1]) hT
  refine ⟨n, (x, z), ?_, T, _, _, rfl, st_of upd_same, Rep.moY ((e3.y.trans ea).trans n.y) h4, Rep.moY (ea.trans n.y) h6⟩
  rw [List.getElem?_zip_eq_some]
  exact ⟨h3, h5⟩
/-! ### loops -/
theorem for_wk (K : PySem.W.Frag) {wi : TI} {xs : List α} (h : Wk K wi σ H xs) {gt : TG} {tb : TS} (Pv : List α → L2.St → Hp → Prop) (h0 : ∀ H1, Ex H H1 → Pv [] σ H1)
    (hs : ∀ H1 pre x post v σ' H' H'', Ex H H1 → xs = pre ++ x :: post → Ey H1 H' → Pv pre σ' H' → Ex H' H'' → Rep.rel K H'' v x →
      gt v σ' H'' fun σ2 H2 => tb { D with nx := fun σ3 H3 => Ey H1 H3 ∧ Pv (pre ++ [x]) σ3 H3, ct := fun σ3 H3 => Ey H1 H3 ∧ Pv (pre ++ [x]) σ3 H3, bk := D.nx } σ2 H2)
    (hd : ∀ σ' H', Ey H H' → Pv xs σ' H' → D.nx σ' H') : tFor wi gt tb D σ H := by
  refine h H (Ex.refl H) _ fun J H2 G Y e2 w hG hY => ?_
  refine for_it w (fun i σ' H' => Ey H2 H' ∧ Pv (xs.take i) σ' H') ⟨Ey.refl _, by rw [List.take_zero]; exact h0 H2 e2⟩ (fun i σ' H' _ p => hG H' p.1) (fun i v σ' H' H'' hi p y => ?_) (fun σ' H' p => hd σ' H' (e2.y.trans p.1) (by rw [List.take_length] at p; exact p.2))
  obtain ⟨e3, x, hx, r⟩ := hY i H' v H'' hi p.1 y
  have et : xs.take (i + 1) = xs.take i ++ [x] := by
    rw [List.take_add_one, hx]
    rfl
  have ex : xs = xs.take i ++ x :: xs.drop (i + 1) := by
    have h1 := (List.take_append_drop i xs).symm
    obtain ⟨hi2, hx2⟩ := List.getElem?_eq_some_iff.mp hx
    rw [List.drop_eq_getElem_cons hi2, hx2] at h1
    exact h1
  have z := hs H2 (xs.take i) x (xs.drop (i + 1)) v σ' H' H'' e2 ex p.1 p.2 e3 r
  rw [← et] at z
  exact z
theorem q_for (K : PySem.W.Frag) {wi : TI} {xs : List α} (h : Wk K wi σ H xs) {gt : TG} {tb : TS} (Pv : List α → L2.St → Hp → Prop) (h0 : ∀ H1, Ex H H1 → Pv [] σ H1)
    (hs : ∀ H1 pre x post v σ' H' H'', Ex H H1 → xs = pre ++ x :: post → Ey H1 H' → Pv pre σ' H' → Ex H' H'' → Rep.rel K H'' v x →
      gt v σ' H'' fun σ2 H2 => tb { D with nx := fun σ3 H3 => Ey H1 H3 ∧ Pv (pre ++ [x]) σ3 H3, ct := fun σ3 H3 => Ey H1 H3 ∧ Pv (pre ++ [x]) σ3 H3, bk := u D } σ2 H2)
    (hd : ∀ σ' H', Ey H H' → Pv xs σ' H' → u D σ' H') : tSeq (tFor wi gt tb) u D σ H := for_wk K (D := { D with nx := u D }) h Pv h0 hs hd
/-! ### comprehensions -/
theorem er_lc [Imm β] {wi : TI} {xs : List α} {vs : List Nat} {gt : TG} (f : α → Bool) (g : α → β) (h : Wk K wi σ H xs) (hz : xs.length ≤ 100000)
    (ht : ∀ x v H1, x ∈ xs → Ex H H1 → Rep.rel K H1 v x → ∀ Q : L2.St → Hp → Prop, (∀ σ2 H2, Ex H1 H2 → wipe σ2 vs = wipe σ vs → ET K tt σ2 H2 (f x) → (f x = true → ER K te σ2 H2 (g x)) → Q σ2 H2) → gt v (wipe σ vs) H1 Q) :
    ER K (tLc wi gt tt te vs) σ H ((xs.filter f).map g) := fun H0 e Q q => by
  refine h H0 e _ fun J H2 G Y e2 w hG hY => ?_
  intro Dl hD
  have hx0 : ∀ i x, xs[i]? = some x → xs.take (i + 1) = xs.take i ++ [x] := fun i x hx => by
    rw [List.take_add_one, hx]
    rfl
  refine lc_it w (fun i H' => Ex H2 H' ∧ ∃ ws, H' Dl = some (.lst ws) ∧ rels K H' ws (((xs.take i).filter f).map g)) ⟨Ex.new hD, [], upd_same, by rw [List.take_zero]; exact .nil⟩ (fun i H' _ p => hG H' p.1.y) (fun i v H' H'' hi p y => ?_) (fun H' p => ?_)
  · obtain ⟨p1, ws, p2, p3⟩ := p
    obtain ⟨e3, x, hx, r⟩ := hY i H' v H'' hi p1.y y
    have hm : x ∈ xs := List.mem_of_getElem? hx
    refine ht x v H'' hm ((e.trans e2).trans (p1.trans e3)) r _ fun σ2 H3 e4 hw t1 t2 => ⟨hw, ?_⟩
    refine t1 H3 (Ex.refl _) _ fun H4 e5 => ?_
    have hl : ws.length ≤ i := by
      rw [rels_len p3, List.length_map]
      exact Nat.le_trans (List.length_filter_le ..) (by rw [List.length_take]; omega)
    have p1' : Ex H2 H4 := ((p1.trans e3).trans e4).trans e5
    have p2' : H4 Dl = some (.lst ws) := e5 _ _ (e4 _ _ (e3 _ _ p2))
    cases hf : f x with
    | true =>
      show te σ2 H4 _
      refine t2 hf H4 e5 _ fun y H5 e6 ry => ⟨ws, e6 _ _ p2', sz_lt (by omega), Ex.mut (p1'.trans e6) hD, ws ++ [y], upd_same, ?_⟩
      have fin : rels K H5 (ws ++ [y]) (((xs.take (i + 1)).filter f).map g) := by
        rw [hx0 i x hx, List.filter_append, List.map_append, List.filter_cons, if_pos hf]
        exact rels_snoc (rels_mono ((((e3.trans e4).trans e5)).trans e6) p3) ry
      exact rels_imm (e6 _ _ p2') fin
    | false =>
      show Ex H2 H4 ∧ _
      refine ⟨p1', ws, p2', ?_⟩
      rw [hx0 i x hx, List.filter_append, List.map_append, List.filter_cons, if_neg (by rw [hf]; decide)]
      show rels K H4 ws (_ ++ [])
      rw [List.append_nil]
      exact rels_mono ((e3.trans e4).trans e5) p3
  · obtain ⟨p1, ws, p2, p3⟩ := p
    rw [List.take_length] at p3
    exact q (.ref Dl) H' (e2.trans p1) ⟨Dl, ws, rfl, p2, p3⟩
end

section
variable {α β γ : Type} [Rep α] [Rep β] [Rep γ] {K : PySem.W.Frag} {σ : L2.St} {H H' : Hp} {te tl ta tb tc : TE} {u : TS} {D : Ends} {tt : TT} {tA : TA} {i j : Int}
theorem er_lcY [Imm β] {wi : TI} {xs : List α} {vs : List Nat} {gt : TG} (g : α → β) (h : Wk K wi σ H xs) (hz : xs.length ≤ 100000)
    (ht : ∀ x v H1, x ∈ xs → Ex H H1 → Rep.rel K H1 v x → ∀ Q : L2.St → Hp → Prop, (∀ σ2 H2, Ex H1 H2 → wipe σ2 vs = wipe σ vs → ER K te σ2 H2 (g x) → Q σ2 H2) → gt v (wipe σ vs) H1 Q) :
    ER K (tLc wi gt tYes te vs) σ H (xs.map g) := by
  have z := er_lc (tt := tYes) (te := te) (vs := vs) (gt := gt) (fun _ => true) g h hz fun x v H1 hx e r Q q => ht x v H1 hx e r Q fun σ2 H2 e2 hw t2 => q σ2 H2 e2 hw (fun H3 _ Q' q' => q' H3 (Ex.refl _)) (fun _ => t2)
  have ef : xs.filter (fun _ => true) = xs := List.filter_eq_self.mpr fun _ _ => rfl
  rw [ef] at z
  exact z
/-- the target is one name: its slot is set in the turn, wiped behind -/
theorem gn_ok {n : Nat} {s0 : L2.St} {s1 : V → L2.St} {v : V} {H1 : Hp} {Q : L2.St → Hp → Prop} {vs : List Nat} (h0 : wipe σ vs = s0) (hs : SetAt s0 n v (s1 v)) (hw : wipe (s1 v) vs = s0) (q : wipe (s1 v) vs = wipe σ vs → Q (s1 v) H1) : gName n v (wipe σ vs) H1 Q := by
  show Q ((wipe σ vs).set n (some v)) H1
  rw [h0, hs.eq]
  exact q (by rw [hw, h0])
/-! ### built-ins -/
theorem er_all {bs : List Bool} (h : ER K ta σ H bs) : ER K (tCB (rAll K) (tCons ta tNil)) σ H (bs.all id) := fun H1 e Q q => h H1 e _ fun v H2 e2 ⟨a, vs, hv, hs, hr⟩ => ⟨a, bs, by rw [hv], by rw [← rels_bls hr]; exact sq_of hs, q _ H2 e2 rfl⟩
theorem er_any {bs : List Bool} (h : ER K ta σ H bs) : ER K (tCB (rAny K) (tCons ta tNil)) σ H (bs.any id) := fun H1 e Q q => h H1 e _ fun v H2 e2 ⟨a, vs, hv, hs, hr⟩ => ⟨a, bs, by rw [hv], by rw [← rels_bls hr]; exact sq_of hs, q _ H2 e2 rfl⟩
theorem er_sum {ns : List Int} (h : ER K ta σ H ns) : ER K (tCB (rSum K) (tCons ta tNil)) σ H ns.sum := fun H1 e Q q => h H1 e _ fun v H2 e2 ⟨a, vs, hv, hs, hr⟩ => ⟨a, ns, by rw [hv], by rw [← rels_ints hr]; exact sq_of hs, q _ H2 e2 rfl⟩
abbrev rLenQ (K : PySem.W.Frag) : List V → Hp → VK → Prop := fun xs H Q => ∃ p ys, xs = [.ref p] ∧ (SqL K H p ys ∨ SqT K H p ys) ∧ Q (.int ys.length) H
theorem er_lenL {xs : List α} (h : ER K ta σ H xs) : ER K (tCB (rLenQ K) (tCons ta tNil)) σ H (xs.length : Int) := fun H1 e Q q => h H1 e _ fun v H2 e2 ⟨a, vs, hv, hs, hr⟩ => ⟨a, vs, by rw [hv], .inl (sq_of hs), by
  rw [rels_len hr]
  exact q _ H2 e2 rfl⟩
theorem er_lenT {xs : Tpl α} (h : ER K ta σ H xs) : ER K (tCB (rLenQ K) (tCons ta tNil)) σ H (xs.l.length : Int) := fun H1 e Q q => h H1 e _ fun v H2 e2 ⟨a, vs, hv, hs, hr⟩ => ⟨a, vs, by rw [hv], .inr hs, by
  rw [rels_len hr]
  exact q _ H2 e2 rfl⟩
abbrev rLenZ : List V → Hp → VK → Prop := fun xs H Q => ∃ z, xs = [.str z] ∧ z.length ≤ sizeLine ∧ Q (.int z.length) H
theorem er_lenS {z : Str} (h : ER K ta σ H z) (hz : z.length ≤ 100000) : ER K (tCB rLenZ (tCons ta tNil)) σ H (z.length : Int) := fun H1 e Q q => h H1 e _ fun v H2 e2 r => ⟨z, by rw [r], sz_of hz, q _ H2 e2 rfl⟩
abbrev rAbs : List V → Hp → VK → Prop := fun xs H Q => ∃ i, xs = [.int i] ∧ Q (.int (if i < 0 then -i else i)) H
theorem er_abs (h : ER K ta σ H i) : ER K (tCB rAbs (tCons ta tNil)) σ H (if i < 0 then -i else i) := fun H1 e Q q => h H1 e _ fun v H2 e2 r => ⟨i, by rw [r], q _ H2 e2 rfl⟩
abbrev rMax2' : List V → Hp → VK → Prop := fun xs H Q => ∃ i j, xs = [.int i, .int j] ∧ Q (.int (if j > i then j else i)) H
abbrev rMin2' : List V → Hp → VK → Prop := fun xs H Q => ∃ i j, xs = [.int i, .int j] ∧ Q (.int (if j < i then j else i)) H
theorem er_max2 (h : ER K ta σ H i) (h2 : ER K tb σ H j) : ER K (tCB rMax2' (tCons ta (tCons tb tNil))) σ H (max i j) := fun H1 e Q q => h H1 e _ fun v H2 e2 r => h2 H2 (e.trans e2) _ fun w H3 e3 r2 => ⟨i, j, by rw [r, r2], by
  have z : (if j > i then j else i) = max i j := by
    split <;> omega
  rw [z]
  exact q _ H3 (e2.trans e3) rfl⟩
theorem er_min2 (h : ER K ta σ H i) (h2 : ER K tb σ H j) : ER K (tCB rMin2' (tCons ta (tCons tb tNil))) σ H (min i j) := fun H1 e Q q => h H1 e _ fun v H2 e2 r => h2 H2 (e.trans e2) _ fun w H3 e3 r2 => ⟨i, j, by rw [r, r2], by
  have z : (if j < i then j else i) = min i j := by
    split <;> omega
  rw [z]
  exact q _ H3 (e2.trans e3) rfl⟩
abbrev rInt1 : List V → Hp → VK → Prop := fun xs H Q => (∃ i, xs = [.int i] ∧ Q (.int i) H) ∨ ∃ k, xs = [.bl k] ∧ Q (.int (if k then 1 else 0)) H
theorem er_int1 (h : ER K ta σ H i) : ER K (tCB rInt1 (tCons ta tNil)) σ H i := fun H1 e Q q => h H1 e _ fun v H2 e2 r => .inl ⟨i, by rw [r], q _ H2 e2 rfl⟩
theorem er_intB {b : Bool} (h : ER K ta σ H b) : ER K (tCB rInt1 (tCons ta tNil)) σ H (if b then (1 : Int) else 0) := fun H1 e Q q => h H1 e _ fun v H2 e2 r => .inr ⟨b, by rw [r], q _ H2 e2 rfl⟩
/-! ### displays -/
def EAs (K : PySem.W.Frag) (ta : TA) (σ : L2.St) (H : Hp) (xs : List α) : Prop := ∀ H1, Ex H H1 → ∀ Q : List V → Hp → Prop, (∀ vs H2, Ex H1 H2 → rels K H2 vs xs → Q vs H2) → ta σ H1 Q
theorem eas_nil : EAs (α := α) K tNil σ H [] := fun H1 _ Q q => q [] H1 (Ex.refl _) .nil
theorem eas_cons {x : α} {xs : List α} {tr : TA} (h : ER K te σ H x) (hr : EAs K tr σ H xs) : EAs K (tCons te tr) σ H (x :: xs) := fun H1 e Q q => h H1 e _ fun v H2 e2 r => hr H2 (e.trans e2) _ fun vs H3 e3 rs => q _ H3 (e2.trans e3) (.cons (Rep.mono e3 r) rs)
theorem er_lst {xs : List α} (h : EAs K tA σ H xs) (hl : xs.length ≤ 100000) : ER K (tLst tA) σ H xs := fun H1 e Q q => h H1 e _ fun vs H2 e2 rs => ⟨by rw [rels_len rs]; exact sz_of hl, fun p hp =>
  have n := Ex.new (o := .lst vs) hp
  q _ _ (e2.trans n) ⟨p, vs, rfl, upd_same, rels_mono n rs⟩⟩
theorem er_tpl {xs : List α} (h : EAs K tA σ H xs) (hl : xs.length ≤ 100000) : ER K (tTup tA) σ H (Tpl.mk xs) := fun H1 e Q q => h H1 e _ fun vs H2 e2 rs => ⟨by rw [rels_len rs]; exact sz_of hl, fun p hp =>
  have n := Ex.new (o := .tup vs) hp
  q _ _ (e2.trans n) ⟨p, vs, rfl, st_of upd_same, rels_mono n rs⟩⟩
theorem er_cat {xs ys : List α} (h : ER K ta σ H xs) (h2 : ER K tb σ H ys) (hl : xs.length + ys.length ≤ 100000) : ER K (tOp rCat ta tb) σ H (xs ++ ys) := fun H1 e Q q => h H1 e _ fun v H2 e2 ⟨a, vs, hv, hs, hr⟩ => h2 H2 (e.trans e2) _ fun w H3 e3 ⟨b, ws, hw, hs', hr'⟩ =>
  ⟨a, b, vs, ws, hv, hw, e3 _ _ hs, hs', by rw [rels_len hr, rels_len hr']; exact sz_of hl, fun p hp =>
    have n := Ex.new (o := .lst (vs ++ ws)) hp
    q _ _ ((e2.trans e3).trans n) ⟨p, vs ++ ws, rfl, upd_same, rels_mono n (rels_app (rels_mono e3 hr) hr')⟩⟩
/-- an item of a list, of a tuple -/
theorem er_ixL {xs : List α} {x : α} (h : ER K ta σ H xs) (h2 : ER K tb σ H i) (hx : atI xs i = some x) : ER K (tOp (rIxL K) ta tb) σ H x := fun H1 e Q q => h H1 e _ fun v H2 e2 ⟨a, vs, hv, hs, hr⟩ => h2 H2 (e.trans e2) _ fun w H3 e3 r2 => by
  have hl := rels_len hr
  obtain ⟨k, hk, hx2⟩ := Option.bind_eq_some_iff.mp hx
  obtain ⟨w', hw, rw'⟩ := rels_at hr hx2
  exact ⟨a, vs, i, w', hv, r2, sq_of (e3 _ _ hs), by unfold atI; rw [hl, hk]; exact hw, q w' H3 (e2.trans e3) (Rep.mono e3 rw')⟩
theorem er_ixT {xs : Tpl α} {x : α} (h : ER K ta σ H xs) (h2 : ER K tb σ H i) (hx : atI xs.l i = some x) : ER K (tOp (rIxT K) ta tb) σ H x := fun H1 e Q q => h H1 e _ fun v H2 e2 ⟨a, vs, hv, hs, hr⟩ => h2 H2 (e.trans e2) _ fun w H3 e3 r2 => by
  have hl := rels_len hr
  obtain ⟨k, hk, hx2⟩ := Option.bind_eq_some_iff.mp hx
  obtain ⟨w', hw, rw'⟩ := rels_at hr hx2
  exact ⟨a, vs, i, w', hv, r2, ex_t e3 hs, by unfold atI; rw [hl, hk]; exact hw, q w' H3 (e2.trans e3) (Rep.mono e3 rw')⟩
end

/-! ### any data -/
section
variable {K : PySem.W.Frag} {σ : L2.St} {H H' : Hp} {te tl ta tb tc : TE}
mutual
theorem dp_mono (e : Ey H H') : ∀ (d : PyData) (v : V), Dp K H v d → Dp K H' v d
  | .none, _, .non => .non
  | .bool b, _, .bl _ => .bl b
  | .int i, _, .int _ => .int i
  | .str x, _, .str _ => .str x
  | .list ds, _, .lst hs hr => .lst (ey_l e hs) (dpAll_mono e ds _ hr)
  | .tuple ds, _, .tup hs hr => .tup (ey_t e hs) (dpAll_mono e ds _ hr)
theorem dpAll_mono (e : Ey H H') : ∀ (ds : List PyData) (vs : List V), DpAll K H vs ds → DpAll K H' vs ds
  | [], _, .nil => .nil
  | d :: ds, _, .cons h hr => .cons (dp_mono e d _ h) (dpAll_mono e ds _ hr)
end
instance : Rep PyData := ⟨fun K H v d => Dp K H v d, fun e h => dp_mono e _ _ h⟩
class Enc (α : Type) [Rep α] where
  enc : α → PyData
  dp : ∀ {K : PySem.W.Frag} {H : Hp} {v : V} {x : α}, Rep.rel K H v x → Dp K H v (enc x)
instance : Enc Int := ⟨.int, fun h => by cases h; exact .int _⟩
instance : Enc Bool := ⟨.bool, fun h => by cases h; exact .bl _⟩
instance : Enc Str := ⟨.str, fun h => by cases h; exact .str _⟩
instance : Enc Sg := ⟨fun s => .str ⟨#[s.c]⟩, fun h => by cases h; exact .str _⟩
instance : Enc Unit := ⟨fun _ => .none, fun h => by cases h; exact .non⟩
instance : Enc PyData := ⟨id, id⟩
def Fld.enc (f : Fld) : PyData := .tuple [.int f.low, .int f.high, .int f.step, .int f.base, .str f.off, .str f.ends, .int f.big]
instance : Enc Fld := ⟨Fld.enc, fun ⟨a, h, hs⟩ => by
  subst h
  exact .tup hs (.cons (.int _) (.cons (.int _) (.cons (.int _) (.cons (.int _) (.cons (.str _) (.cons (.str _) (.cons (.int _) .nil)))))))⟩
instance {α β : Type} [Rep α] [Rep β] [Enc α] [Enc β] : Enc (α × β) := ⟨fun x => .tuple [Enc.enc x.1, Enc.enc x.2], fun ⟨a, v1, v2, h, hs, h1, h2⟩ => by
  subst h
  exact .tup hs (.cons (Enc.dp h1) (.cons (Enc.dp h2) .nil))⟩
instance {α β γ : Type} [Rep α] [Rep β] [Rep γ] [Enc α] [Enc β] [Enc γ] : Enc (Tri α β γ) := ⟨fun x => .tuple [Enc.enc x.a, Enc.enc x.b, Enc.enc x.c], fun ⟨a, v1, v2, v3, h, hs, h1, h2, h3⟩ => by
  subst h
  exact .tup hs (.cons (Enc.dp h1) (.cons (Enc.dp h2) (.cons (Enc.dp h3) .nil)))⟩
theorem rels_dp {α : Type} [Rep α] [Enc α] {vs : List V} {xs : List α} (h : rels K H vs xs) : DpAll K H vs (xs.map Enc.enc) := by
  induction h with
  | nil => exact .nil
  | cons r _ ih => exact .cons (Enc.dp r) ih
instance {α : Type} [Rep α] [Enc α] : Enc (List α) := ⟨fun xs => .list (xs.map Enc.enc), fun ⟨a, vs, h, hs, hr⟩ => by
  subst h
  exact .lst (sq_of hs) (rels_dp hr)⟩
instance {α : Type} [Rep α] [Enc α] : Enc (Tpl α) := ⟨fun xs => .tuple (xs.l.map Enc.enc), fun ⟨a, vs, h, hs, hr⟩ => by
  subst h
  exact .tup hs (rels_dp hr)⟩
instance {α : Type} [Rep α] [Enc α] : Enc (Option α) := ⟨fun x => match x with
  | none => .none
  | some y => Enc.enc y, fun {K H v x} h => by
    cases x with
    | none =>
      have h1 : v = .non := h
      subst h1
      exact .non
    | some y => exact Enc.dp (x := y) h⟩
theorem er_enc {α : Type} [Rep α] [Enc α] {x : α} (h : ER K te σ H x) : ER K te σ H (Enc.enc x) := fun H1 e Q q => h H1 e Q fun v H2 e2 r => q v H2 e2 (Enc.dp r)
def tyN : PyData → String
  | .none => "NoneType"
  | .bool _ => "bool"
  | .int _ => "int"
  | .str _ => "str"
  | .list _ => "list"
  | .tuple _ => "tuple"
  | .dict _ => "dict"
theorem dp_ty {v : V} : ∀ {d : PyData}, Dp K H v d → TyX K H v (.type (tyN d))
  | .none, .non => .base .non
  | .bool b, .bl _ => .base (.bl b)
  | .int i, .int _ => .base (.int i)
  | .str x, .str _ => .base (.str x)
  | .list ds, .lst hs hr => by
    rcases hs with (h | ⟨o, h⟩) | ⟨o, its, n, hk, hc, _⟩
    · exact .base (.lst h)
    · exact .base (.frz h)
    · exact .kList hk hc
  | .tuple ds, .tup hs hr => by
    rcases hs with (h | ⟨o, h⟩) | ⟨o, its, n, hk, hc, _⟩
    · exact .base (.tup h)
    · exact .fTuple h
    · exact .kTuple hk hc
theorem er_isi {d : PyData} {T : String} {b : Bool} (h : ER K ta σ H d) (hk : kitB (tyN d) T = some b) : ER K (tCB (rIsi K) (tCons ta (tCons (tC (.ty T)) tNil))) σ H b := fun H1 e Q q =>
  h H1 e _ fun v H2 e2 r => ⟨v, .ty T, _, _, b, rfl, .ty T, dp_ty r, kit_ty hk, q _ H2 e2 rfl⟩
/-- deep == -/
theorem er_eqD {x y : PyData} (ha : ER K ta σ H x) (hb : ER K tb σ H y) (h1 : SeqAt.shaped x = true) (h2 : SeqAt.shaped y = true) : ER K (tOp (rEqD K) ta tb) σ H (PyData.eqv x y) := fun H1 e Q q =>
  ha H1 e _ fun v H2 e2 r => hb H2 (e.trans e2) _ fun w H3 e3 r2 => ⟨x, y, dp_mono e3.y _ _ r, r2, h1, h2, q _ H3 (e2.trans e3) rfl⟩
theorem er_neD {x y : PyData} (ha : ER K ta σ H x) (hb : ER K tb σ H y) (h1 : SeqAt.shaped x = true) (h2 : SeqAt.shaped y = true) : ER K (tOp (rNeD K) ta tb) σ H (!PyData.eqv x y) := fun H1 e Q q =>
  ha H1 e _ fun v H2 e2 r => hb H2 (e.trans e2) _ fun w H3 e3 r2 => ⟨x, y, dp_mono e3.y _ _ r, r2, h1, h2, q _ H3 (e2.trans e3) rfl⟩
/-- a text in a tuple of texts -/
theorem in_strs {s : Str} {xs : List Str} : inV (.str s) (xs.map V.str) = decide (s ∈ xs) := by
  unfold inV
  induction xs with
  | nil => rfl
  | cons x r ih =>
    rw [List.map_cons, List.any_cons, ih]
    show (x == s || _) = _
    rw [Bool.eq_iff_iff]
    simp only [Bool.or_eq_true, beq_iff_eq, decide_eq_true_eq, List.mem_cons]
    constructor
    · rintro (h | h)
      · exact .inl h.symm
      · exact .inr h
    · rintro (h | h)
      · exact .inl h.symm
      · exact .inr h
theorem flat_strs {xs : List Str} : (xs.map V.str).all flatV = true := by
  rw [List.all_map]
  exact List.all_eq_true.mpr fun _ _ => rfl
theorem er_inT {s : Str} {xs : Tpl Str} (ha : ER K ta σ H s) (hb : ER K tb σ H xs) : ER K (tOp (rIn K false) ta tb) σ H (decide (s ∈ xs.l)) := fun H1 e Q q =>
  ha H1 e _ fun v H2 e2 r => hb H2 (e.trans e2) _ fun w H3 e3 ⟨p, vs, hw, hs, hr⟩ => by
    cases r
    have h1 := rels_strs hr
    subst h1
    exact ⟨p, _, hw, .inr hs, rfl, flat_strs, q _ H3 (e2.trans e3) (by rw [if_neg Bool.false_ne_true, in_strs]; rfl)⟩
end

/-! ### more statements -/
section
variable {α β : Type} [Rep α] [Rep β] {σ σ' : L2.St} {H : Hp} {te ta tb : TE} {D : Ends} {u : TS} {n m : Nat} {g : TGs}
theorem q_unpP (K : PySem.W.Frag) {x : α × β} (h : ER K te σ H x) (k : ∀ v1 v2 H1, Ex H H1 → Rep.rel K H1 v1 x.1 → Rep.rel K H1 v2 x.2 → g [v1, v2] σ H1 fun σ' H' => u D σ' H') : tSeq (tAsg te (gTup K 2 g)) u D σ H := h H (Ex.refl H) _ fun v H1 e ⟨a, v1, v2, hv, hs, r1, r2⟩ =>
  ⟨a, [v1, v2], hv, hs, rfl, k v1 v2 H1 e r1 r2⟩
theorem q_unpII (K : PySem.W.Frag) {x : Int × Int} (h : ER K te σ H x) (k : ∀ H1, Ex H H1 → g [.int x.1, .int x.2] σ H1 fun σ' H' => u D σ' H') : tSeq (tAsg te (gTup K 2 g)) u D σ H := q_unpP K h fun v1 v2 H1 e r1 r2 => by
  cases r1
  cases r2
  exact k H1 e
theorem q_par (K : PySem.W.Frag) {s1 s2 : V → V → L2.St} {x : α} {y : β} (h : ER K ta σ H x) (h2 : ∀ H1, Ex H H1 → ER K tb σ H1 y) (hs1 : ∀ v w, SetAt σ n v (s1 v w)) (hs2 : ∀ v w, SetAt (s1 v w) m w (s2 v w))
    (k : ∀ v w H1, Ex H H1 → Rep.rel K H1 v x → Rep.rel K H1 w y → u D (s2 v w) H1) : tSeq (tPar n m (tCons ta (tCons tb tNil))) u D σ H := h H (Ex.refl H) _ fun v H1 e r => h2 H1 e H1 (Ex.refl H1) _ fun w H2 e2 r2 => ⟨v, w, rfl, by
  show u D ((σ.set n (some v)).set m (some w)) H2
  rw [(hs1 v w).eq, (hs2 v w).eq]
  exact k v w H2 (e.trans e2) (Rep.mono e2 r) r2⟩
theorem q_raise {D : Ends} {σ : L2.St} {H : Hp} (h : False) {t : TS} : t D σ H := h.elim
end

/-! ### a written dict, read by a text -/
section
variable {K : PySem.W.Frag} {σ : L2.St} {H : Hp} {tk tv ty ta te : TE} {trs : List (TE × TE)} {i j : Int}
def EPs (K : PySem.W.Frag) (trs : List (TE × TE)) (σ : L2.St) (H : Hp) (ps : List (Str × Int)) : Prop := ∀ H1, Ex H H1 → ∀ Q : List (V × V) → Hp → Prop, (∀ H2, Ex H1 H2 → Q (ps.map fun p => (V.str p.1, V.int p.2)) H2) → tPairs trs σ H1 Q
theorem eps_nil : EPs K [] σ H [] := fun H1 _ _ q => q H1 (Ex.refl _)
theorem eps_cons {s : Str} {ps : List (Str × Int)} (h : ER K tv σ H i) (hr : EPs K trs σ H ps) : EPs K ((tC (.str s), tv) :: trs) σ H ((s, i) :: ps) := fun H1 e Q q => by
  show tv σ H1 _
  exact h H1 e _ fun v H2 e2 r => by
    cases r
    exact hr H2 (e.trans e2) _ fun H3 e3 => q H3 (e2.trans e3)
theorem er_dsp {ps : List (Str × Int)} {s : Str} (h : EPs K trs σ H ps) (hk : ER K ty σ H s) (hl : ps.length ≤ 15) (hv : valV (mergeK [] (ps.map fun p => ((Sum.inr p.1 : Key), V.int p.2))) (Sum.inr s) = some (.int i)) :
    ER K (tDGet (tDisp trs) ty) σ H i := fun H1 e Q q => by
  show ∀ p, H1 p = none → _
  intro p hp
  refine h _ (e.trans (Ex.new hp)) _ fun H2 e2 => ⟨e2 p _ upd_same, ps.map (fun p => ((Sum.inr p.1 : Key), V.int p.2)), ?_, by rw [List.length_map]; exact hl, ?_⟩
  · rw [List.map_map]
    rfl
  have e4 : Ex H1 (upd H2 p (.dK (mergeK [] (ps.map fun p => ((Sum.inr p.1 : Key), V.int p.2))))) := Ex.mut ((Ex.new hp).trans e2) hp
  refine hk _ (e.trans e4) _ fun v H3 e3 r => ?_
  cases r
  exact ⟨p, .int i, rfl, hv ▸ DGet.k (k := Sum.inr s) (e3 p _ upd_same), q _ H3 (e4.trans e3) rfl⟩
theorem er_sg {c : Nat} (h : ER K te σ H (Sg.mk c)) : ER K te σ H (⟨#[c]⟩ : Str) := fun H1 e Q q => h H1 e Q fun v H2 e2 r => q v H2 e2 r
/-! ### tuples told by their places -/
theorem er_ixq {α : Type} [Rep α] {x : α} {p : Addr} {xs : List V} {k : Nat} {n : Int} {w : V} (h : σ[k]? = some (some (.ref p))) (hs : SqT K H p xs) (hx : atI xs n = some w) (r : Rep.rel K H w x) : ER K (tOp (rIxT K) (tVar k) (tC (.int n))) σ H x := fun H1 e Q q =>
  ⟨.ref p, h, p, xs, n, w, rfl, rfl, ex_t e hs, hx, q w H1 (Ex.refl _) (Rep.mono e r)⟩
theorem cutV_rels {α : Type} [Rep α] {vs : List V} {xs : List α} (h : rels K H vs xs) (lo hi : Option Int) : rels K H (cutV vs lo hi) ((xs.drop (HT.sIx xs.length 0 lo)).take (HT.sIx xs.length xs.length hi - HT.sIx xs.length 0 lo)) := by
  have hl := rels_len h
  unfold cutV
  rw [hl]
  generalize HT.sIx xs.length 0 lo = a
  generalize HT.sIx xs.length xs.length hi - a = b
  have hd : ∀ (n : Nat) (vs : List V) (xs : List α), rels K H vs xs → rels K H (vs.drop n) (xs.drop n) := by
    intro n
    induction n with
    | zero => intro vs xs h; exact h
    | succ n ih =>
      intro vs xs h
      cases h with
      | nil => exact .nil
      | cons _ t => exact ih _ _ t
  have ht : ∀ (n : Nat) (vs : List V) (xs : List α), rels K H vs xs → rels K H (vs.take n) (xs.take n) := by
    intro n
    induction n with
    | zero => intro vs xs h; exact .nil
    | succ n ih =>
      intro vs xs h
      cases h with
      | nil => exact .nil
      | cons r t => exact .cons r (ih _ _ t)
  exact ht b _ _ (hd a _ _ h)
theorem er_slT {α : Type} [Rep α] {xs : Tpl α} {ys : List α} {tl th : TO} (lo hi : Option Int) (h : ER K te σ H xs) (hl : ∀ (Q : Option Int → Hp → Prop) H1, Q lo H1 → tl σ H1 Q) (hh : ∀ (Q : Option Int → Hp → Prop) H1, Q hi H1 → th σ H1 Q)
    (hn : ¬ (HT.sIx xs.l.length 0 lo = 0 ∧ HT.sIx xs.l.length xs.l.length hi = xs.l.length)) (hy : (xs.l.drop (HT.sIx xs.l.length 0 lo)).take (HT.sIx xs.l.length xs.l.length hi - HT.sIx xs.l.length 0 lo) = ys) : ER K (tSl (rSlT K) te tl th) σ H (Tpl.mk ys) := fun H1 e Q q =>
  h H1 e _ fun v H2 e2 ⟨a, vs, hv, hs, hr⟩ => hl _ _ (hh _ _ ⟨a, vs, hv, hs, by rw [rels_len hr]; exact hn, fun p hp => by
    have n := Ex.new (o := .tup (cutV vs lo hi)) hp
    exact q _ _ (e2.trans n) ⟨p, _, rfl, st_of upd_same, by rw [← hy]; exact rels_mono n (cutV_rels hr lo hi)⟩⟩)
theorem dpAll_rels {vs : List V} : ∀ {ds : List PyData}, DpAll K H vs ds → rels K H vs ds := by
  induction vs with
  | nil =>
    intro ds h
    cases h
    exact .nil
  | cons v vs ih =>
    intro ds h
    cases h with
    | cons h1 h2 => exact .cons h1 (ih h2)
end
theorem g_name1 {i : Nat} {v : V} {σ σ' : L2.St} {H : Hp} {Q : L2.St → Hp → Prop} (s : SetAt σ i v σ') (k : Q σ' H) : gName i v σ H Q := by
  show Q (σ.set i (some v)) H
  rw [s.eq]
  exact k

/-! ### the source of draws: a list of two ints, of which only that it is one is told -/
inductive Src where
  | mk
instance : Rep Src := ⟨fun _ H v _ => ∃ S, v = .ref S ∧ H S = some (SrcO S), fun e ⟨S, h1, h2⟩ => ⟨S, h1, ey_src e h2⟩⟩
section
variable {P : Program} {w : World} {K : PySem.W.Frag} {mg : Str → Option Value} {base : Heap} {k : Nat} {f : Addr} {fd : FuncData} {ps : List Str} {sp : Sp}
theorem src_new {h : Heap} {H : Hp} {S : Addr} {x y : Int} (hs : ObjOk P w H h S (.lst [.int x, .int y])) (h0 : 0 ≤ y) (h1 : y < 2147483647) {H' : Hp} : ObjOk P w H' h S (SrcO S) := by
  obtain ⟨_, its, n, r, e⟩ := hs
  exact ⟨⟨x, y, its, n, h0, h1, r, e⟩, ⟨_, e⟩, fun h1 h2 ⟨x, y, its, n, a, b, r, e⟩ k => ⟨x, y, its, n, a, b, r, k _ e⟩⟩
theorem src_get {h : Heap} {H : Hp} {S : Addr} (hs : ObjOk P w H h S (SrcO S)) : ∃ x y : Int, 0 ≤ y ∧ y < 2147483647 ∧ ∀ H', ObjOk P w H' h S (.lst [.int x, .int y]) := by
  obtain ⟨⟨x, y, its, n, a, b, r, e⟩, _⟩ := hs
  exact ⟨x, y, a, b, fun _ => ⟨by show 2 ≤ sizeLine; decide, its, n, r, e⟩⟩
/-- a def that hands back a source -/
theorem toSrc (F : FnOk P w K mg base CX0 k f fd ps sp) : FnOk P w K mg base CX0 k f fd ps (fun vs H Q E => sp vs H (fun v H' => ∃ S x y, 0 ≤ y ∧ y < 2147483647 ∧ H' S = some (.lst [.int x, .int y]) ∧ Q v (upd H' S (SrcO S))) E) := by
  refine ⟨fun vs H Q E h => F.len _ _ _ _ h, fun A outer s H args us vs Q E hr e0 hb hv hs => ?_⟩
  refine codeAny_mono (F.run A outer s H args us vs _ E hr e0 hb hv hs) fun r s' hq => ?_
  cases r with
  | error e => exact hq
  | ok fl =>
    cases fl with
    | ret u =>
      obtain ⟨v, H', e1, e2, e3, e4, e5, S, x, y, y0, y1, hS, q⟩ := hq
      have mu : Mut (H' S) := by
        rw [hS]
        exact trivial
      obtain ⟨_, its, n, _, eo⟩ := e4 S _ hS
      exact ⟨v, _, e1, e2, e3.trans (Un.write (o := SrcO S) mu (.inl rfl) (fun _ _ _ q => q) ⟨_, eo⟩), e4.write mu (.inl rfl) (fun _ _ _ q => q) ⟨_, eo⟩ (src_new (e4 S _ hS) y0 y1), e5, q⟩
    | _ => exact hq
/-- a def that is given one -/
theorem ofSrc (F : FnOk P w K mg base CX0 k f fd ps sp) (len : ∀ vs H Q E, sp vs H Q E → vs.length = ps.length) : FnOk P w K mg base CX0 k f fd ps (fun vs H Q E => ∃ S, H S = some (SrcO S) ∧ ∀ x y : Int, 0 ≤ y → y < 2147483647 → sp vs (upd H S (.lst [.int x, .int y])) Q E) := by
  refine ⟨fun vs H Q E h => ?_, fun A outer s H args us vs Q E hr e0 hb hv hs => ?_⟩
  · obtain ⟨S, _, h⟩ := h
    exact len _ _ _ _ (h 0 0 (by omega) (by omega))
  obtain ⟨S, hS, hs⟩ := hs
  obtain ⟨x, y, y0, y1, hn⟩ := src_get (e0.hok S _ hS)
  have mu : Mut (H S) := by
    rw [hS]
    exact trivial
  obtain ⟨_, its, n, _, eo⟩ := hn H
  have ne : ∀ b, H b = none → b ≠ S := fun b hb z => by
    rw [z, hS] at hb
    cases hb
  have e1 : Env0 P w K mg base A outer s (upd H S (.lst [.int x, .int y])) := ⟨e0.frames, e0.mod, fun b o hb => ⟨(e0.bs b o hb).1, by rw [upd_ne (ne b (e0.bs b o hb).2)]; exact (e0.bs b o hb).2⟩, e0.bsz, e0.funs, fun b hb => by rw [upd_ne (ne b (e0.frf b hb))]; exact e0.frf b hb,
    e0.hok.write mu (.inl rfl) (fun _ _ _ q => q) ⟨_, eo⟩ (hn _), e0.bare⟩
  refine codeAny_mono (F.run A outer s _ args us vs Q E hr e1 hb hv (hs x y y0 y1)) fun r s' hq => ?_
  cases r with
  | error e => exact (show False from hq).elim
  | ok fl =>
    cases fl with
    | ret u =>
      obtain ⟨v, H', e2, e3, e4, e5, e6, q⟩ := hq
      exact ⟨v, H', e2, e3, (Un.write (o := .lst [.int x, .int y]) mu (.inl rfl) (fun _ _ _ q => q) ⟨_, eo⟩).trans e4, e5, e6, q⟩
    | _ => exact hq
end

/-! ### what evaluates to some datum with a property -/
section
variable {α β γ : Type} [Rep α] [Rep β] [Rep γ] {K : PySem.W.Frag} {σ σ' : L2.St} {H H' : Hp} {ta tb te ts : TE} {tA : TA} {E : XK} {u : TS} {D : Ends}
def EN (K : PySem.W.Frag) (te : TE) (σ : L2.St) (H : Hp) (P : α → Prop) : Prop := ∀ H1, Ex H H1 → ∀ Q : VK, (∀ x v H2, P x → Ex H1 H2 → Rep.rel K H2 v x → Q v H2) → te σ H1 Q
theorem en_of {P : α → Prop} {x : α} (h : ER K te σ H x) (hp : P x) : EN K te σ H P := fun H1 e Q q => h H1 e Q fun v H2 e2 r => q x v H2 hp e2 r
theorem en_imp {P P' : α → Prop} (h : EN K te σ H P) (hp : ∀ x, P x → P' x) : EN K te σ H P' := fun H1 e Q q => h H1 e Q fun x v H2 p e2 r => q x v H2 (hp x p) e2 r
theorem en_II {r : R2} {P1 P2 : Int → Prop} {P : β → Prop} (ha : EN K ta σ H P1) (hb : EN K tb σ H P2) (hr : ∀ i j H1 (Q : VK), P1 i → P2 j → (∀ x v, P x → Rep.rel K H1 v x → Q v H1) → r (.int i) (.int j) H1 Q) : EN K (tOp r ta tb) σ H P := fun H1 e Q q =>
  ha H1 e _ fun i v1 H2 p1 e2 r1 => hb H2 (e.trans e2) _ fun j v2 H3 p2 e3 r2 => by
    cases r1
    cases r2
    exact hr i j H3 Q p1 p2 fun x v p rv => q x v H3 p (e2.trans e3) rv
theorem en_add {P1 P2 P : Int → Prop} (ha : EN K ta σ H P1) (hb : EN K tb σ H P2) (h : ∀ i j, P1 i → P2 j → P (i + j)) : EN K (tOp (rI0 fun i j => .int (i + j)) ta tb) σ H P := en_II ha hb fun i j H1 Q p1 p2 q => ⟨i, j, rfl, rfl, q _ _ (h i j p1 p2) rfl⟩
theorem en_sub {P1 P2 P : Int → Prop} (ha : EN K ta σ H P1) (hb : EN K tb σ H P2) (h : ∀ i j, P1 i → P2 j → P (i - j)) : EN K (tOp (rI0 fun i j => .int (i - j)) ta tb) σ H P := en_II ha hb fun i j H1 Q p1 p2 q => ⟨i, j, rfl, rfl, q _ _ (h i j p1 p2) rfl⟩
theorem en_mul {P1 P2 P : Int → Prop} (ha : EN K ta σ H P1) (hb : EN K tb σ H P2) (h : ∀ i j, P1 i → P2 j → CMul i j ∧ P (i * j)) : EN K (tOp (rI CMul fun i j => .int (i * j)) ta tb) σ H P := en_II ha hb fun i j H1 Q p1 p2 q => ⟨i, j, rfl, rfl, (h i j p1 p2).1, q _ _ (h i j p1 p2).2 rfl⟩
theorem en_div {P1 P2 P : Int → Prop} (ha : EN K ta σ H P1) (hb : EN K tb σ H P2) (h : ∀ i j, P1 i → P2 j → CDivW i j ∧ P (i / j)) : EN K (tOp (rI CDivW fun i j => .int (i / j)) ta tb) σ H P := en_II ha hb fun i j H1 Q p1 p2 q => ⟨i, j, rfl, rfl, (h i j p1 p2).1, q _ _ (h i j p1 p2).2 rfl⟩
theorem en_eqI {P1 P2 : Int → Prop} (ha : EN K ta σ H P1) (hb : EN K tb σ H P2) : EN K (tOp rEq ta tb) σ H (fun _ : Bool => True) := en_II ha hb fun i j H1 Q p1 p2 q => ⟨rfl, q (decide (V.int i = V.int j)) _ trivial rfl⟩
theorem en_min2 {P1 P2 P : Int → Prop} (ha : EN K ta σ H P1) (hb : EN K tb σ H P2) (h : ∀ i j, P1 i → P2 j → P (min i j)) : EN K (tCB rMin2' (tCons ta (tCons tb tNil))) σ H P := fun H1 e Q q =>
  ha H1 e _ fun i v1 H2 p1 e2 r1 => hb H2 (e.trans e2) _ fun j v2 H3 p2 e3 r2 => ⟨i, j, by rw [r1, r2], by
    have z : (if j < i then j else i) = min i j := by
      split <;> omega
    rw [z]
    exact q _ _ H3 (h i j p1 p2) (e2.trans e3) rfl⟩
theorem en_max2 {P1 P2 P : Int → Prop} (ha : EN K ta σ H P1) (hb : EN K tb σ H P2) (h : ∀ i j, P1 i → P2 j → P (max i j)) : EN K (tCB rMax2' (tCons ta (tCons tb tNil))) σ H P := fun H1 e Q q =>
  ha H1 e _ fun i v1 H2 p1 e2 r1 => hb H2 (e.trans e2) _ fun j v2 H3 p2 e3 r2 => ⟨i, j, by rw [r1, r2], by
    have z : (if j > i then j else i) = max i j := by
      split <;> omega
    rw [z]
    exact q _ _ H3 (h i j p1 p2) (e2.trans e3) rfl⟩
/-- n data, each with a property -/
def ENs (K : PySem.W.Frag) (tA : TA) (σ : L2.St) (H : Hp) (n : Nat) (P : α → Prop) : Prop := ∀ H1, Ex H H1 → ∀ Q : List V → Hp → Prop, (∀ (xs : List α) vs H2, xs.length = n → (∀ x ∈ xs, P x) → Ex H1 H2 → rels K H2 vs xs → Q vs H2) → tA σ H1 Q
theorem ens_nil {P : α → Prop} : ENs K tNil σ H 0 P := fun H1 _ Q q => q [] [] H1 rfl (fun _ h => nomatch h) (Ex.refl _) .nil
theorem ens_cons {P : α → Prop} {n : Nat} (h : EN K te σ H P) (hr : ENs K tA σ H n P) : ENs K (tCons te tA) σ H (n + 1) P := fun H1 e Q q => h H1 e _ fun x v H2 p e2 r => hr H2 (e.trans e2) _ fun xs vs H3 l pa e3 rs =>
  q (x :: xs) _ H3 (by rw [List.length_cons, l]) (fun y hy => by
    rcases List.mem_cons.mp hy with z | z
    · rw [z]
      exact p
    · exact pa y z) (e2.trans e3) (.cons (Rep.mono e3 r) rs)
theorem en_lst {P : α → Prop} {n : Nat} (h : ENs K tA σ H n P) (hn : n ≤ 100000) : EN K (tLst tA) σ H (fun xs : List α => xs.length = n ∧ ∀ x ∈ xs, P x) := fun H1 e Q q => h H1 e _ fun xs vs H2 l pa e2 rs => ⟨by rw [rels_len rs, l]; exact sz_of hn, fun p hp =>
  have n := Ex.new (o := .lst vs) hp
  q xs _ _ ⟨l, pa⟩ (e2.trans n) ⟨p, vs, rfl, upd_same, rels_mono n rs⟩⟩
theorem en_tup2 {P1 : α → Prop} {P2 : β → Prop} (ha : EN K ta σ H P1) (hb : EN K tb σ H P2) : EN K (tTup (tCons ta (tCons tb tNil))) σ H (fun x : α × β => P1 x.1 ∧ P2 x.2) := fun H1 e Q q =>
  ha H1 e _ fun x v1 H2 p1 e2 r1 => hb H2 (e.trans e2) _ fun y v2 H3 p2 e3 r2 => ⟨sz_of (by show 2 ≤ 100000; decide), fun p hp =>
    have n := Ex.new (o := .tup [v1, v2]) hp
    q (x, y) (.ref p) _ ⟨p1, p2⟩ ((e2.trans e3).trans n) ⟨p, v1, v2, rfl, st_of upd_same, Rep.mono (e3.trans n) r1, Rep.mono n r2⟩⟩
/-! the promises of draws -/
def SP_draw (K : PySem.W.Frag) : Sp := fun vs H Q _ => ∃ v n, vs = [v, .int n] ∧ Rep.rel K H v Src.mk ∧ 1 ≤ n ∧ n ≤ 1000000000000000000000000 ∧ ∀ d H', 0 ≤ d → d < n → Ex H H' → Q (.int d) H'
def SP_choice (K : PySem.W.Frag) : Sp := fun vs H Q _ => ∃ v l xs, vs = [v, .ref l] ∧ Rep.rel K H v Src.mk ∧ H l = some (.lst xs) ∧ 1 ≤ xs.length ∧ xs.length ≤ 100000 ∧ ∀ x H', x ∈ xs → Ex H H' → Q x H'
theorem en_draw {P1 P : Int → Prop} (hs : ER K ts σ H Src.mk) (ha : EN K ta σ H P1) (h : ∀ n, P1 n → 1 ≤ n ∧ n ≤ 1000000000000000000000000) (hp : ∀ n d, P1 n → 0 ≤ d → d < n → P d) : EN K (tCall (SP_draw K) [] E (tCons ts (tCons ta tNil))) σ H P := fun H1 e Q q =>
  hs H1 e _ fun v1 H2 e2 r1 => ha H2 (e.trans e2) _ fun n v2 H3 p1 e3 r2 => by
    cases r2
    exact ⟨v1, n, rfl, Rep.mono e3 r1, (h n p1).1, (h n p1).2, fun d H' d0 d1 e4 => q d _ H' (hp n d p1 d0 d1) ((e2.trans e3).trans e4) rfl⟩
theorem rels_mem {vs : List V} {xs : List α} (h : rels K H vs xs) {v : V} (hv : v ∈ vs) : ∃ x, x ∈ xs ∧ Rep.rel K H v x := by
  obtain ⟨i, hi⟩ := List.getElem?_of_mem hv
  obtain ⟨x, h1, h2⟩ := rels_get h hi
  exact ⟨x, List.mem_of_getElem? h1, h2⟩
theorem en_choice {P : α → Prop} (hs : ER K ts σ H Src.mk) (ha : EN K ta σ H (fun xs : List α => 1 ≤ xs.length ∧ xs.length ≤ 100000 ∧ ∀ x ∈ xs, P x)) : EN K (tCall (SP_choice K) [] E (tCons ts (tCons ta tNil))) σ H P := fun H1 e Q q =>
  hs H1 e _ fun v1 H2 e2 r1 => ha H2 (e.trans e2) _ fun xs v2 H3 ⟨p1, p2, p3⟩ e3 ⟨l, vs, hv, hl, hr⟩ => by
    subst hv
    refine ⟨v1, l, vs, rfl, Rep.mono e3 r1, hl, by rw [rels_len hr]; exact p1, by rw [rels_len hr]; exact p2, fun v H' hm e4 => ?_⟩
    obtain ⟨x, hx, rx⟩ := rels_mem hr hm
    exact q x v H' (p3 x hx) ((e2.trans e3).trans e4) (Rep.mono e4 rx)
/-- .. of a written list -/
theorem en_pick {P : α → Prop} {n : Nat} (hs : ER K ts σ H Src.mk) (ha : ENs K tA σ H n P) (h1 : 1 ≤ n) (h2 : n ≤ 100000) : EN K (tCall (SP_choice K) [] E (tCons ts (tCons (tLst tA) tNil))) σ H P :=
  en_choice hs (en_imp (en_lst ha h2) fun xs ⟨l, p⟩ => ⟨by omega, by omega, p⟩)
theorem n_set (K : PySem.W.Frag) {P : α → Prop} {n : Nat} {s' : V → L2.St} (h : EN K te σ H P) (s : ∀ v, SetAt σ n v (s' v)) (k : ∀ x v H1, P x → Ex H H1 → Rep.rel K H1 v x → u D (s' v) H1) : tSeq (tAsg te (gName n)) u D σ H := h H (Ex.refl H) _ fun x v H1 p e r => by
  show u D (σ.set n (some v)) H1
  rw [(s v).eq]
  exact k x v H1 p e r
theorem nl_set (K : PySem.W.Frag) {P : α → Prop} {n : Nat} {s' : V → L2.St} (h : EN K te σ H P) (s : ∀ v, SetAt σ n v (s' v)) (k : ∀ x v H1, P x → Ex H H1 → Rep.rel K H1 v x → D.nx (s' v) H1) : tAsg te (gName n) D σ H := h H (Ex.refl H) _ fun x v H1 p e r => by
  show D.nx (σ.set n (some v)) H1
  rw [(s v).eq]
  exact k x v H1 p e r
theorem n_setI (K : PySem.W.Frag) {P : Int → Prop} {n : Nat} {s' : V → L2.St} (h : EN K te σ H P) (s : ∀ v, SetAt σ n v (s' v)) (k : ∀ i H1, P i → Ex H H1 → u D (s' (.int i)) H1) : tSeq (tAsg te (gName n)) u D σ H := n_set K h s fun x v H1 p e r => by
  cases r
  exact k x H1 p e
theorem n_par (K : PySem.W.Frag) {n m : Nat} {s1 s2 : V → V → L2.St} {P1 : α → Prop} {P2 : β → Prop} (h : EN K ta σ H P1) (h2 : ∀ H1, Ex H H1 → EN K tb σ H1 P2) (hs1 : ∀ v w, SetAt σ n v (s1 v w)) (hs2 : ∀ v w, SetAt (s1 v w) m w (s2 v w))
    (k : ∀ x y v w H1, P1 x → P2 y → Ex H H1 → Rep.rel K H1 v x → Rep.rel K H1 w y → u D (s2 v w) H1) : tSeq (tPar n m (tCons ta (tCons tb tNil))) u D σ H := h H (Ex.refl H) _ fun x v H1 p1 e r => h2 H1 e H1 (Ex.refl H1) _ fun y w H2 p2 e2 r2 => ⟨v, w, rfl, by
  show u D ((σ.set n (some v)).set m (some w)) H2
  rw [(hs1 v w).eq, (hs2 v w).eq]
  exact k x y v w H2 p1 p2 (e.trans e2) (Rep.mono e2 r) r2⟩
theorem n_ret (K : PySem.W.Frag) {P : α → Prop} {Q : VK} {nx bk ct} (h : EN K te σ H P) (k : ∀ x v H1, P x → Ex H H1 → Rep.rel K H1 v x → Q v H1) : tRet te ⟨nx, Q, bk, ct⟩ σ H := h H (Ex.refl H) _ fun x v H1 p e r => k x v H1 p e r
end

/-! ### texts and their signs -/
section
variable {K : PySem.W.Frag} {σ : L2.St} {H : Hp} {ta te to : TE}
def rListZ : List V → Hp → VK → Prop := fun xs H Q => ∃ z, xs = [.str z] ∧ z.length ≤ 100000 ∧ ∀ l, H l = none → Q (.ref l) (upd H l (.lst (z.cps.toList.map fun c => V.str ⟨#[c]⟩)))
theorem call_listZ {X : Cx} (hc : X.calm = true) : CallR X (.type "list") rListZ := by
  intro pins s σ H xs us Q I r h
  obtain ⟨z, rfl, hz, q⟩ := h
  obtain ⟨u, rfl, rx⟩ := vals1 r
  obtain ⟨t, rfl⟩ := rx
  refine PySem.call_list_str (I.ok.hd hc) z t (fun h' tk acc' c' kp e hi => ?_) (sz_of hz)
  refine ⟨.ref s.heap.objs.size, _, I.laid (t' := tk) kp (Nat.le_refl _) (show ObjOk X.prog X.w _ h' _ (.lst (z.cps.toList.map fun c => V.str ⟨#[c]⟩)) from ⟨?_, acc'.toList, c', ?_, e⟩), rfl, q _ (I.hok.fresh (Nat.le_refl _))⟩
  · rw [List.length_map, Array.length_toList]
    exact sz_of hz
  · have go : ∀ (n : Nat) (cs : List Nat) (vs : List Value), cs.length = n → vs.length = n → (∀ (i : Nat) (v : Value), vs[i]? = some v → ∃ c u, cs[i]? = some c ∧ v = Value.str ⟨#[c]⟩ u) → Vals (cs.map fun c => V.str ⟨#[c]⟩) vs := by
      intro n
      induction n with
      | zero =>
        intro cs vs h1 h2 _
        have e1 := List.length_eq_zero_iff.mp h1
        have e2 := List.length_eq_zero_iff.mp h2
        subst e1
        subst e2
        exact .nil
      | succ n ih =>
        intro cs vs h1 h2 hh
        match cs, vs, h1, h2 with
        | c :: cs, v :: vs, h1, h2 =>
          obtain ⟨c', u, hc', hv⟩ := hh 0 v rfl
          cases hc'
          exact .cons ⟨u, hv⟩ (ih cs vs (by simpa using h1) (by simpa using h2) fun i w hw => hh (i + 1) w (by simpa using hw))
    refine go z.cps.size _ _ (by simp) (by rw [Array.length_toList]; exact hi.1) fun i v hv => ?_
    obtain ⟨c, u, h1, h2⟩ := hi.2 i v (by rw [← Array.getElem?_toList]; exact hv)
    exact ⟨c, u, by rw [Array.getElem?_toList]; exact h1, h2⟩
theorem sgs_rels {cs : List Nat} : rels K H (cs.map fun c => V.str ⟨#[c]⟩) (cs.map Sg.mk) := by
  induction cs with
  | nil => exact .nil
  | cons c r ih => exact .cons rfl ih
theorem er_listZ {z : Str} (h : ER K ta σ H z) (hz : z.length ≤ 100000) : ER K (tCB rListZ (tCons ta tNil)) σ H (sgs z) := fun H1 e Q q => h H1 e _ fun v H2 e2 r => ⟨z, by rw [r], hz, fun l hl =>
  have n := Ex.new (o := .lst (z.cps.toList.map fun c => .str ⟨#[c]⟩)) hl
  q _ _ (e2.trans n) ⟨l, _, rfl, upd_same, sgs_rels⟩⟩
theorem en_listZ {P : Str → Prop} (h : EN K ta σ H P) (hz : ∀ z, P z → z.length ≤ 100000) : EN K (tCB rListZ (tCons ta tNil)) σ H (fun xs : List Sg => ∃ z, P z ∧ xs = sgs z) := fun H1 e Q q => h H1 e _ fun z v H2 p e2 r => ⟨z, by rw [r], hz z p, fun l hl =>
  have n := Ex.new (o := .lst (z.cps.toList.map fun c => .str ⟨#[c]⟩)) hl
  q (sgs z) _ _ ⟨z, p, rfl⟩ (e2.trans n) ⟨l, _, rfl, upd_same, sgs_rels⟩⟩
def unsg (xs : List Sg) : Str := ⟨(xs.map Sg.c).toArray⟩
theorem unsg_codes (xs : List Sg) : (unsg xs).cps.toList = xs.map Sg.c := by simp [unsg]
theorem unsg_len (xs : List Sg) : (unsg xs).length = xs.length := by
  show (xs.map Sg.c).toArray.size = _
  simp
theorem sg_strs {vs : List V} {xs : List Sg} (h : rels K H vs xs) : vs = (xs.map fun s => (⟨#[s.c]⟩ : Str)).map V.str := by
  induction h with
  | nil => rfl
  | cons r _ ih =>
    cases r
    rw [ih]
    rfl
theorem sg_sum (xs : List Sg) : ((xs.map fun s => (⟨#[s.c]⟩ : Str)).map (·.length)).sum = xs.length := by
  induction xs with
  | nil => rfl
  | cons s r ih =>
    simp only [List.map_cons, List.sum_cons, List.length_cons]
    rw [ih]
    show 1 + _ = _
    omega
theorem sg_flat (xs : List Sg) : ((xs.map fun s => (⟨#[s.c]⟩ : Str)).map fun z => z.cps.toList).flatten = xs.map Sg.c := by
  induction xs with
  | nil => rfl
  | cons s r ih =>
    simp only [List.map_cons, List.flatten_cons]
    rw [ih]
    rfl
abbrev rJoinQ (K : PySem.W.Frag) : V → List V → Hp → VK → Prop := fun x xs H Q => ∃ a p, ∃ ys : List Str, x = .str a ∧ xs = [.ref p] ∧ (SqL K H p (ys.map V.str) ∨ SqT K H p (ys.map V.str)) ∧ (ys.map (·.length)).sum + ys.length * a.length ≤ 16777216 ∧ Q (.str (Txt.join a ys)) H
theorem tl_joinE (ys : List Str) : (Txt.join (Str.ofString "") ys).cps.toList = (ys.map fun z => z.cps.toList).flatten := by
  have h : ∀ ps : List (List Nat), TL.joinL [] ps = ps.flatten := by
    intro ps
    induction ps with
    | nil => rfl
    | cons p r ih =>
      cases r with
      | nil => simp [TL.joinL]
      | cons q r =>
        show p ++ ([] ++ TL.joinL [] (q :: r)) = p ++ (q :: r).flatten
        rw [ih]
        rfl
  rw [TL.join_eq]
  exact (TL.tl_join _ ys).trans (h _)
/-- ''.join of signs -/
theorem er_joinG {xs : List Sg} (h : ER K te σ H xs) (hl : xs.length ≤ 100000) : ER K (tM1 (rJoinQ K) (tC (.str "")) te) σ H (unsg xs) := fun H1 e Q q => ⟨⟨_, rfl⟩, h H1 e _ fun v H2 e2 ⟨a, vs, hv, hs, hr⟩ => by
  subst hv
  have hvs := sg_strs hr
  subst hvs
  refine ⟨_, a, _, rfl, rfl, .inl (sq_of hs), ?_, q _ H2 e2 ?_⟩
  · rw [sg_sum, List.length_map]
    show xs.length + xs.length * 0 ≤ _
    omega
  · show V.str _ = V.str _
    congr 1
    have h1 := (tl_joinE (xs.map fun s => (⟨#[s.c]⟩ : Str))).trans (sg_flat xs)
    have e3 : ∀ a b : Str, a.cps.toList = b.cps.toList → a = b := by
      intro a b h
      obtain ⟨⟨a⟩⟩ := a
      obtain ⟨⟨b⟩⟩ := b
      have h' : a = b := h
      rw [h']
    exact e3 _ _ (h1.trans (unsg_codes xs).symm)⟩
end

/-! ### promises of defs that draw -/
section
variable {α β γ ε δ : Type} [Rep α] [Rep β] [Rep γ] [Rep ε] [Rep δ]
def spn2 (K : PySem.W.Frag) (pre : α → β → Prop) (post : α → β → δ → Prop) : Sp := fun vs H Q _ => ∃ x y a b, vs = [x, y] ∧ Rep.rel K H x a ∧ Rep.rel K H y b ∧ pre a b ∧ ∀ c v H', post a b c → Ex H H' → Rep.rel K H' v c → Q v H'
def spn3 (K : PySem.W.Frag) (pre : α → β → γ → Prop) (post : α → β → γ → δ → Prop) : Sp := fun vs H Q _ => ∃ x y z a b c, vs = [x, y, z] ∧ Rep.rel K H x a ∧ Rep.rel K H y b ∧ Rep.rel K H z c ∧ pre a b c ∧ ∀ d v H', post a b c d → Ex H H' → Rep.rel K H' v d → Q v H'
variable {K : PySem.W.Frag} {σ : L2.St} {H : Hp} {ta tb tc td : TE} {E : XK} {a : α} {b : β} {c : γ}
theorem en_call2 {pre : α → β → Prop} {post : α → β → δ → Prop} (ha : ER K ta σ H a) (hb : ER K tb σ H b) (hp : pre a b) : EN K (tCall (spn2 K pre post) [] E (tCons ta (tCons tb tNil))) σ H (post a b) := fun H1 e Q q =>
  ha H1 e _ fun v1 H2 e2 r1 => hb H2 (e.trans e2) _ fun v2 H3 e3 r2 => ⟨v1, v2, a, b, rfl, Rep.mono e3 r1, r2, hp, fun c v H' p e' r => q c v H' p ((e2.trans e3).trans e') r⟩
/-- the second argument drawn -/
theorem en_call2n {pre : α → β → Prop} {post : α → β → δ → Prop} {P1 : β → Prop} {P : δ → Prop} (ha : ER K ta σ H a) (hb : EN K tb σ H P1) (hp : ∀ b, P1 b → pre a b) (h : ∀ b c, P1 b → post a b c → P c) : EN K (tCall (spn2 K pre post) [] E (tCons ta (tCons tb tNil))) σ H P := fun H1 e Q q =>
  ha H1 e _ fun v1 H2 e2 r1 => hb H2 (e.trans e2) _ fun b v2 H3 p1 e3 r2 => ⟨v1, v2, a, b, rfl, Rep.mono e3 r1, r2, hp b p1, fun c v H' p e' r => q c v H' (h b c p1 p) ((e2.trans e3).trans e') r⟩
theorem en_call3 {pre : α → β → γ → Prop} {post : α → β → γ → δ → Prop} (ha : ER K ta σ H a) (hb : ER K tb σ H b) (hc : ER K tc σ H c) (hp : pre a b c) : EN K (tCall (spn3 K pre post) [] E (tCons ta (tCons tb (tCons tc tNil)))) σ H (post a b c) := fun H1 e Q q =>
  ha H1 e _ fun v1 H2 e2 r1 => hb H2 (e.trans e2) _ fun v2 H3 e3 r2 => hc H3 ((e.trans e2).trans e3) _ fun v3 H4 e4 r3 =>
    ⟨v1, v2, v3, a, b, c, rfl, Rep.mono (e3.trans e4) r1, Rep.mono e4 r2, r3, hp, fun d v H' p e' r => q d v H' p (((e2.trans e3).trans e4).trans e') r⟩
variable {P : Program} {w : World} {mg : Str → Option Value} {base : Heap} {x qual : Str} {params : Arguments} {body : List Stmt} {scope : Scope} {dvs : List V} {kws : List (Str × V)} {f : Addr} {fd : FuncData} {N ps : List Str} {k : Nat} {CX : CXT}
theorem okn2 {pre : α → β → Prop} {post : α → β → δ → Prop} (F : FunD K x qual params body scope dvs kws f fd) (S : FnScope N ps scope) (hl : ps.length = 2) (σ0 : V → V → L2.St) (h0 : ∀ x y, start N [x, y] = σ0 x y)
    (h : ∀ (H : Hp) (Q : VK) (x y : V) (a : α) (b : β), Rep.rel K H x a → Rep.rel K H y b → pre a b → (∀ c v H', post a b c → Ex H H' → Rep.rel K H' v c → Q v H') → Body CX P w K mg base k f N qual scope body H Q (σ0 x y)) : FnOk P w K mg base CX (k + 1) f fd ps (spn2 K pre post) := by
  refine F.ok S (fun vs H Q E hs => ?_) (fun cdv A outer s H vs Q E hr hs => ?_)
  · obtain ⟨x, y, a, b, rfl, _⟩ := hs
    exact hl.symm
  · obtain ⟨x, y, a, b, rfl, h1, h2, hp, q⟩ := hs
    rw [h0]
    exact h H Q x y a b h1 h2 hp q cdv A outer s E hr
theorem okn3 {pre : α → β → γ → Prop} {post : α → β → γ → δ → Prop} (F : FunD K x qual params body scope dvs kws f fd) (S : FnScope N ps scope) (hl : ps.length = 3) (σ0 : V → V → V → L2.St) (h0 : ∀ x y z, start N [x, y, z] = σ0 x y z)
    (h : ∀ (H : Hp) (Q : VK) (x y z : V) (a : α) (b : β) (c : γ), Rep.rel K H x a → Rep.rel K H y b → Rep.rel K H z c → pre a b c → (∀ d v H', post a b c d → Ex H H' → Rep.rel K H' v d → Q v H') → Body CX P w K mg base k f N qual scope body H Q (σ0 x y z)) : FnOk P w K mg base CX (k + 1) f fd ps (spn3 K pre post) := by
  refine F.ok S (fun vs H Q E hs => ?_) (fun cdv A outer s H vs Q E hr hs => ?_)
  · obtain ⟨x, y, z, a, b, c, rfl, _⟩ := hs
    exact hl.symm
  · obtain ⟨x, y, z, a, b, c, rfl, h1, h2, h3, hp, q⟩ := hs
    rw [h0]
    exact h H Q x y z a b c h1 h2 h3 hp q cdv A outer s E hr
/-! the source's own two defs -/
def spDraw : Sp := fun vs H Q _ => ∃ S x y n, vs = [.ref S, .int n] ∧ H S = some (.lst [.int x, .int y]) ∧ 0 ≤ y ∧ y < 2147483647 ∧ 1 ≤ n ∧ n ≤ 1000000000000000000000000 ∧
  ∀ d x' y' H', 0 ≤ d → d < n → 0 ≤ y' → y' < 2147483647 → (∀ a o, a ≠ S → H a = some o → H' a = some o) → H' S = some (.lst [.int x', .int y']) → Q (.int d) H'
theorem draw_of {P : Program} (F : FnOk P w K mg base CX0 k f fd ps spDraw) (hl : ps.length = 2) : FnOk P w K mg base CX0 k f fd ps (SP_draw K) := by
  refine FnOk.imp (ofSrc (toSrc F) ?_) ?_
  · intro vs H Q E h
    obtain ⟨S, x, y, n, rfl, _⟩ := h
    exact hl.symm
  · rintro vs H Q E ⟨v, n, rfl, ⟨S, rfl, hS⟩, n1, n2, q⟩
    refine ⟨S, hS, fun x y y0 y1 => ⟨S, x, y, n, rfl, upd_same, y0, y1, n1, n2, fun d x' y' H' d0 d1 y0' y1' hH hS' => ⟨S, x', y', y0', y1', hS', q d _ d0 d1 fun a o ha => ?_⟩⟩⟩
    by_cases z : a = S
    · subst z
      rw [upd_same, ← hS, ha]
    · rw [upd_ne z]
      exact hH a o z (by rw [upd_ne z]; exact ha)
def spSource (K : PySem.W.Frag) : Sp := fun vs H Q _ => ∃ (a : Addr) (ns : List Int) (n : Int), vs = [.ref a, .int n] ∧ SqL K H a (ns.map V.int) ∧ 0 ≤ n ∧ n ≤ 1000000 ∧ ∀ p x y H', H p = none → Ex H H' → 0 ≤ y → y < 2147483647 → H' p = some (.lst [.int x, .int y]) → Q (.ref p) H'
def SP_source (K : PySem.W.Frag) : Sp := fun vs H Q _ => ∃ (a : Addr) (ns : List Int) (n : Int), vs = [.ref a, .int n] ∧ SqL K H a (ns.map V.int) ∧ 0 ≤ n ∧ n ≤ 1000000 ∧ ∀ v H', Ex H H' → Rep.rel K H' v Src.mk → Q v H'
theorem source_of {P : Program} (F : FnOk P w K mg base CX0 k f fd ps (spSource K)) : FnOk P w K mg base CX0 k f fd ps (SP_source K) := by
  refine FnOk.imp (toSrc F) ?_
  rintro vs H Q E ⟨a, ns, n, rfl, hs, n0, n1, q⟩
  exact ⟨a, ns, n, rfl, hs, n0, n1, fun p x y H' hp e y0 y1 hp' => ⟨p, x, y, y0, y1, hp', q _ _ (Ex.mut e hp) ⟨p, rfl, upd_same⟩⟩⟩
end

/-! ### walks over drawn data, comprehensions that draw -/
section
variable {α β γ : Type} [Rep α] [Rep β] [Rep γ] {K : PySem.W.Frag} {σ : L2.St} {H H' : Hp} {te tl ta tb : TE}
def WkN (K : PySem.W.Frag) (wi : TI) (σ : L2.St) (H : Hp) (PX : List α → Prop) : Prop := ∀ H1, Ex H H1 → ∀ R : It → Hp → Prop, (∀ xs J H2 G Y, PX xs → Ex H1 H2 → Walk J xs.length G Y → (∀ H3, Ey H2 H3 → G H3) →
  (∀ i Ha v Hb, i < xs.length → Ey H2 Ha → Y i Ha v Hb → Ex Ha Hb ∧ ∃ x, xs[i]? = some x ∧ Rep.rel K Hb v x) → R J H2) → wi σ H1 R
theorem wkn_of {wi : TI} {xs : List α} (h : Wk K wi σ H xs) : WkN K wi σ H (fun ys => ys = xs) := fun H1 e R k => h H1 e R fun J H2 G Y e2 w hG hY => k xs J H2 G Y rfl e2 w hG hY
theorem wkn_rng1 {P1 : Int → Prop} (h : EN K ta σ H P1) (hn : ∀ n, P1 n → -(2 ^ 62) ≤ n ∧ n < 2 ^ 62) : WkN K (iRng1 (tCons ta tNil)) σ H (fun xs : List Int => ∃ n, P1 n ∧ xs = rng 0 n.toNat) := fun H1 e R k => h H1 e _ fun n v H2 p e2 r => by
  cases r
  refine ⟨n, rfl, (hn n p).1, (hn n p).2, k (rng 0 n.toNat) _ H2 _ _ ⟨n, p, rfl⟩ e2 walk_rng (fun _ _ => trivial) fun i Ha v Hb hi ea y => ?_⟩
  obtain ⟨rfl, rfl⟩ := y
  rw [rng_len] at hi
  exact ⟨Ex.refl _, _, rng_get hi, rfl⟩
theorem en_lcY [Imm β] {wi : TI} {PX : List α → Prop} {vs : List Nat} {gt : TG} (P : α → β → Prop) (h : WkN K wi σ H PX) (hz : ∀ xs, PX xs → xs.length ≤ 100000)
    (ht : ∀ xs x v H1, PX xs → x ∈ xs → Ex H H1 → Rep.rel K H1 v x → ∀ Q : L2.St → Hp → Prop, (∀ σ2 H2, Ex H1 H2 → wipe σ2 vs = wipe σ vs → EN K te σ2 H2 (P x) → Q σ2 H2) → gt v (wipe σ vs) H1 Q) :
    EN K (tLc wi gt tYes te vs) σ H (fun ys : List β => ∃ xs, PX xs ∧ Paired P xs ys) := fun H0 e Q q => by
  refine h H0 e _ fun xs J H2 G Y px e2 w hG hY => ?_
  intro Dl hD
  have hx0 : ∀ i x, xs[i]? = some x → xs.take (i + 1) = xs.take i ++ [x] := fun i x hx => by
    rw [List.take_add_one, hx]
    rfl
  have pl : ∀ (as : List α) (bs : List β), Paired P as bs → bs.length = as.length := by
    intro as bs h
    induction h with
    | nil => rfl
    | cons _ _ ih => simp only [List.length_cons, ih]
  refine lc_it w (fun i H' => Ex H2 H' ∧ ∃ ws ys, H' Dl = some (.lst ws) ∧ rels K H' ws ys ∧ Paired P (xs.take i) ys) ⟨Ex.new hD, [], [], upd_same, .nil, by rw [List.take_zero]; exact .nil⟩ (fun i H' _ p => hG H' p.1.y) (fun i v H' H'' hi p y => ?_) (fun H' p => ?_)
  · obtain ⟨p1, ws, ys, p2, p3, p4⟩ := p
    obtain ⟨e3, x, hx, r⟩ := hY i H' v H'' hi p1.y y
    have hm : x ∈ xs := List.mem_of_getElem? hx
    refine ht xs x v H'' px hm ((e.trans e2).trans (p1.trans e3)) r _ fun σ2 H3 e4 hw t1 => ⟨hw, ?_⟩
    show te σ2 H3 _
    have hl : ws.length ≤ i := by
      rw [rels_len p3, pl _ _ p4, List.length_take]
      omega
    have hz2 := hz xs px
    refine t1 H3 (Ex.refl _) _ fun y v5 H5 py e6 ry => ⟨ws, e6 _ _ (e4 _ _ (e3 _ _ p2)), sz_lt (by omega), Ex.mut (((p1.trans e3).trans e4).trans e6) hD, ws ++ [v5], ys ++ [y], upd_same, ?_, ?_⟩
    · exact rels_imm (e6 _ _ (e4 _ _ (e3 _ _ p2))) (rels_snoc (rels_mono ((e3.trans e4).trans e6) p3) ry)
    · rw [hx0 i x hx]
      exact Paired.snoc p4 py
  · obtain ⟨p1, ws, ys, p2, p3, p4⟩ := p
    rw [List.take_length] at p4
    exact q ys (.ref Dl) H' ⟨xs, px, p4⟩ (e2.trans p1) ⟨Dl, ws, rfl, p2, p3⟩
theorem paired_len {P : α → β → Prop} {as : List α} {bs : List β} (h : Paired P as bs) : bs.length = as.length := by
  induction h with
  | nil => rfl
  | cons _ _ ih => simp only [List.length_cons, ih]
theorem paired_all {P : α → β → Prop} {P2 : β → Prop} {as : List α} {bs : List β} (h : Paired P as bs) (hp : ∀ a b, P a b → P2 b) : ∀ b ∈ bs, P2 b := by
  induction h with
  | nil => exact fun _ h => nomatch h
  | cons r _ ih =>
    intro b hb
    rcases List.mem_cons.mp hb with z | z
    · rw [z]
      exact hp _ _ r
    · exact ih b z
/-- ''.join of drawn signs -/
theorem en_joinG {P : List Sg → Prop} (h : EN K te σ H P) (hl : ∀ xs, P xs → xs.length ≤ 100000) : EN K (tM1 (rJoinQ K) (tC (.str "")) te) σ H (fun z => ∃ xs, P xs ∧ z = unsg xs) := fun H1 e Q q => by
  refine ⟨⟨_, rfl⟩, h H1 e _ fun xs v H2 p e2 r => ?_⟩
  have z := er_joinG (K := K) (te := tC v) (σ := σ) (H := H2) (xs := xs) (fun H3 e3 Q' q' => q' v H3 (Ex.refl _) (Rep.mono e3 r)) (hl xs p)
  obtain ⟨_, z2⟩ := z H2 (Ex.refl _) Q fun v' H3 e3 r3 => q (unsg xs) v' H3 ⟨xs, p, rfl⟩ (e2.trans e3) r3
  exact z2
end

/-! ### a field made; tests that draw; ways that meet again -/
section
variable {α β γ : Type} [Rep α] [Rep β] [Rep γ] {K : PySem.W.Frag} {σ σ' : L2.St} {H H' : Hp} {te tl ta tb tc td t4 t5 t6 : TE} {tt tu : TT} {u t1 t2 : TS} {D : Ends} {i : Int}
theorem er_mkF {f : Fld} (h0 : ER K ta σ H f.low) (h1 : ER K tb σ H f.high) (h2 : ER K tc σ H f.step) (h3 : ER K td σ H f.base) (h4 : ER K t4 σ H f.off) (h5 : ER K t5 σ H f.ends) (h6 : ER K t6 σ H f.big) :
    ER K (tTup (tCons ta (tCons tb (tCons tc (tCons td (tCons t4 (tCons t5 (tCons t6 tNil)))))))) σ H f := fun H1 e Q q =>
  h0 H1 e _ fun v0 H2 e2 r0 => h1 H2 (e.trans e2) _ fun v1 H3 e3 r1 => h2 H3 ((e.trans e2).trans e3) _ fun v2 H4 e4 r2 => h3 H4 (((e.trans e2).trans e3).trans e4) _ fun v3 H5 e5 r3 =>
  h4 H5 ((((e.trans e2).trans e3).trans e4).trans e5) _ fun v4 H6 e6 r4 => h5 H6 (((((e.trans e2).trans e3).trans e4).trans e5).trans e6) _ fun v5 H7 e7 r5 => h6 H7 ((((((e.trans e2).trans e3).trans e4).trans e5).trans e6).trans e7) _ fun v6 H8 e8 r6 => by
    cases r0
    cases r1
    cases r2
    cases r3
    cases r4
    cases r5
    cases r6
    refine ⟨sz_of (by show 7 ≤ 100000; decide), fun p hp => q (.ref p) _ ((((((((e2.trans e3).trans e4).trans e5).trans e6).trans e7).trans e8)).trans (Ex.new hp)) ⟨p, rfl, st_of upd_same⟩⟩
theorem en_c : EN K (tC (.int i)) σ H (fun x => x = i) := en_of er_int rfl
theorem en_s {s : Str} : EN K (tC (.str s)) σ H (fun x => x = s) := en_of er_str rfl
theorem en_v {n : Nat} (h : σ[n]? = some (some (.int i))) : EN K (tVar n) σ H (fun x => x = i) := en_of (er_varI h) rfl
theorem er_powc {i j k : Int} (hc : CPow i j) (hk : i ^ j.toNat = k) : ER K (tOp (rI CPow fun i j => .int (i ^ j.toNat)) (tC (.int i)) (tC (.int j))) σ H k := er_is (er_pow er_int er_int hc) hk
def ETN (K : PySem.W.Frag) (tt : TT) (σ : L2.St) (H : Hp) (P : Bool → Prop) : Prop := ∀ H1, Ex H H1 → ∀ Q : Bool → Hp → Prop, (∀ b H2, P b → Ex H1 H2 → Q b H2) → tt σ H1 Q
theorem etn_of {P : Bool → Prop} {b : Bool} (h : ET K tt σ H b) (hp : P b) : ETN K tt σ H P := fun H1 e Q q => h H1 e Q fun H2 e2 => q b H2 hp e2
theorem etn_t {P : Bool → Prop} (h : EN K te σ H P) : ETN K (tTest te) σ H P := fun H1 e Q q => h H1 e _ fun b v H2 p e2 r => ⟨b, r, q b H2 p e2⟩
theorem etn_b {P : Bool → Prop} (h : EN K te σ H P) : ETN K (tB te) σ H P := fun H1 e Q q => h H1 e _ fun b v H2 p e2 r => ⟨b, r, q b H2 p e2⟩
theorem etn_and {P1 P2 P : Bool → Prop} (h1 : ETN K tt σ H P1) (h2 : P1 true → ETN K tu σ H P2) (hf : P1 false → P false) (ht : ∀ b, P1 true → P2 b → P b) : ETN K (tAnd tt tu) σ H P := fun H1 e Q q => h1 H1 e _ fun b H2 p e2 => by
  cases b with
  | true =>
    show tu σ H2 Q
    exact h2 p H2 (e.trans e2) Q fun c H3 p3 e3 => q c H3 (ht c p p3) (e2.trans e3)
  | false => exact q false H2 (hf p) e2
theorem q_ifN (K : PySem.W.Frag) {P : Bool → Prop} (h : ETN K tt σ H P) (h1 : P true → ∀ H1, Ex H H1 → t1 { D with nx := u D } σ H1) (h2 : P false → ∀ H1, Ex H H1 → t2 { D with nx := u D } σ H1) : tSeq (tIfS tt t1 t2) u D σ H := h H (Ex.refl H) _ fun b H1 p e => by
  cases b with
  | true =>
    show t1 { D with nx := u D } σ H1
    exact h1 p H1 e
  | false =>
    show t2 { D with nx := u D } σ H1
    exact h2 p H1 e
theorem q_ifJ (K : PySem.W.Frag) {P : Bool → Prop} (W : L2.St → Hp → Prop) (hW : ∀ σ' H', W σ' H' → u D σ' H') (h : ETN K tt σ H P) (h1 : ∀ D2 : Ends, (∀ σ' H', W σ' H' → D2.nx σ' H') → P true → ∀ H1, Ex H H1 → t1 D2 σ H1)
    (h2 : ∀ D2 : Ends, (∀ σ' H', W σ' H' → D2.nx σ' H') → P false → ∀ H1, Ex H H1 → t2 D2 σ H1) : tSeq (tIfS tt t1 t2) u D σ H := q_ifN K h (h1 _ hW) (h2 _ hW)
theorem l_ifN (K : PySem.W.Frag) {P : Bool → Prop} (h : ETN K tt σ H P) (h1 : P true → ∀ H1, Ex H H1 → t1 D σ H1) (h2 : P false → ∀ H1, Ex H H1 → t2 D σ H1) : tIfS tt t1 t2 D σ H := h H (Ex.refl H) _ fun b H1 p e => by
  cases b with
  | true =>
    show t1 D σ H1
    exact h1 p H1 e
  | false =>
    show t2 D σ H1
    exact h2 p H1 e
end

section
variable {α β γ : Type} [Rep α] [Rep β] [Rep γ] {K : PySem.W.Frag} {σ σ' : L2.St} {H H' : Hp} {te tl ta tb tc td t4 t5 t6 : TE} {tt tu : TT} {u t1 t2 : TS} {D : Ends} {i : Int} {a b : Bool}
theorem er_BB {r : R2} {z : β} (ha : ER K ta σ H a) (hb : ER K tb σ H b) (hr : ∀ H1 (Q : VK), (∀ v, Rep.rel K H1 v z → Q v H1) → r (.bl a) (.bl b) H1 Q) : ER K (tOp r ta tb) σ H z := fun H1 e Q q =>
  ha H1 e _ fun v1 H2 e2 r1 => hb H2 (e.trans e2) _ fun v2 H3 e3 r2 => by
    cases r1
    cases r2
    exact hr H3 Q fun v rv => q v H3 (e2.trans e3) rv
theorem er_eqB (ha : ER K ta σ H a) (hb : ER K tb σ H b) : ER K (tOp rEq ta tb) σ H (decide (a = b)) := er_BB ha hb fun H1 Q q => ⟨rfl, q _ (by
  show V.bl (decide (V.bl a = V.bl b)) = V.bl (decide (a = b))
  simp only [V.bl.injEq])⟩
theorem er_neB (ha : ER K ta σ H a) (hb : ER K tb σ H b) : ER K (tOp rNe ta tb) σ H (!decide (a = b)) := er_BB ha hb fun H1 Q q => ⟨rfl, q _ (by
  show V.bl (!decide (V.bl a = V.bl b)) = V.bl (!decide (a = b))
  simp only [V.bl.injEq])⟩
theorem q_unpF {n : Nat} {g : TGs} {f : Fld} (hn : n = 7) (h : ER K te σ H f) (k : ∀ H1, Ex H H1 → g f.vs σ H1 fun σ' H' => u D σ' H') : tSeq (tAsg te (gTup K n g)) u D σ H := h H (Ex.refl H) _ fun v H1 e ⟨a, hv, hs⟩ => ⟨a, f.vs, hv, hs, hn.symm, k H1 e⟩
/-- a test that is known -/
theorem q_no (K : PySem.W.Frag) (h : ET K tt σ H false) (k : ∀ H1, Ex H H1 → u D σ H1) : tSeq (tIfS tt t1 tNext) u D σ H := q_if0 K h (fun z => nomatch z) (fun _ => k)
theorem l_no (K : PySem.W.Frag) (h : ET K tt σ H false) (k : ∀ H1, Ex H H1 → D.nx σ H1) : tIfS tt t1 tNext D σ H := l_if0 K h (fun z => nomatch z) (fun _ => k)
theorem et_is {b : Bool} (h : ET K tt σ H a) (e : a = b) : ET K tt σ H b := e ▸ h
theorem sg_eq {c d : Nat} : ((⟨#[c]⟩ : Str) = ⟨#[d]⟩) ↔ c = d := by
  constructor
  · intro h
    have h1 : #[c] = #[d] := congrArg Str.cps h
    have h2 : [c] = [d] := congrArg Array.toList h1
    exact (List.cons.inj h2).1
  · intro h
    rw [h]
theorem er_notInS {c : Sg} {z : Str} (ha : ER K ta σ H c) (hb : ER K tb σ H z) : ER K (tOp rNotInS ta tb) σ H (!decide (c.c ∈ z.cps.toList)) := fun H1 e Q q =>
  ha H1 e _ fun v1 H2 e2 r1 => hb H2 (e.trans e2) _ fun v2 H3 e3 r2 => by
    cases r1
    cases r2
    exact ⟨c.c, z, rfl, rfl, q _ H3 (e2.trans e3) rfl⟩
/-- an int in a list of ints -/
theorem in_ints {i : Int} {xs : List Int} : inV (.int i) (xs.map V.int) = decide (i ∈ xs) := by
  unfold inV
  induction xs with
  | nil => rfl
  | cons x r ih =>
    rw [List.map_cons, List.any_cons, ih]
    show (x == i || _) = _
    rw [Bool.eq_iff_iff]
    simp only [Bool.or_eq_true, beq_iff_eq, decide_eq_true_eq, List.mem_cons]
    constructor
    · rintro (h | h)
      · exact .inl h.symm
      · exact .inr h
    · rintro (h | h)
      · exact .inl h.symm
      · exact .inr h
theorem flat_ints {xs : List Int} : (xs.map V.int).all flatV = true := by
  rw [List.all_map]
  exact List.all_eq_true.mpr fun _ _ => rfl
theorem er_inL {xs : List Int} (ha : ER K ta σ H i) (hb : ER K tb σ H xs) : ER K (tOp (rIn K false) ta tb) σ H (decide (i ∈ xs)) := fun H1 e Q q =>
  ha H1 e _ fun v H2 e2 r => hb H2 (e.trans e2) _ fun w H3 e3 ⟨p, vs, hw, hs, hr⟩ => by
    cases r
    have h1 := rels_ints hr
    subst h1
    exact ⟨p, _, hw, .inl (sq_of hs), rfl, flat_ints, q _ H3 (e2.trans e3) (by rw [if_neg Bool.false_ne_true, in_ints]; rfl)⟩
theorem er_ninL {xs : List Int} (ha : ER K ta σ H i) (hb : ER K tb σ H xs) : ER K (tOp (rIn K true) ta tb) σ H (!decide (i ∈ xs)) := fun H1 e Q q =>
  ha H1 e _ fun v H2 e2 r => hb H2 (e.trans e2) _ fun w H3 e3 ⟨p, vs, hw, hs, hr⟩ => by
    cases r
    have h1 := rels_ints hr
    subst h1
    exact ⟨p, _, hw, .inl (sq_of hs), rfl, flat_ints, q _ H3 (e2.trans e3) (by rw [if_pos rfl, in_ints]; rfl)⟩
end

/-! ### a law's own promise -/
def SP_lawdef (K : PySem.W.Frag) : Sp := fun vs H Q _ => ∃ (a : Addr) (ns : List Int), vs = [.ref a] ∧ SqF K H a (ns.map V.int) ∧ ns.length ≤ 63 ∧ ∀ H', Q (.bl true) H'
section
variable {K : PySem.W.Frag} {σ : L2.St} {H : Hp} {tb : TE} {E : XK}
theorem er_source {a : Addr} {ns : List Int} {n : Int} {i : Nat} (h : σ[i]? = some (some (.ref a))) (hs : SqF K H a (ns.map V.int)) (hb : ER K tb σ H n) (h0 : 0 ≤ n) (h1 : n ≤ 1000000) : ER K (tCall (SP_source K) [] E (tCons (tVar i) (tCons tb tNil))) σ H Src.mk := fun H1 e Q q =>
  ⟨.ref a, h, hb H1 e _ fun v H2 e2 r => by
    cases r
    exact ⟨a, ns, n, rfl, ex_l (e.trans e2) hs.l, h0, h1, fun v H' e3 r => q v H' (e2.trans e3) r⟩⟩
theorem er_lenScript {a : Addr} {ns : List Int} {i : Nat} (h : σ[i]? = some (some (.ref a))) (hs : SqF K H a (ns.map V.int)) : ER K (tCB (rLenQ K) (tCons (tVar i) tNil)) σ H (ns.length : Int) := fun H2 e2 Q q => ⟨.ref a, h, a, ns.map V.int, rfl, .inl (ex_l e2 hs.l), by
  rw [List.length_map]
  exact q _ H2 (Ex.refl _) rfl⟩
end

/-! ### tuples put together -/
section
variable {α β γ : Type} [Rep α] [Rep β] [Rep γ] {K : PySem.W.Frag} {σ σ' : L2.St} {H H' : Hp} {te tl ta tb tc td t4 t5 t6 : TE} {tA : TA} {u t1 t2 : TS} {D : Ends} {i : Int}
def EV (K : PySem.W.Frag) (te : TE) (σ : L2.St) (H : Hp) (vs : List V) : Prop := ∀ H1, Ex H H1 → ∀ Q : VK, (∀ p H2, Ex H1 H2 → SqT K H2 p vs → Q (.ref p) H2) → te σ H1 Q
/-- items that are told by themselves (ints, texts, bools) -/
def EVs (tA : TA) (σ : L2.St) (H : Hp) (vs : List V) : Prop := EvA tA σ H vs
theorem ev_fld {f : Fld} (h : ER K te σ H f) : EV K te σ H f.vs := fun H1 e Q q => h H1 e Q fun v H2 e2 ⟨a, hv, hs⟩ => by
  subst hv
  exact q a H2 e2 hs
theorem ev_slF {vs ys : List V} {tl th : TO} (lo hi : Option Int) (h : EV K te σ H vs) (hl : ∀ (Q : Option Int → Hp → Prop) H1, Q lo H1 → tl σ H1 Q) (hh : ∀ (Q : Option Int → Hp → Prop) H1, Q hi H1 → th σ H1 Q)
    (hn : ¬ (HT.sIx vs.length 0 lo = 0 ∧ HT.sIx vs.length vs.length hi = vs.length)) (hy : cutV vs lo hi = ys) : EV K (tSl (rSlT K) te tl th) σ H ys := fun H1 e Q q =>
  h H1 e _ fun a H2 e2 hs => hl _ _ (hh _ _ ⟨a, vs, rfl, hs, hn, fun p hp => q p _ (e2.trans (Ex.new hp)) (by rw [← hy]; exact st_of upd_same)⟩)
theorem ev_cat {vs ws : List V} (h : EV K ta σ H vs) (h2 : EV K tb σ H ws) (hn : vs ≠ []) (hw : ws ≠ []) (hl : vs.length + ws.length ≤ 100000) : EV K (tOp (rCatT K) ta tb) σ H (vs ++ ws) := fun H1 e Q q =>
  h H1 e _ fun a H2 e2 hs => h2 H2 (e.trans e2) _ fun b H3 e3 hs2 => by
    refine ⟨a, b, vs, ws, rfl, rfl, ex_t e3 hs, hs2, hn, sz_of hl, ?_⟩
    first
      | exact ⟨fun z => absurd z hw, fun _ p hp => q p _ ((e2.trans e3).trans (Ex.new hp)) (st_of upd_same)⟩
      | exact ⟨fun z => absurd z hw, fun p hp => q p _ ((e2.trans e3).trans (Ex.new hp)) (st_of upd_same)⟩
theorem evs_nil : EVs tNil σ H [] := fun H1 _ _ q => q H1 (Ex.refl _)
theorem evs_I {vs : List V} (h : ER K te σ H i) (hr : EVs tA σ H vs) : EVs (tCons te tA) σ H (.int i :: vs) := fun H1 e Q q => h H1 e _ fun v H2 e2 r => by
  cases r
  exact hr H2 (e.trans e2) _ fun H3 e3 => q H3 (e2.trans e3)
theorem evs_S {vs : List V} {s : Str} (h : ER K te σ H s) (hr : EVs tA σ H vs) : EVs (tCons te tA) σ H (.str s :: vs) := fun H1 e Q q => h H1 e _ fun v H2 e2 r => by
  cases r
  exact hr H2 (e.trans e2) _ fun H3 e3 => q H3 (e2.trans e3)
theorem ev_tup {vs : List V} (h : EVs tA σ H vs) (hl : vs.length ≤ 100000) : EV K (tTup tA) σ H vs := fun H1 e Q q => h H1 e _ fun H2 e2 => ⟨sz_of hl, fun p hp => q p _ (e2.trans (Ex.new hp)) (st_of upd_same)⟩
theorem er_ofV {vs : List V} {f : Fld} (h : EV K te σ H vs) (hv : vs = f.vs) : ER K te σ H f := fun H1 e Q q => h H1 e Q fun p H2 e2 hs => q (.ref p) H2 e2 ⟨p, rfl, by rw [← hv]; exact hs⟩
end
end Sf

namespace Sf
open PySem PySem.Spec PyProof.Rows L2 Evl
/-! ### the head: what the top leaves, told by names, tuples of texts too -/
def tabsB (ts : List (Str × List Str)) (K : PySem.W.Frag) : Bool := ts.all fun p => He.tupB K p.1 (p.2.map He.Dv.str)
def obsS (n : Nat) (fa : List He.Fa) (fn : List He.DefD) (ts : List (Str × List Str)) (g : Addr → Option Obj) : He.AlD × Bool := (He.obsDG n fa fn g, tabsB ts (He.frG g (He.asD g n)))
def hookS (n : Nat) (fa : List He.Fa) (fn : List He.DefD) (ts : List (Str × List Str)) : PySem.W.Hook where
  α := He.AlD × Bool
  obs := fun s => obsS n fa fn ts s.heap.get?
  val := fun _ => (He.valD fn, true)
  says := fun _ h => ∃ K : PySem.W.Frag, K.In h ∧ He.SaysD fa fn K ∧ tabsB ts K = true
  of := fun _ _ e => ⟨_, He.frG_in, congrArg (fun z : He.AlD × Bool => z.1) e, congrArg (fun z : He.AlD × Bool => z.2) e⟩
  keeps := fun _ _ _ ⟨K, hK, c⟩ k => ⟨K, PySem.W.Frag.In.keeps hK k, c⟩
theorem obsS_eq {n : Nat} {fa : List He.Fa} {fn : List He.DefD} {ts : List (Str × List Str)} {g : Addr → Option Obj} {s : Shared} (h : ∀ a, g a = s.heap.get? a) : obsS n fa fn ts g = (hookS n fa fn ts).obs s := by
  have e : g = s.heap.get? := funext h
  rw [e] <;> rfl
theorem tab_of {ts : List (Str × List Str)} {K : PySem.W.Frag} (h : tabsB ts K = true) (i : Nat) {p : Str × List Str} (hp : ts[i]? = some p) (H : Hp) : SqT K H (He.ga K p.1) (p.2.map V.str) := by
  have h1 := List.all_eq_true.mp h p (List.mem_of_getElem? hp)
  have h2 := He.tupB_ok h1 H
  rw [List.map_map] at h2
  exact h2
end Sf

namespace Sf
open PySem PySem.Spec PyProof.Rows L2 Evl

def topS (i : Nat) : Stmt := PySem.Challenge.pw_stepfields_k18_whole_orders_on_wide_fiel.main.body.getD i (.Pass ⟨0, 0, 0, 0⟩)
abbrev FnP (K : PySem.W.Frag) (x : Str) (st : Stmt) (f : Addr) (fd : FuncData) : Prop := FunD K x x (defArgs st) (defBody st) (defScope st) [] [] f fd
abbrev s_L_source : Stmt := topS 39
abbrev s_grid_of : Stmt := topS 13
abbrev s_is_word : Stmt := topS 12
abbrev s_is_between : Stmt := topS 11
abbrev s_is_field : Stmt := topS 14
abbrev s_need_field : Stmt := topS 17
abbrev s_need_tie : Stmt := topS 25
abbrev s_is_row : Stmt := topS 15
abbrev s_is_key : Stmt := topS 16
abbrev s_need_press : Stmt := topS 26
abbrev s_need_presses : Stmt := topS 35
abbrev s_is_on : Stmt := topS 21
abbrev s_rests_here : Stmt := topS 31
abbrev s_block : Stmt := topS 32
abbrev s_pairs_of : Stmt := topS 33
abbrev s_settled : Stmt := topS 27
abbrev s_aim_of : Stmt := topS 19
abbrev s_many_steps : Stmt := topS 18
abbrev s_press_key : Stmt := topS 20
abbrev s_press_tied : Stmt := topS 28
abbrev s_order_of : Stmt := topS 34
abbrev s_order_pair : Stmt := topS 37
abbrev s_order_matters : Stmt := topS 36
abbrev s_L_draw : Stmt := topS 40
abbrev s_L_choice : Stmt := topS 41
abbrev s_L_field : Stmt := topS 42
abbrev s_L_value : Stmt := topS 43
abbrev s_L_nearest : Stmt := topS 44
abbrev s_L_key : Stmt := topS 45
abbrev s_L_settled : Stmt := topS 46
abbrev s_L_moved : Stmt := topS 47
abbrev s_law : Stmt := topS 48
def D_L_source : He.DefD := ⟨("_law_source", none), "_law_source", "_law_source", defArgs s_L_source, defBody s_L_source, defScope s_L_source, [], []⟩
def D_grid_of : He.DefD := ⟨("grid_of", none), "grid_of", "grid_of", defArgs s_grid_of, defBody s_grid_of, defScope s_grid_of, [], []⟩
def D_is_word : He.DefD := ⟨("is_word", none), "is_word", "is_word", defArgs s_is_word, defBody s_is_word, defScope s_is_word, [], []⟩
def D_is_between : He.DefD := ⟨("is_between", none), "is_between", "is_between", defArgs s_is_between, defBody s_is_between, defScope s_is_between, [], []⟩
def D_is_field : He.DefD := ⟨("is_field", none), "is_field", "is_field", defArgs s_is_field, defBody s_is_field, defScope s_is_field, [], []⟩
def D_need_field : He.DefD := ⟨("need_field", none), "need_field", "need_field", defArgs s_need_field, defBody s_need_field, defScope s_need_field, [], []⟩
def D_need_tie : He.DefD := ⟨("need_tie", none), "need_tie", "need_tie", defArgs s_need_tie, defBody s_need_tie, defScope s_need_tie, [], []⟩
def D_is_row : He.DefD := ⟨("is_row", none), "is_row", "is_row", defArgs s_is_row, defBody s_is_row, defScope s_is_row, [], []⟩
def D_is_key : He.DefD := ⟨("is_key", none), "is_key", "is_key", defArgs s_is_key, defBody s_is_key, defScope s_is_key, [], []⟩
def D_need_press : He.DefD := ⟨("need_press", none), "need_press", "need_press", defArgs s_need_press, defBody s_need_press, defScope s_need_press, [], []⟩
def D_need_presses : He.DefD := ⟨("need_presses", none), "need_presses", "need_presses", defArgs s_need_presses, defBody s_need_presses, defScope s_need_presses, [], []⟩
def D_is_on : He.DefD := ⟨("is_on", none), "is_on", "is_on", defArgs s_is_on, defBody s_is_on, defScope s_is_on, [], []⟩
def D_rests_here : He.DefD := ⟨("rests_here", none), "rests_here", "rests_here", defArgs s_rests_here, defBody s_rests_here, defScope s_rests_here, [], []⟩
def D_block : He.DefD := ⟨("block", none), "block", "block", defArgs s_block, defBody s_block, defScope s_block, [], []⟩
def D_pairs_of : He.DefD := ⟨("pairs_of", none), "pairs_of", "pairs_of", defArgs s_pairs_of, defBody s_pairs_of, defScope s_pairs_of, [], []⟩
def D_settled : He.DefD := ⟨("settled", none), "settled", "settled", defArgs s_settled, defBody s_settled, defScope s_settled, [], []⟩
def D_aim_of : He.DefD := ⟨("aim_of", none), "aim_of", "aim_of", defArgs s_aim_of, defBody s_aim_of, defScope s_aim_of, [], []⟩
def D_many_steps : He.DefD := ⟨("many_steps", none), "many_steps", "many_steps", defArgs s_many_steps, defBody s_many_steps, defScope s_many_steps, [], []⟩
def D_press_key : He.DefD := ⟨("press_key", none), "press_key", "press_key", defArgs s_press_key, defBody s_press_key, defScope s_press_key, [], []⟩
def D_press_tied : He.DefD := ⟨("press_tied", none), "press_tied", "press_tied", defArgs s_press_tied, defBody s_press_tied, defScope s_press_tied, [], []⟩
def D_order_of : He.DefD := ⟨("order_of", none), "order_of", "order_of", defArgs s_order_of, defBody s_order_of, defScope s_order_of, [], []⟩
def D_order_pair : He.DefD := ⟨("order_pair", none), "order_pair", "order_pair", defArgs s_order_pair, defBody s_order_pair, defScope s_order_pair, [], []⟩
def D_order_matters : He.DefD := ⟨("order_matters", none), "order_matters", "order_matters", defArgs s_order_matters, defBody s_order_matters, defScope s_order_matters, [], []⟩
def D_L_draw : He.DefD := ⟨("_law_draw", none), "_law_draw", "_law_draw", defArgs s_L_draw, defBody s_L_draw, defScope s_L_draw, [], []⟩
def D_L_choice : He.DefD := ⟨("_law_choice", none), "_law_choice", "_law_choice", defArgs s_L_choice, defBody s_L_choice, defScope s_L_choice, [], []⟩
def D_L_field : He.DefD := ⟨("_law_field", none), "_law_field", "_law_field", defArgs s_L_field, defBody s_L_field, defScope s_L_field, [], []⟩
def D_L_value : He.DefD := ⟨("_law_value", none), "_law_value", "_law_value", defArgs s_L_value, defBody s_L_value, defScope s_L_value, [], []⟩
def D_L_nearest : He.DefD := ⟨("_law_nearest", none), "_law_nearest", "_law_nearest", defArgs s_L_nearest, defBody s_L_nearest, defScope s_L_nearest, [], []⟩
def D_L_key : He.DefD := ⟨("_law_key", none), "_law_key", "_law_key", defArgs s_L_key, defBody s_L_key, defScope s_L_key, [], []⟩
def D_L_settled : He.DefD := ⟨("_law_settled", none), "_law_settled", "_law_settled", defArgs s_L_settled, defBody s_L_settled, defScope s_L_settled, [], []⟩
def D_L_moved : He.DefD := ⟨("_law_moved", none), "_law_moved", "_law_moved", defArgs s_L_moved, defBody s_L_moved, defScope s_L_moved, [], []⟩
def D_law : He.DefD := ⟨("law", none), "law", "law", defArgs s_law, defBody s_law, defScope s_law, [], []⟩
def hfn : List He.DefD := ([D_L_source, D_grid_of, D_is_word, D_is_between, D_is_field, D_need_field, D_need_tie, D_is_row, D_is_key, D_need_press, D_need_presses, D_is_on, D_rests_here, D_block, D_pairs_of, D_settled, D_aim_of, D_many_steps, D_press_key, D_press_tied] : List He.DefD) ++ ([D_order_of, D_order_pair, D_order_matters, D_L_draw, D_L_choice, D_L_field, D_L_value, D_L_nearest, D_L_key, D_L_settled, D_L_moved, D_law] : List He.DefD)
def hfa : List He.Fa := ([.glo "_law_source", .glo "grid_of", .glo "is_word", .glo "is_between", .glo "is_field", .glo "need_field", .glo "need_tie", .glo "is_row", .glo "is_key", .glo "need_press", .glo "need_presses", .glo "is_on", .glo "rests_here", .glo "block", .glo "pairs_of", .glo "settled", .glo "aim_of", .glo "many_steps", .glo "press_key", .glo "press_tied"] : List He.Fa) ++ ([.glo "order_of", .glo "order_pair", .glo "order_matters", .glo "_law_draw", .glo "_law_choice", .glo "_law_field", .glo "_law_value", .glo "_law_nearest", .glo "_law_key", .glo "_law_settled", .glo "_law_moved", .glo "law", .free "len", .free "abs", .free "all", .free "any", .free "range", .free "int", .free "str", .free "tuple"] : List He.Fa) ++ ([.free "bool", .free "isinstance", .free "min", .free "max", .free "list", .free "sum", .free "sorted", .free "set", .free "zip", .free "enumerate", .free "dict", .int "MOST" 1000000000000, .int "MOST_KEYS" 40, .str "KEYS" "udUDhe", .glo "OFFS", .glo "ENDS", .glo "SIDES", .glo "TIES", .int "FEW" 24] : List He.Fa)
def hts : List (Str × List Str) := [("OFFS", ["add", "near", "next"]), ("ENDS", ["round", "stay", "stop"]), ("SIDES", ["left", "right"]), ("TIES", ["push", "refuse", "stop"])]
def hloose : List Str := (["StepError", "InvalidField", "InvalidPress", "InvalidTie", "MOST", "MOST_KEYS", "KEYS", "OFFS", "ENDS", "is_between", "is_word", "grid_of", "is_field", "is_row", "is_key", "need_field", "many_steps", "aim_of", "press_key", "is_on"] : List Str) ++ (["SIDES", "TIES", "need_tie", "need_press", "settled", "press_tied", "FEW", "rests_here", "block", "pairs_of", "order_of", "need_presses", "order_matters", "order_pair", "_law_source", "_law_draw", "_law_choice", "_law_field", "_law_value", "_law_nearest"] : List Str) ++ (["_law_key", "_law_settled", "_law_moved"] : List Str)
abbrev hR : PySem.W.OpenRow := PySem.W.OpenLaw.row PySem.Challenge.rw_stepfields_k18_whole_orders_on_wide_fiel
abbrev hk : PySem.W.Hook := hookS 5 hfa hfn hts
def hob (s : PySem.W.SharedT) : He.AlD × Bool := obsS 5 hfa hfn hts (HandSHeadRun.getT s)
theorem hob_eq (s : PySem.W.SharedT) : hob s = hk.obs s.abs := obsS_eq (HandSHeadRun.getT_eq s)
theorem hrun (w : World) : HandSHeadRun.RunEq hR (PySem.W.view hR.prog [48]) hk hob 9000 hloose w := by
  intro os
  kernel_rfl
end Sf
namespace Sf
open PySem PySem.Spec PyProof.Rows L2 Evl
/-! ### the program's functions as plain functions -/
structure FOk (f : Fld) : Prop where
  l0 : -1000000000000 ≤ f.low
  lh : f.low < f.high
  h1 : f.high ≤ 1000000000000
  s0 : 1 ≤ f.step
  s1 : f.step ≤ 1000000000000
  b0 : -1000000000000 ≤ f.base
  b1 : f.base ≤ 1000000000000
  off : f.off = "add" ∨ f.off = "near" ∨ f.off = "next"
  ends : f.ends = "round" ∨ f.ends = "stay" ∨ f.ends = "stop"
  g0 : 2 ≤ f.big
  g1 : f.big ≤ 12
  on : f.base - (f.base - f.low) / f.step * f.step ≤ f.base + (f.high - f.base) / f.step * f.step
def isBetween : PyData → Int → Int → Bool
  | .int i, lo, hi => decide (lo ≤ i) && decide (i ≤ hi)
  | _, _, _ => false
def isWord : PyData → Tpl Str → Bool
  | .str s, ws => decide (s ∈ ws.l)
  | _, _ => false
def LOK (low high step bas : Int) : Prop := -1000000000000 ≤ low ∧ low < high ∧ high ≤ 1000000000000 ∧ 1 ≤ step ∧ step ≤ 1000000000000 ∧ -1000000000000 ≤ bas ∧ bas ≤ 1000000000000
instance (a b c d : Int) : Decidable (LOK a b c d) := by unfold LOK; infer_instance
/-- the four ints of a field are in their bounds -/
def FL (f : Fld) : Prop := LOK f.low f.high f.step f.base
def fokB (f : Fld) : Bool := decide (LOK f.low f.high f.step f.base) && decide (f.off ∈ (["add", "near", "next"] : List Str)) && decide (f.ends ∈ (["round", "stay", "stop"] : List Str)) && decide (2 ≤ f.big ∧ f.big ≤ 12) && decide (f.base - (f.base - f.low) / f.step * f.step ≤ f.base + (f.high - f.base) / f.step * f.step)
def gridOf (f : Fld) : Int × Int := (f.base - (f.base - f.low) / f.step * f.step, f.base + (f.high - f.base) / f.step * f.step)
def aimOf (f : Fld) (v m : Int) : Int :=
  if f.off = "add" then v + m * f.step
  else if f.off = "near" then f.base + ((2 * (v - f.base) + f.step) / (2 * f.step) + m) * f.step
  else if 0 < m then f.base + ((v - f.base) / f.step + m) * f.step
  else f.base + (-((f.base - v) / f.step) + m) * f.step
/-- a key, by its sign: u 117, d 100, U 85, D 68, h 104, e 101 -/
def isKey (c : Nat) : Prop := c = 117 ∨ c = 100 ∨ c = 85 ∨ c = 68 ∨ c = 104 ∨ c = 101
instance (c : Nat) : Decidable (isKey c) := by unfold isKey; infer_instance
def isMove (c : Nat) : Prop := c = 117 ∨ c = 100 ∨ c = 85 ∨ c = 68
instance (c : Nat) : Decidable (isMove c) := by unfold isMove; infer_instance
def manySteps (f : Fld) (c : Nat) : Int := if c = 117 then 1 else if c = 100 then -1 else if c = 85 then f.big else -f.big
def pressKey (f : Fld) (v : Int) (c : Nat) : Int :=
  if c = 104 then f.low else if c = 101 then f.high else
  let aim := aimOf f v (manySteps f c)
  if f.low ≤ aim ∧ aim ≤ f.high then aim
  else if f.ends = "stay" then v
  else if f.ends = "round" then (if aim > f.high then f.low else f.high)
  else (if aim > f.high then f.high else f.low)
def pressRow (f : Fld) (v : Int) (r : List Nat) : Int := r.foldl (pressKey f) v

def isField : PyData → Bool
  | .tuple [.int l, .int h, .int s, .int b, .str o, .str e, .int g] => fokB ⟨l, h, s, b, o, e, g⟩
  | _ => false
theorem len7 {α : Type} {ds : List α} (h : ds.length = 7) : ∃ d0 d1 d2 d3 d4 d5 d6, ds = [d0, d1, d2, d3, d4, d5, d6] := by
  match ds, h with
  | [d0, d1, d2, d3, d4, d5, d6], _ => exact ⟨_, _, _, _, _, _, _, rfl⟩
theorem isField_len {ds : List PyData} (h : ds.length ≠ 7) : isField (.tuple ds) = false := by
  unfold isField
  split
  · next e =>
    cases e
    exact absurd rfl h
  · rfl
theorem isBetween_int {d : PyData} {lo hi : Int} (h : isBetween d lo hi = true) : ∃ i, d = .int i ∧ lo ≤ i ∧ i ≤ hi := by
  cases d with
  | int i =>
    simp only [isBetween, Bool.and_eq_true, decide_eq_true_eq] at h
    exact ⟨i, rfl, h.1, h.2⟩
  | _ => cases h
theorem isWord_str {d : PyData} {ws : Tpl Str} (h : isWord d ws = true) : ∃ s, d = .str s ∧ s ∈ ws.l := by
  cases d with
  | str s =>
    simp only [isWord, decide_eq_true_eq] at h
    exact ⟨s, rfl, h⟩
  | _ => cases h
theorem isField_ints {d0 d1 d2 d3 d4 d5 d6 : PyData} (h : ¬ (isBetween d0 (-1000000000000) 1000000000000 = true ∧ isBetween d1 (-1000000000000) 1000000000000 = true ∧ isBetween d2 (-1000000000000) 1000000000000 = true ∧ isBetween d3 (-1000000000000) 1000000000000 = true)) :
    isField (.tuple [d0, d1, d2, d3, d4, d5, d6]) = false := by
  unfold isField
  split
  · next e =>
    cases e
    rw [← Bool.not_eq_true]
    intro z
    apply h
    unfold fokB at z
    simp only [Bool.and_eq_true, decide_eq_true_eq] at z
    obtain ⟨z1, z2, z3, z4, z5, z6, z7⟩ := z.1.1.1.1
    simp only [isBetween, Bool.and_eq_true, decide_eq_true_eq]
    omega
  · rfl
theorem isField_no {l h s b : Int} {d4 d5 d6 : PyData} (z : h ≤ l ∨ s < 1) : isField (.tuple [.int l, .int h, .int s, .int b, d4, d5, d6]) = false := by
  unfold isField
  split
  · next e =>
    cases e
    rw [← Bool.not_eq_true]
    intro y
    unfold fokB at y
    simp only [Bool.and_eq_true, decide_eq_true_eq] at y
    obtain ⟨z1, z2, z3, z4, z5, z6, z7⟩ := y.1.1.1.1
    omega
  · rfl
theorem isField_words {l h s b : Int} {d4 d5 d6 : PyData} (z : isWord d4 (Tpl.mk ["add", "near", "next"]) = false ∨ isWord d5 (Tpl.mk ["round", "stay", "stop"]) = false ∨ isBetween d6 2 12 = false) : isField (.tuple [.int l, .int h, .int s, .int b, d4, d5, d6]) = false := by
  unfold isField
  split
  · next e =>
    cases e
    rw [← Bool.not_eq_true]
    intro y
    unfold fokB at y
    simp only [Bool.and_eq_true, decide_eq_true_eq] at y
    rcases z with z | z | z
    · simp only [isWord, decide_eq_false_iff_not] at z
      exact z y.1.1.1.2
    · simp only [isWord, decide_eq_false_iff_not] at z
      exact z y.1.1.2
    · simp only [isBetween, ← Bool.not_eq_true, Bool.and_eq_true, decide_eq_true_eq] at z
      exact z y.1.2
  · rfl
theorem isField_yes {l h s b g : Int} {o e : Str} (l0 : -1000000000000 ≤ l) (lh : l < h) (h1 : h ≤ 1000000000000) (s0 : 1 ≤ s) (s1 : s ≤ 1000000000000) (b0 : -1000000000000 ≤ b) (b1 : b ≤ 1000000000000)
    (ho : o ∈ (["add", "near", "next"] : List Str)) (he : e ∈ (["round", "stay", "stop"] : List Str)) (g0 : 2 ≤ g) (g1 : g ≤ 12) :
    isField (.tuple [.int l, .int h, .int s, .int b, .str o, .str e, .int g]) = decide ((gridOf ⟨l, h, s, b, o, e, g⟩).1 ≤ (gridOf ⟨l, h, s, b, o, e, g⟩).2) := by
  unfold isField fokB gridOf
  simp only [decide_eq_true (show LOK l h s b from ⟨l0, lh, h1, s0, s1, b0, b1⟩), decide_eq_true ho, decide_eq_true he, decide_eq_true (show 2 ≤ g ∧ g ≤ 12 from ⟨g0, g1⟩), Bool.true_and]
theorem rel_texts {K : PySem.W.Frag} {H : Hp} {a : Addr} {xs : List Str} (h : ∀ H, SqT K H a (xs.map V.str)) : Rep.rel K H (.ref a) (Tpl.mk xs) := ⟨a, xs.map V.str, rfl, h H, by
  induction xs with
  | nil => exact .nil
  | cons x r ih => exact .cons rfl (by
      have g : ∀ r : List Str, rels K H (r.map V.str) r := by
        intro r
        induction r with
        | nil => exact .nil
        | cons y r ih => exact .cons rfl ih
      exact g r)⟩
theorem FOk.fl {f : Fld} (h : FOk f) : FL f := ⟨h.l0, h.lh, h.h1, h.s0, h.s1, h.b0, h.b1⟩
theorem FOk.isField {f : Fld} (h : FOk f) : isField (Enc.enc f) = true := by
  obtain ⟨l0, lh, h1, s0, s1, b0, b1, off, ends, g0, g1, on⟩ := h
  have z := isField_yes (l := f.low) (h := f.high) (s := f.step) (b := f.base) (g := f.big) (o := f.off) (e := f.ends) l0 lh h1 s0 s1 b0 b1 (by simpa using off) (by simpa using ends) g0 g1
  refine z.trans ?_
  exact decide_eq_true on
def rowOk (z : Str) : Prop := z.cps.toList.length ≤ 40 ∧ ∀ c ∈ z.cps.toList, isKey c
def isRow : PyData → Bool
  | .str z => decide (z.cps.toList.length ≤ 40) && z.cps.toList.all fun c => decide (isKey c)
  | _ => false
theorem rowOk.isRow {z : Str} (h : rowOk z) : isRow (.str z) = true := by
  unfold Sf.isRow
  simp only [Bool.and_eq_true, decide_eq_true_eq, List.all_eq_true]
  exact ⟨h.1, h.2⟩
theorem keys_mem {c : Nat} : c ∈ ("udUDhe" : Str).cps.toList ↔ isKey c := by
  have e : ("udUDhe" : Str).cps.toList = [117, 100, 85, 68, 104, 101] := by decide
  rw [e]
  simp only [List.mem_cons, List.not_mem_nil, or_false, isKey]
theorem rowOk_len {a : Str} (h : rowOk a) : ∀ z, (Enc.enc a : PyData) = .str z → z.length ≤ 100000 := by
  intro z e
  have e2 : a = z := by
    have e3 : PyData.str a = PyData.str z := e
    injection e3
  subst e2
  have h1 := h.1
  show a.cps.size ≤ 100000
  simp only [Array.length_toList] at h1
  omega

/-- what a drawn field keeps -/
structure FieldPost (wide : Int) (f : Fld) : Prop where
  ok : FOk f
  low0 : -30 ≤ f.low
  low1 : f.low ≤ 29
  span : f.high - f.low ≤ max (8 * f.step) wide
  st : f.step ≤ 12 ∨ (1000 < wide ∧ f.step ≤ wide / 5)
  ba0 : min 0 (f.low - f.step) ≤ f.base
  ba1 : f.base ≤ max 0 f.high
/-- the greatest multiple below: x = y * (x / y) + x % y, told for omega -/
theorem div_le {x y : Int} (h : 0 < y) : x / y * y ≤ x ∧ x < x / y * y + y := by
  have h1 := Int.emod_add_mul_ediv x y
  have h2 := Int.emod_nonneg x (show y ≠ 0 by omega)
  have h3 := Int.emod_lt_of_pos x h
  have h4 : y * (x / y) = x / y * y := Int.mul_comm _ _
  omega
theorem on_of {base low high step : Int} (hs : 0 < step) (h : base - (base - low) / step * step ≤ high) : base - (base - low) / step * step ≤ base + (high - base) / step * step := by
  have a := div_le (x := high - base) hs
  have e : -((base - low) / step) ≤ (high - base) / step := by
    have h1 : -((base - low) / step) * step ≤ high - base := by
      rw [Int.neg_mul]
      omega
    exact (Int.le_ediv_iff_mul_le hs).mpr h1
  have h2 : -((base - low) / step) * step ≤ (high - base) / step * step := Int.mul_le_mul_of_nonneg_right e (by omega)
  rw [Int.neg_mul] at h2
  omega

def lawNearest (f : Fld) (v : Int) : Int := if 2 * (v - (f.base + (v - f.base) / f.step * f.step)) < f.step then f.base + (v - f.base) / f.step * f.step else f.base + (v - f.base) / f.step * f.step + f.step
/-- quotients by their bounds -/
theorem div_eq {x y q : Int} (h : 0 < y) (a : q * y ≤ x) (b : x < q * y + y) : x / y = q := by
  have h1 : q ≤ x / y := (Int.le_ediv_iff_mul_le h).mpr a
  have h2 : x / y < q + 1 := (Int.ediv_lt_iff_lt_mul h).mpr (by rw [Int.add_mul]; omega)
  omega
theorem nearest_eq {f : Fld} {v : Int} (hs : 1 ≤ f.step) : lawNearest f v = f.base + (2 * (v - f.base) + f.step) / (2 * f.step) * f.step := by
  unfold lawNearest
  have a := div_le (x := v - f.base) (y := f.step) (by omega)
  generalize hq : (v - f.base) / f.step = q at a
  split
  · next h =>
    have e : (2 * (v - f.base) + f.step) / (2 * f.step) = q := div_eq (by omega) (by
      have z : q * (2 * f.step) = 2 * (q * f.step) := by rw [Int.mul_left_comm]
      omega) (by
      have z : q * (2 * f.step) = 2 * (q * f.step) := by rw [Int.mul_left_comm]
      omega)
    rw [e]
  · next h =>
    have e : (2 * (v - f.base) + f.step) / (2 * f.step) = q + 1 := div_eq (by omega) (by
      have z : (q + 1) * (2 * f.step) = 2 * (q * f.step) + 2 * f.step := by rw [Int.add_mul, Int.mul_left_comm, Int.one_mul]
      omega) (by
      have z : (q + 1) * (2 * f.step) = 2 * (q * f.step) + 2 * f.step := by rw [Int.add_mul, Int.mul_left_comm, Int.one_mul]
      omega)
    rw [e, Int.add_mul, Int.one_mul]
    omega
/-- (a - b) by the step, upward -/
theorem up_eq {b v s : Int} (hs : 1 ≤ s) : b + -((b - v) / s) * s = (if b + (v - b) / s * s = v then b + (v - b) / s * s else b + (v - b) / s * s + s) := by
  have a := div_le (x := v - b) (y := s) (by omega)
  generalize hq : (v - b) / s = q at a
  have nq : ∀ r : Int, -r * s = -(r * s) := fun r => Int.neg_mul ..
  split
  · next h =>
    have e : (b - v) / s = -q := div_eq (by omega) (by rw [nq]; omega) (by rw [nq]; omega)
    rw [e, Int.neg_neg]
  · next h =>
    have z : -(q + 1) * s = -(q * s) - s := by rw [Int.neg_mul, Int.add_mul, Int.one_mul]; omega
    have e : (b - v) / s = -(q + 1) := div_eq (by omega) (by rw [z]; omega) (by rw [z]; omega)
    rw [e, Int.neg_neg, Int.add_mul, Int.one_mul]
    omega

def rowOkB (z : Str) : Bool := decide (z.cps.toList.length ≤ 40) && z.cps.toList.all fun c => decide (isKey c)
theorem rowOkB_ok {z : Str} (h : rowOkB z = true) : rowOk z := by
  unfold rowOkB at h
  simp only [Bool.and_eq_true, decide_eq_true_eq, List.all_eq_true] at h
  exact h
theorem sg_moves {c : Nat} : c ∈ ("udUD" : Str).cps.toList ↔ isMove c := by
  have e : ("udUD" : Str).cps.toList = [117, 100, 85, 68] := by decide
  rw [e]
  simp only [List.mem_cons, List.not_mem_nil, or_false, isMove]
theorem aim_on {f : Fld} {v m : Int} (h : ¬ f.off = "add") : (aimOf f v m - f.base) % f.step = 0 := by
  unfold aimOf
  rw [if_neg h]
  have z : ∀ k : Int, (f.base + k * f.step - f.base) % f.step = 0 := fun k => by
    rw [show f.base + k * f.step - f.base = k * f.step by omega]
    exact Int.mul_emod_left k f.step
  split
  · exact z _
  · split
    · exact z _
    · exact z _
theorem pressKey_move {f : Fld} {v : Int} {c : Nat} (h : isMove c) : pressKey f v c = (if f.low ≤ aimOf f v (manySteps f c) ∧ aimOf f v (manySteps f c) ≤ f.high then aimOf f v (manySteps f c)
      else if f.ends = "stay" then v else if f.ends = "round" then (if aimOf f v (manySteps f c) > f.high then f.low else f.high) else (if aimOf f v (manySteps f c) > f.high then f.high else f.low)) := by
  unfold pressKey
  have h1 : c ≠ 104 := by
    rcases h with z | z | z | z <;> omega
  have h2 : c ≠ 101 := by
    rcases h with z | z | z | z <;> omega
  rw [if_neg h1, if_neg h2]
theorem key_cases {c : Nat} (h : isKey c) : isMove c ∨ c = 104 ∨ c = 101 := by
  rcases h with z | z | z | z | z | z
  · exact .inl (.inl z)
  · exact .inl (.inr (.inl z))
  · exact .inl (.inr (.inr (.inl z)))
  · exact .inl (.inr (.inr (.inr z)))
  · exact .inr (.inl z)
  · exact .inr (.inr z)
theorem pressKey_in {f : Fld} {v : Int} {c : Nat} (hf : FL f) (hv : f.low ≤ v ∧ v ≤ f.high) (hk : isKey c) : f.low ≤ pressKey f v c ∧ pressKey f v c ≤ f.high := by
  have lh := hf.2.1
  rcases key_cases hk with h | h | h
  · rw [pressKey_move h]
    repeat' split
    all_goals omega
  · subst h
    show f.low ≤ f.low ∧ f.low ≤ f.high
    omega
  · subst h
    show f.low ≤ f.high ∧ f.high ≤ f.high
    omega
theorem pressKey_props {f : Fld} {v : Int} {c : Nat} (hf : FOk f) (hv : f.low ≤ v ∧ v ≤ f.high) (hk : isKey c) : f.low ≤ pressKey f v c ∧ pressKey f v c ≤ f.high ∧
    (¬ f.off = "add" → isMove c → (pressKey f v c - f.base) % f.step = 0 ∨ (pressKey f v c = f.low ∨ pressKey f v c = f.high ∨ pressKey f v c = v)) := by
  refine ⟨(pressKey_in hf.fl hv hk).1, (pressKey_in hf.fl hv hk).2, fun ha hm => ?_⟩
  have z := aim_on (f := f) (v := v) (m := manySteps f c) ha
  rw [pressKey_move hm]
  repeat' split
  · exact .inl z
  all_goals simp
end Sf

namespace Sf
open PySem PySem.Spec PyProof.Rows L2 Evl

/-! ### data that == tells apart -/
class EqT (α : Type) [Rep α] [Enc α] [DecidableEq α] where
  good : α → Prop
  dep : Nat
  can : ∀ {x : α}, good x → (Enc.enc x).canLay0 = true
  dle : ∀ (x : α), (Enc.enc x).depth ≤ dep
  eqv : ∀ (x y : α), PyData.eqv (Enc.enc x) (Enc.enc y) = decide (x = y)
theorem bl_eq {a b : Bool} {p : Prop} [Decidable p] (h : (a == b) = true ↔ p) : (a == b) = decide p := by
  rw [Bool.eq_iff_iff]
  simp only [h, decide_eq_true_eq]
theorem st_eqv (x y : Str) : PyData.eqv (.str x) (.str y) = decide (x = y) := by
  simp only [PyData.eqv]
  rw [Bool.eq_iff_iff]
  simp
instance : EqT Int := ⟨fun _ => True, 0, fun _ => rfl, fun _ => Nat.le_refl _, fun x y => by
  show PyData.eqv (.int x) (.int y) = _
  simp only [PyData.eqv]
  rw [Bool.eq_iff_iff]
  simp⟩
instance : EqT Bool := ⟨fun _ => True, 0, fun _ => rfl, fun _ => Nat.le_refl _, fun x y => by
  show PyData.eqv (.bool x) (.bool y) = _
  simp only [PyData.eqv]
  rw [Bool.eq_iff_iff]
  simp⟩
def strG (x : Str) : Prop := x.cps.all (· < 0x110000) = true
instance : EqT Str := ⟨strG, 0, fun h => h, fun _ => Nat.le_refl _, fun x y => st_eqv x y⟩
instance : EqT Sg := ⟨fun s => s.c < 0x110000, 0, fun {x} h => by
  have h0 : x.c < 0x110000 := h
  show (#[x.c]).all (· < 0x110000) = true
  simp [h0], fun _ => Nat.le_refl _, fun x y => by
  show PyData.eqv (.str ⟨#[x.c]⟩) (.str ⟨#[y.c]⟩) = _
  rw [st_eqv]
  rw [Bool.eq_iff_iff]
  simp only [decide_eq_true_eq, sg_eq]
  constructor
  · intro h
    cases x
    cases y
    simp only [Sg.mk.injEq]
    exact h
  · intro h
    rw [h]⟩
instance : EqT Unit := ⟨fun _ => True, 0, fun _ => rfl, fun _ => Nat.le_refl _, fun x y => by
  cases x
  cases y
  rfl⟩
section
variable {α β γ : Type} [Rep α] [Rep β] [Rep γ] [Enc α] [Enc β] [Enc γ] [DecidableEq α] [DecidableEq β] [DecidableEq γ] [EqT α] [EqT β] [EqT γ]
instance : EqT (α × β) := ⟨fun x => EqT.good x.1 ∧ EqT.good x.2, max (EqT.dep α) (EqT.dep β) + 1, fun {x} h => by
  show PyData.canLay0 (.tuple [Enc.enc x.1, Enc.enc x.2]) = true
  simp only [PyData.canLay0, PyData.canLayAll0, EqT.can h.1, EqT.can h.2, Bool.and_true], fun x => by
  show PyData.depth (.tuple [Enc.enc x.1, Enc.enc x.2]) ≤ _
  have h1 := EqT.dle x.1
  have h2 := EqT.dle x.2
  simp only [PyData.depth, PyData.depthAll]
  omega, fun x y => by
  show PyData.eqv (.tuple [Enc.enc x.1, Enc.enc x.2]) (.tuple [Enc.enc y.1, Enc.enc y.2]) = _
  simp only [PyData.eqv, PyData.eqvAll, EqT.eqv, Bool.and_true]
  rw [Bool.eq_iff_iff]
  simp only [Bool.and_eq_true, decide_eq_true_eq, Prod.ext_iff]⟩
instance : EqT (Tri α β γ) := ⟨fun x => EqT.good x.a ∧ EqT.good x.b ∧ EqT.good x.c, max (EqT.dep α) (max (EqT.dep β) (EqT.dep γ)) + 1, fun {x} h => by
  show PyData.canLay0 (.tuple [Enc.enc x.a, Enc.enc x.b, Enc.enc x.c]) = true
  simp only [PyData.canLay0, PyData.canLayAll0, EqT.can h.1, EqT.can h.2.1, EqT.can h.2.2, Bool.and_true], fun x => by
  show PyData.depth (.tuple [Enc.enc x.a, Enc.enc x.b, Enc.enc x.c]) ≤ _
  have h1 := EqT.dle x.a
  have h2 := EqT.dle x.b
  have h3 := EqT.dle x.c
  simp only [PyData.depth, PyData.depthAll]
  omega, fun x y => by
  show PyData.eqv (.tuple [Enc.enc x.a, Enc.enc x.b, Enc.enc x.c]) (.tuple [Enc.enc y.a, Enc.enc y.b, Enc.enc y.c]) = _
  simp only [PyData.eqv, PyData.eqvAll, EqT.eqv, Bool.and_true]
  rw [Bool.eq_iff_iff]
  cases x
  cases y
  simp only [Bool.and_eq_true, decide_eq_true_eq, Tri.mk.injEq]⟩
theorem all_can : ∀ (xs : List α), (∀ x ∈ xs, EqT.good x) → PyData.canLayAll0 (xs.map Enc.enc) = true
  | [], _ => rfl
  | x :: r, h => by
    simp only [List.map_cons, PyData.canLayAll0, EqT.can (h x (List.mem_cons_self ..)), all_can r fun y hy => h y (List.mem_cons_of_mem _ hy), Bool.and_true]
theorem all_dle : ∀ (xs : List α), PyData.depthAll (xs.map Enc.enc) ≤ EqT.dep α
  | [] => Nat.zero_le _
  | x :: r => by
    have h1 := EqT.dle x
    have h2 := all_dle r
    simp only [List.map_cons, PyData.depthAll]
    omega
theorem all_eqv : ∀ (xs ys : List α), PyData.eqvAll (xs.map Enc.enc) (ys.map Enc.enc) = decide (xs = ys)
  | [], [] => rfl
  | [], _ :: _ => by simp [PyData.eqvAll]
  | _ :: _, [] => by simp [PyData.eqvAll]
  | x :: r, y :: r' => by
    simp only [List.map_cons, PyData.eqvAll, EqT.eqv, all_eqv r r']
    rw [Bool.eq_iff_iff]
    simp only [Bool.and_eq_true, decide_eq_true_eq, List.cons.injEq]
instance : EqT (List α) := ⟨fun xs => ∀ x ∈ xs, EqT.good x, EqT.dep α + 1, fun {xs} h => by
  show PyData.canLay0 (.list (xs.map Enc.enc)) = true
  simp only [PyData.canLay0, all_can xs h], fun xs => by
  show PyData.depth (.list (xs.map Enc.enc)) ≤ _
  simp only [PyData.depth]
  exact Nat.succ_le_succ (all_dle xs), fun xs ys => by
  show PyData.eqv (.list (xs.map Enc.enc)) (.list (ys.map Enc.enc)) = _
  simp only [PyData.eqv, all_eqv]⟩
instance : EqT (Tpl α) := ⟨fun xs => ∀ x ∈ xs.l, EqT.good x, EqT.dep α + 1, fun {xs} h => by
  show PyData.canLay0 (.tuple (xs.l.map Enc.enc)) = true
  simp only [PyData.canLay0, all_can xs.l h], fun xs => by
  show PyData.depth (.tuple (xs.l.map Enc.enc)) ≤ _
  simp only [PyData.depth]
  exact Nat.succ_le_succ (all_dle xs.l), fun xs ys => by
  show PyData.eqv (.tuple (xs.l.map Enc.enc)) (.tuple (ys.l.map Enc.enc)) = _
  simp only [PyData.eqv, all_eqv]
  cases xs
  cases ys
  simp only [Tpl.mk.injEq]⟩
/-- nothing of this kind is None -/
class NotNone (α : Type) [Rep α] [Enc α] : Prop where
  nn : ∀ x : α, PyData.eqv .none (Enc.enc x) = false ∧ PyData.eqv (Enc.enc x) .none = false
instance : NotNone Int := ⟨fun _ => ⟨by simp only [Enc.enc, PyData.eqv], by simp only [Enc.enc, PyData.eqv]⟩⟩
instance : NotNone Str := ⟨fun _ => ⟨by simp only [Enc.enc, PyData.eqv], by simp only [Enc.enc, PyData.eqv]⟩⟩
instance : NotNone (α × β) := ⟨fun _ => ⟨by simp only [Enc.enc, PyData.eqv], by simp only [Enc.enc, PyData.eqv]⟩⟩
instance : NotNone (Tri α β γ) := ⟨fun _ => ⟨by simp only [Enc.enc, PyData.eqv], by simp only [Enc.enc, PyData.eqv]⟩⟩
instance : NotNone (List α) := ⟨fun _ => ⟨by simp only [Enc.enc, PyData.eqv], by simp only [Enc.enc, PyData.eqv]⟩⟩
instance : NotNone (Tpl α) := ⟨fun _ => ⟨by simp only [Enc.enc, PyData.eqv], by simp only [Enc.enc, PyData.eqv]⟩⟩
instance [NotNone α] : EqT (Option α) := ⟨fun x => ∀ y, x = some y → EqT.good y, EqT.dep α, fun {x} h => by
  cases x with
  | none => rfl
  | some y => exact EqT.can (x := y) (h y rfl), fun x => by
  cases x with
  | none => exact Nat.zero_le _
  | some y => exact EqT.dle y, fun x y => by
  cases x with
  | none =>
    cases y with
    | none => rfl
    | some y => exact (NotNone.nn y).1
  | some x =>
    cases y with
    | none => exact (NotNone.nn x).2
    | some y =>
      refine (EqT.eqv x y).trans ?_
      rw [Bool.eq_iff_iff]
      simp only [decide_eq_true_eq, Option.some.injEq]⟩
end
instance : EqT Fld := ⟨fun f => strG f.off ∧ strG f.ends, 1, fun {f} h => by
  have h1 : f.off.cps.all (· < 0x110000) = true := h.1
  have h2 : f.ends.cps.all (· < 0x110000) = true := h.2
  show PyData.canLay0 (Fld.enc f) = true
  simp only [Fld.enc, PyData.canLay0, PyData.canLayAll0, PyData.strOk, h1, h2, Bool.and_true], fun f => by
  show PyData.depth (Fld.enc f) ≤ 1
  simp [Fld.enc, PyData.depth, PyData.depthAll], fun x y => by
  show PyData.eqv (Fld.enc x) (Fld.enc y) = _
  simp only [Fld.enc, PyData.eqv, PyData.eqvAll, Bool.and_true]
  rw [Bool.eq_iff_iff]
  cases x
  cases y
  simp⟩
section
variable {α β γ δ ε : Type} [Rep α] [Rep β] [Rep γ] [Rep δ] [Rep ε] {K : PySem.W.Frag} {σ σ' : L2.St} {H H' : Hp} {te tl ta tb tc td ts : TE} {tA : TA} {tt : TT} {u t1 t2 : TS} {D : Ends} {i j : Int} {a b : Bool}
theorem er_eqT [Enc α] [DecidableEq α] [EqT α] {x y : α} (ha : ER K ta σ H x) (hb : ER K tb σ H y) (gx : EqT.good x) (gy : EqT.good y) (hd : EqT.dep α ≤ 64) : ER K (tOp (rEqD K) ta tb) σ H (decide (x = y)) := by
  rw [← EqT.eqv x y]
  exact er_eqD (er_enc ha) (er_enc hb) (by
    simp only [SeqAt.shaped, EqT.can gx, Bool.true_and, decide_eq_true_eq]
    exact Nat.le_trans (EqT.dle x) hd) (by
    simp only [SeqAt.shaped, EqT.can gy, Bool.true_and, decide_eq_true_eq]
    exact Nat.le_trans (EqT.dle y) hd)
theorem er_neT [Enc α] [DecidableEq α] [EqT α] {x y : α} (ha : ER K ta σ H x) (hb : ER K tb σ H y) (gx : EqT.good x) (gy : EqT.good y) (hd : EqT.dep α ≤ 64) : ER K (tOp (rNeD K) ta tb) σ H (!decide (x = y)) := by
  rw [← EqT.eqv x y]
  exact er_neD (er_enc ha) (er_enc hb) (by
    simp only [SeqAt.shaped, EqT.can gx, Bool.true_and, decide_eq_true_eq]
    exact Nat.le_trans (EqT.dle x) hd) (by
    simp only [SeqAt.shaped, EqT.can gy, Bool.true_and, decide_eq_true_eq]
    exact Nat.le_trans (EqT.dle y) hd)
/-! ### more of single things -/
theorem er_none : ER K (tC .non) σ H () := fun H1 _ _ q => q _ H1 (Ex.refl H1) rfl
theorem er_noneO : ER K (tC .non) σ H (none : Option α) := fun H1 _ _ q => q _ H1 (Ex.refl H1) rfl
theorem er_some {x : α} (h : ER K te σ H x) : ER K te σ H (some x) := h
theorem er_g {c : Nat} {z : Str} (h : z = ⟨#[c]⟩) : ER K (tC (.str z)) σ H (Sg.mk c) := fun H1 _ _ q => q _ H1 (Ex.refl H1) (by rw [h]; rfl)
theorem er_c {v : V} {x : α} (r : Rep.rel K H v x) : ER K (tC v) σ H x := fun H1 e _ q => q v H1 (Ex.refl H1) (Rep.mono e r)
theorem er_addS {x y : Str} (ha : ER K ta σ H x) (hb : ER K tb σ H y) (hl : x.length + y.length ≤ 100000) : ER K (tOp rAddS ta tb) σ H (x ++ y) := er_SS ha hb fun H1 Q q => ⟨x, y, rfl, rfl, sz_of hl, q _ rfl⟩
theorem flat_rep {n : Nat} {xs : List α} {vs : List V} (h : rels K H vs xs) : rels K H (List.replicate n vs).flatten (List.replicate n xs).flatten := by
  induction n with
  | zero => exact .nil
  | succ n ih =>
    rw [List.replicate_succ, List.replicate_succ, List.flatten_cons, List.flatten_cons]
    exact rels_app h ih
theorem er_rep {xs : List α} (h : ER K ta σ H xs) (h2 : ER K tb σ H i) (h0 : 0 ≤ i ∧ i ≤ 100000) (hl : xs.length * i.toNat ≤ 100000) : ER K (tOp rRep ta tb) σ H (List.replicate i.toNat xs).flatten := fun H1 e Q q => h H1 e _ fun v H2 e2 ⟨l, vs, hv, hs, hr⟩ => h2 H2 (e.trans e2) _ fun w H3 e3 r2 => by
  cases r2
  refine ⟨l, i, vs, hv, rfl, e3 _ _ hs, by omega, by omega, by rw [rels_len hr]; exact sz_of hl, fun p hp => ?_⟩
  exact q _ _ ((e2.trans e3).trans (Ex.new hp)) ⟨p, _, rfl, upd_same, flat_rep (rels_mono (e3.trans (Ex.new hp)) hr)⟩
/-! ### what is drawn, put together -/
theorem en_op2 {r : R2} {P1 : α → Prop} {P2 : β → Prop} {P : γ → Prop} (ha : EN K ta σ H P1) (hb : EN K tb σ H P2) (h : ∀ x y v w H1, Ex H H1 → P1 x → P2 y → Rep.rel K H1 v x → Rep.rel K H1 w y → EN K (tOp r (tC v) (tC w)) σ H1 P) : EN K (tOp r ta tb) σ H P := fun H1 e Q q =>
  ha H1 e _ fun x v H2 p1 e2 r1 => hb H2 (e.trans e2) _ fun y w H3 p2 e3 r2 => h x y v w H3 ((e.trans e2).trans e3) p1 p2 (Rep.mono e3 r1) r2 H3 (Ex.refl _) Q fun z v' H4 p e4 r4 => q z v' H4 p ((e2.trans e3).trans e4) r4
theorem en_un {r : V → Hp → VK → Prop} {P1 : α → Prop} {P : γ → Prop} (ha : EN K ta σ H P1) (h : ∀ x v H1, Ex H H1 → P1 x → Rep.rel K H1 v x → EN K (tUn r (tC v)) σ H1 P) : EN K (tUn r ta) σ H P := fun H1 e Q q =>
  ha H1 e _ fun x v H2 p1 e2 r1 => h x v H2 (e.trans e2) p1 r1 H2 (Ex.refl _) Q fun z v' H4 p e4 r4 => q z v' H4 p (e2.trans e4) r4
theorem en_cb1 {r : List V → Hp → VK → Prop} {P1 : α → Prop} {P : γ → Prop} (ha : EN K ta σ H P1) (h : ∀ x v H1, Ex H H1 → P1 x → Rep.rel K H1 v x → EN K (tCB r (tCons (tC v) tNil)) σ H1 P) : EN K (tCB r (tCons ta tNil)) σ H P := fun H1 e Q q =>
  ha H1 e _ fun x v H2 p1 e2 r1 => h x v H2 (e.trans e2) p1 r1 H2 (Ex.refl _) Q fun z v' H4 p e4 r4 => q z v' H4 p (e2.trans e4) r4
theorem en_cb2 {r : List V → Hp → VK → Prop} {P1 : α → Prop} {P2 : β → Prop} {P : γ → Prop} (ha : EN K ta σ H P1) (hb : EN K tb σ H P2) (h : ∀ x y v w H1, Ex H H1 → P1 x → P2 y → Rep.rel K H1 v x → Rep.rel K H1 w y → EN K (tCB r (tCons (tC v) (tCons (tC w) tNil))) σ H1 P) : EN K (tCB r (tCons ta (tCons tb tNil))) σ H P := fun H1 e Q q =>
  ha H1 e _ fun x v H2 p1 e2 r1 => hb H2 (e.trans e2) _ fun y w H3 p2 e3 r2 => h x y v w H3 ((e.trans e2).trans e3) p1 p2 (Rep.mono e3 r1) r2 H3 (Ex.refl _) Q fun z v' H4 p e4 r4 => q z v' H4 p ((e2.trans e3).trans e4) r4
theorem en_ca1 {sp : Sp} {dvs : List V} {E : XK} {P1 : α → Prop} {P : γ → Prop} (ha : EN K ta σ H P1) (h : ∀ x v H1, Ex H H1 → P1 x → Rep.rel K H1 v x → EN K (tCall sp dvs E (tCons (tC v) tNil)) σ H1 P) : EN K (tCall sp dvs E (tCons ta tNil)) σ H P := fun H1 e Q q =>
  ha H1 e _ fun x v H2 p1 e2 r1 => h x v H2 (e.trans e2) p1 r1 H2 (Ex.refl _) Q fun z v' H4 p e4 r4 => q z v' H4 p (e2.trans e4) r4
theorem en_ca2 {sp : Sp} {dvs : List V} {E : XK} {P1 : α → Prop} {P2 : β → Prop} {P : γ → Prop} (ha : EN K ta σ H P1) (hb : EN K tb σ H P2) (h : ∀ x y v w H1, Ex H H1 → P1 x → P2 y → Rep.rel K H1 v x → Rep.rel K H1 w y → EN K (tCall sp dvs E (tCons (tC v) (tCons (tC w) tNil))) σ H1 P) : EN K (tCall sp dvs E (tCons ta (tCons tb tNil))) σ H P := fun H1 e Q q =>
  ha H1 e _ fun x v H2 p1 e2 r1 => hb H2 (e.trans e2) _ fun y w H3 p2 e3 r2 => h x y v w H3 ((e.trans e2).trans e3) p1 p2 (Rep.mono e3 r1) r2 H3 (Ex.refl _) Q fun z v' H4 p e4 r4 => q z v' H4 p ((e2.trans e3).trans e4) r4
theorem en_ca3 {sp : Sp} {dvs : List V} {E : XK} {P1 : α → Prop} {P2 : β → Prop} {P3 : γ → Prop} {P : δ → Prop} (ha : EN K ta σ H P1) (hb : EN K tb σ H P2) (hc : EN K tc σ H P3) (h : ∀ x y z v w u H1, Ex H H1 → P1 x → P2 y → P3 z → Rep.rel K H1 v x → Rep.rel K H1 w y → Rep.rel K H1 u z → EN K (tCall sp dvs E (tCons (tC v) (tCons (tC w) (tCons (tC u) tNil)))) σ H1 P) : EN K (tCall sp dvs E (tCons ta (tCons tb (tCons tc tNil)))) σ H P := fun H1 e Q q =>
  ha H1 e _ fun x v H2 p1 e2 r1 => hb H2 (e.trans e2) _ fun y w H3 p2 e3 r2 => hc H3 ((e.trans e2).trans e3) _ fun z u H4 p3 e4 r3 => h x y z v w u H4 (((e.trans e2).trans e3).trans e4) p1 p2 p3 (Rep.mono (e3.trans e4) r1) (Rep.mono e4 r2) r3 H4 (Ex.refl _) Q fun z v' H5 p e5 r5 => q z v' H5 p (((e2.trans e3).trans e4).trans e5) r5
theorem en_is {x : α} (h : ER K te σ H x) : EN K te σ H (fun y => y = x) := en_of h rfl
theorem en_drawE {n : Int} {E : XK} (hs : ER K ts σ H Src.mk) (ha : ER K ta σ H n) (h : 1 ≤ n ∧ n ≤ 1000000000000000000000000) : EN K (tCall (SP_draw K) [] E (tCons ts (tCons ta tNil))) σ H (fun d => 0 ≤ d ∧ d < n) :=
  en_draw hs (en_of (P := fun m => m = n) ha rfl) (fun m hm => by rw [hm]; exact h) (fun m d hm h0 h1 => ⟨h0, by rw [← hm]; exact h1⟩)
theorem en_chooseE {xs : List α} {E : XK} (hs : ER K ts σ H Src.mk) (ha : ER K ta σ H xs) (h : 1 ≤ xs.length ∧ xs.length ≤ 100000) : EN K (tCall (SP_choice K) [] E (tCons ts (tCons ta tNil))) σ H (fun x => x ∈ xs) :=
  en_choice hs (en_of (P := fun ys => 1 ≤ ys.length ∧ ys.length ≤ 100000 ∧ ∀ x ∈ ys, x ∈ xs) ha ⟨h.1, h.2, fun _ hx => hx⟩)
/-- an if whose ways meet -/
theorem q_ifD (K : PySem.W.Frag) (W : L2.St → Hp → Prop) (hW : ∀ σ' H', W σ' H' → u D σ' H') (h : ET K tt σ H b) (h1 : b = true → ∀ H1, Ex H H1 → ∀ D2 : Ends, (∀ σ' H', W σ' H' → D2.nx σ' H') → t1 D2 σ H1)
    (h2 : b = false → ∀ H1, Ex H H1 → ∀ D2 : Ends, (∀ σ' H', W σ' H' → D2.nx σ' H') → t2 D2 σ H1) : tSeq (tIfS tt t1 t2) u D σ H := q_if K h (fun c H1 e => h1 c H1 e _ hW) (fun c H1 e => h2 c H1 e _ hW)
theorem l_setI (K : PySem.W.Frag) {n : Nat} {s' : V → L2.St} (h : ER K te σ H i) (s : ∀ v, SetAt σ n v (s' v)) (k : ∀ H1, Ex H H1 → D.nx (s' (.int i)) H1) : tAsg te (gName n) D σ H := l_set K h s fun v H1 e r => by
  cases r
  exact k H1 e
theorem l_setB (K : PySem.W.Frag) {n : Nat} {s' : V → L2.St} (h : ER K te σ H b) (s : ∀ v, SetAt σ n v (s' v)) (k : ∀ H1, Ex H H1 → D.nx (s' (.bl b)) H1) : tAsg te (gName n) D σ H := l_set K h s fun v H1 e r => by
  cases r
  exact k H1 e
/-- two at once, through a tuple -/
theorem n_parT (K : PySem.W.Frag) {P1 : α → Prop} {P2 : β → Prop} {n : Nat} {g : TGs} (hn : n = 2) (h : EN K ta σ H P1) (h2 : ∀ H1, Ex H H1 → EN K tb σ H1 P2)
    (k : ∀ x y v w H1, P1 x → P2 y → Ex H H1 → Rep.rel K H1 v x → Rep.rel K H1 w y → g [v, w] σ H1 fun σ' H' => u D σ' H') : tSeq (tAsg (tTup (tCons ta (tCons tb tNil))) (gTup K n g)) u D σ H :=
  h H (Ex.refl H) _ fun x v H1 p1 e r => h2 H1 e H1 (Ex.refl H1) _ fun y w H2 p2 e2 r2 => ⟨sz_of (by show 2 ≤ 100000; decide), fun p hp => ⟨p, [v, w], rfl, st_of upd_same, hn.symm, by
    have e3 := Ex.new (o := .tup [v, w]) hp
    exact k x y v w _ p1 p2 ((e.trans e2).trans e3) (Rep.mono (e2.trans e3) r) (Rep.mono e3 r2)⟩⟩
/-- a pair in the target -/
theorem g_pair {v : V} {x : α × β} {g : TGs} {Q : L2.St → Hp → Prop} (r : Rep.rel K H v x) (k : ∀ v1 v2, Rep.rel K H v1 x.1 → Rep.rel K H v2 x.2 → g [v1, v2] σ H Q) : gTup K 2 g v σ H Q := by
  obtain ⟨a, v1, v2, hv, hs, r1, r2⟩ := r
  exact ⟨a, [v1, v2], hv, hs, rfl, k v1 v2 r1 r2⟩
theorem q_unpT (K : PySem.W.Frag) {x : Tri α β γ} {g : TGs} (h : ER K te σ H x) (k : ∀ v1 v2 v3 H1, Ex H H1 → Rep.rel K H1 v1 x.a → Rep.rel K H1 v2 x.b → Rep.rel K H1 v3 x.c → g [v1, v2, v3] σ H1 fun σ' H' => u D σ' H') : tSeq (tAsg te (gTup K 3 g)) u D σ H := h H (Ex.refl H) _ fun v H1 e ⟨a, v1, v2, v3, hv, hs, r1, r2, r3⟩ => ⟨a, [v1, v2, v3], hv, hs, rfl, k v1 v2 v3 H1 e r1 r2 r3⟩
/-- drawn signs in a text -/
theorem en_signs {P1 : Int → Prop} {C : Nat → Prop} {N : Nat} (h : EN K te σ H (fun z : Str => ∃ xs : List Sg, (∃ ns : List Int, (∃ n, P1 n ∧ ns = rng 0 n.toNat) ∧ Paired (fun _ s => C s.c) ns xs) ∧ z = unsg xs)) (hn : ∀ n, P1 n → n ≤ N) :
    EN K te σ H (fun z : Str => z.cps.toList.length ≤ N ∧ ∀ c ∈ z.cps.toList, C c) := en_imp h fun z ⟨xs, ⟨ns, ⟨n, p, e1⟩, pr⟩, e2⟩ => by
  subst e2
  subst e1
  rw [unsg_codes]
  constructor
  · rw [List.length_map, paired_len pr, rng_len]
    have := hn n p
    omega
  · intro c hc
    obtain ⟨s, hs, rfl⟩ := List.mem_map.mp hc
    exact paired_all (P2 := fun s : Sg => C s.c) pr (fun _ _ h => h) s hs
end

theorem between_enc {i lo hi : Int} (h : lo ≤ i ∧ i ≤ hi) : isBetween (Enc.enc i) lo hi = true := by
  show (decide (lo ≤ i) && decide (i ≤ hi)) = true
  rw [decide_eq_true h.1, decide_eq_true h.2]
  rfl
/-! ### while -/
theorem q_while (K : PySem.W.Frag) {σ : L2.St} {H : Hp} {tt : TT} {tb : TS} {u : TS} {D : Ends} (I : Nat → L2.St → Hp → Prop) (h0 : ∃ m, I m σ H)
    (hs : ∀ m σ' H', Ey H H' → I m σ' H' → ∃ b, ET K tt σ' H' b ∧ (b = true → ∀ H1, Ex H' H1 → tb { D with nx := fun σ3 H3 => Ey H' H3 ∧ ∃ m', m' < m ∧ I m' σ3 H3, ct := fun σ3 H3 => Ey H' H3 ∧ ∃ m', m' < m ∧ I m' σ3 H3, bk := u D } σ' H1) ∧
      (b = false → ∀ H1, Ex H' H1 → u D σ' H1)) : tSeq (tWhile tt tb) u D σ H := by
  obtain ⟨m0, i0⟩ := h0
  refine ⟨fun m σ' H' => Ey H H' ∧ I m σ' H', ⟨m0, Ey.refl _, i0⟩, fun m σ' H' ⟨e, i⟩ => ?_⟩
  obtain ⟨b, hb, ht, hf⟩ := hs m σ' H' e i
  refine hb H' (Ex.refl _) _ fun H1 e1 => ?_
  cases b with
  | true =>
    rw [if_pos rfl]
    refine ⟨fun σ3 H3 => Ey H' H3 ∧ ∃ m', m' < m ∧ I m' σ3 H3, fun σ3 H3 ⟨e3, m', hm, i'⟩ => ⟨m', hm, e.trans e3, i'⟩, ?_⟩
    exact ht rfl H1 e1
  | false =>
    rw [if_neg Bool.false_ne_true]
    exact hf rfl H1 e1
/-! ### fields with a part exchanged -/
abbrev withEnds (f : Fld) (e : Str) : Fld := Fld.mk f.low f.high f.step f.base f.off e f.big
abbrev withOff (f : Fld) (o : Str) : Fld := Fld.mk f.low f.high f.step f.base o f.ends f.big
theorem FOk.withEnds {f : Fld} (h : FOk f) {e : Str} (he : e ∈ (["round", "stay", "stop"] : List Str)) : FOk (Sf.withEnds f e) := by
  obtain ⟨l0, lh, h1, s0, s1, b0, b1, off, ends, g0, g1, on⟩ := h
  simp only [List.mem_cons, List.not_mem_nil, or_false] at he
  exact ⟨l0, lh, h1, s0, s1, b0, b1, off, he, g0, g1, on⟩
theorem FOk.withOff {f : Fld} (h : FOk f) {e : Str} (he : e ∈ (["add", "near", "next"] : List Str)) : FOk (Sf.withOff f e) := by
  obtain ⟨l0, lh, h1, s0, s1, b0, b1, off, ends, g0, g1, on⟩ := h
  simp only [List.mem_cons, List.not_mem_nil, or_false] at he
  exact ⟨l0, lh, h1, s0, s1, b0, b1, he, ends, g0, g1, on⟩
theorem FOk.litOff {l h s b g : Int} {o e : Str} (k : FOk (Fld.mk l h s b "next" e g)) (ho : o ∈ (["add", "near", "next"] : List Str)) : FOk (Fld.mk l h s b o e g) := k.withOff ho
theorem FOk.litEnds {l h s b g : Int} {o e : Str} (k : FOk (Fld.mk l h s b o "stop" g)) (he : e ∈ (["round", "stay", "stop"] : List Str)) : FOk (Fld.mk l h s b o e g) := k.withEnds he
theorem FOk.withBoth {f : Fld} (h : FOk f) {o e : Str} (ho : o ∈ (["add", "near", "next"] : List Str)) (he : e ∈ (["round", "stay", "stop"] : List Str)) : FOk (Fld.mk f.low f.high f.step f.base o e f.big) := (h.withOff ho).withEnds he
/-! ### parts of texts and lists -/
section
variable {α β : Type} [Rep α] [Rep β] {K : PySem.W.Frag} {σ : L2.St} {H : Hp} {ta tb te : TE} {tl th : TO} {i : Int} {lo hi : Option Int}
def EO (K : PySem.W.Frag) (tl : TO) (σ : L2.St) (H : Hp) (o : Option Int) : Prop := ∀ H1, Ex H H1 → ∀ Q : Option Int → Hp → Prop, (∀ H2, Ex H1 H2 → Q o H2) → tl σ H1 Q
theorem eo_none : EO K tNoPart σ H none := fun H1 _ _ q => q H1 (Ex.refl _)
theorem eo_some (h : ER K te σ H i) : EO K (tPart te) σ H (some i) := fun H1 e Q q => h H1 e _ fun v H2 e2 r => by
  cases r
  exact ⟨i, rfl, q H2 e2⟩
theorem er_slS {z : Str} (h : ER K te σ H z) (hl : EO K tl σ H lo) (hh : EO K th σ H hi) (hz : z.length ≤ 100000) : ER K (tSl rSlS te tl th) σ H (cutS z lo hi) := fun H1 e Q q => h H1 e _ fun v H2 e2 r => hl H2 (e.trans e2) _ fun H3 e3 => hh H3 ((e.trans e2).trans e3) _ fun H4 e4 => by
  cases r
  exact ⟨z, rfl, sz_of hz, q _ H4 ((e2.trans e3).trans e4) rfl⟩
def cutL (xs : List α) (lo hi : Option Int) : List α := (xs.drop (HT.sIx xs.length 0 lo)).take (HT.sIx xs.length xs.length hi - HT.sIx xs.length 0 lo)
theorem er_ixS {z : Str} {x : Sg} (h : ER K ta σ H z) (h2 : ER K tb σ H i) (hz : z.length ≤ 100000) (hx : atI z.cps.toList i = some x.c) : ER K (tOp rIxS ta tb) σ H x := fun H1 e Q q => h H1 e _ fun v H2 e2 r => h2 H2 (e.trans e2) _ fun w H3 e3 r2 => by
  cases r
  cases r2
  exact ⟨z, i, x.c, rfl, rfl, sz_of hz, hx, q _ H3 (e2.trans e3) rfl⟩
end
/-! ### a choice as a test -/
def tIfT (t ta tb : TT) : TT := fun σ H Q => t σ H fun c H1 => if c = true then ta σ H1 Q else tb σ H1 Q
theorem pt_ifExp {X : Cx} {c a b : Expr} {pos : Pos} {t ta tb : TT} (hc : PT X c t) (ha : PT X a ta) (hb : PT X b tb) : PT X (.IfExp c a b pos) (tIfT t ta tb) := by
  refine ⟨fun pins s σ H Q I h => ?_⟩
  refine PyProof.Rows.isTrue_IfExp (thn (hc.run pins s σ H _ I h) fun d s1 ⟨H1, I1, q1⟩ => ?_)
  cases d with
  | true => exact ha.run pins s1 σ H1 Q I1 q1
  | false => exact hb.run pins s1 σ H1 Q I1 q1
theorem ett_if {K : PySem.W.Frag} {σ : L2.St} {H : Hp} {t ta tb : TT} {a b c : Bool} (h : ET K t σ H a) (h1 : a = true → ET K ta σ H b) (h2 : a = false → ET K tb σ H c) : ET K (tIfT t ta tb) σ H (if a = true then b else c) := fun H1 e Q q => h H1 e _ fun H2 e2 => by
  cases a with
  | true =>
    show ta σ H2 Q
    exact h1 rfl H2 (e.trans e2) Q fun H3 e3 => q H3 (e2.trans e3)
  | false =>
    show tb σ H2 Q
    exact h2 rfl H2 (e.trans e2) Q fun H3 e3 => q H3 (e2.trans e3)
/-! ### len(set(ints)) -/
def dedup (xs : List Int) : List Int := PyProof.Rows.firstMet (fun i => xs.getD i 0) xs.length
def tLenSet2 (K : PySem.W.Frag) (ta : TE) : TE := fun σ H Q => ta σ H fun x H1 => ∃ (l : Addr) (ns : List Int), x = .ref l ∧ SqL K H1 l (ns.map V.int) ∧ ns.length ≤ 4000 ∧ Q (.int ((dedup ns).length : Nat)) H1
theorem pe_lenSet2 {X : Cx} {a : Expr} {ta : TE} {p p2 q pos : Pos} (hg : Gl X "len") (hm : X.mg "len" = none) (hg2 : Gl X "set") (hm2 : X.mg "set" = none) (ha : PE X a ta) (hc : X.calm = true := by rfl)
    (na : starEach [a] X.env = (false, eval a X.env) :: starEach [] X.env := by rfl) : PE X (.Call (.Name "len" p) [.Call (.Name "set" p2) [a] [] q] [] pos) (tLenSet2 X.K ta) := by
  refine ⟨fun pins s σ H Q I h => ?_⟩
  refine Call_ (ld_blt I hg hm boot_len ?_)
  refine PyProof.Rows.callWith_builtin1 (PyProof.Rows.args_cons ?_ rfl) rfl rfl
  refine Call_ (ld_blt I hg2 hm2 boot_set ?_)
  refine PyProof.Rows.callWith_type1 (PyProof.Rows.args_cons (thn (ha.run pins s σ H _ I h) fun v s1 ⟨x, H1, I1, r1, q1⟩ => PyProof.Rows.args_nil ?_) na) na rfl
  obtain ⟨l, ns, rfl, hq, hl, q1⟩ := q1
  cases r1
  obtain ⟨its, r, pl, hz⟩ := I1.list hq
  have hlen : its.toArray.size = ns.length := by rw [List.size_toArray, ← r.length, List.length_map]
  refine call_set_list (I1.ok.hd hc) pl.isList (by simpa using RZ.intsAre_vals r) (by rw [hlen]; unfold scanBound; omega) fun h' tk hS hk => ?_
  refine PyProof.Rows.args_nil ?_
  rw [hlen] at hS
  have hle := PyProof.Rows.firstMet_length_le (fun i => ns.getD i 0) ns.length
  obtain ⟨o, es, ep, t, ho, hex, hd, _, _, _, hf, hn⟩ := hS
  have I2 : Inv X pins σ H1 { s1 with heap := h', toks := tk } := I1.kept fun b o e => hk b o (Heap.lt_size e) e
  exact call_len_set ho hex hd hf (by rw [hn] <;> omega) ⟨.int ((dedup ns).length : Nat), H1, I2.tok _, ⟨_, by rw [hn]; rfl⟩, q1⟩
theorem er_lenSet {K : PySem.W.Frag} {σ : L2.St} {H : Hp} {ta : TE} {xs : List Int} (h : ER K ta σ H xs) (hl : xs.length ≤ 4000) : ER K (tLenSet2 K ta) σ H ((dedup xs).length : Int) := fun H1 e Q q => h H1 e _ fun v H2 e2 ⟨a, vs, hv, hs, hr⟩ => by
  have hi := rels_ints hr
  subst hi
  exact ⟨a, xs, hv, sq_of hs, hl, q _ H2 e2 rfl⟩
theorem dedup3 {a b c : Int} : (dedup [a, b, c]).length = 1 ↔ a = b ∧ b = c := by
  have e : dedup [a, b, c] = PyProof.Rows.step_dedup (PyProof.Rows.step_dedup [a] b) c := rfl
  rw [e]
  unfold PyProof.Rows.step_dedup
  by_cases h1 : a = b
  · subst h1
    by_cases h2 : a = c
    · subst h2
      simp
    · simp [h2]
  · simp [h1]
    split <;> simp
end Sf

namespace Sf
open PySem PySem.Spec PyProof.Rows L2 Evl
abbrev isUp (c : Nat) : Prop := c = 117 ∨ c = 85
theorem mem_uU {c : Nat} : c ∈ ("uU" : Str).cps.toList ↔ isUp c := by
  have e : ("uU" : Str).cps.toList = [117, 85] := by decide
  rw [e]
  simp only [List.mem_cons, List.not_mem_nil, or_false]
theorem mem_UD {c : Nat} : c ∈ ("UD" : Str).cps.toList ↔ c = 85 ∨ c = 68 := by
  have e : ("UD" : Str).cps.toList = [85, 68] := by decide
  rw [e]
  simp only [List.mem_cons, List.not_mem_nil, or_false]
theorem mem_he {c : Nat} : c ∈ ("he" : Str).cps.toList ↔ c = 104 ∨ c = 101 := by
  have e : ("he" : Str).cps.toList = [104, 101] := by decide
  rw [e]
  simp only [List.mem_cons, List.not_mem_nil, or_false]
theorem sgs_moves {s : Sg} : s ∈ sgs "udUD" ↔ isMove s.c := by
  rw [← sg_moves]
  unfold sgs
  simp only [List.mem_map]
  constructor
  · rintro ⟨c, hc, rfl⟩
    exact hc
  · intro h
    exact ⟨s.c, h, rfl⟩
theorem sgs_keys {s : Sg} : s ∈ sgs "udUDhe" ↔ isKey s.c := by
  rw [← keys_mem]
  unfold sgs
  simp only [List.mem_map]
  constructor
  · rintro ⟨c, hc, rfl⟩
    exact hc
  · intro h
    exact ⟨s.c, h, rfl⟩
theorem move_key {c : Nat} (h : isMove c) : isKey c := by
  rcases h with z | z | z | z
  · exact .inl z
  · exact .inr (.inl z)
  · exact .inr (.inr (.inl z))
  · exact .inr (.inr (.inr (.inl z)))
theorem row1 {c : Nat} (h : isKey c) : rowOk (⟨#[c]⟩ : Str) := by
  refine ⟨by show (1 : Nat) ≤ 40; decide, fun d hd => ?_⟩
  have h1 : d ∈ [c] := hd
  rw [List.mem_singleton.mp h1]
  exact h
theorem mul_ge {m s k : Int} (hs : 1 ≤ s) (h : k ≤ m) : k * s ≤ m * s := Int.mul_le_mul_of_nonneg_right h (by omega)
/-- where a key aims: up -/
theorem aim_up {f : Fld} {v m : Int} (hs : 1 ≤ f.step) (hm : 1 ≤ m) : v < aimOf f v m ∧ aimOf f v m ≤ v + m * f.step + f.step := by
  have h1 := mul_ge hs hm
  unfold aimOf
  split
  · omega
  · split
    · rw [Int.add_mul]
      have a := div_le (x := 2 * (v - f.base) + f.step) (y := 2 * f.step) (by omega)
      rw [Int.mul_left_comm] at a
      omega
    · rw [if_pos (by omega), Int.add_mul]
      have a := div_le (x := v - f.base) (y := f.step) (by omega)
      omega
theorem aim_dn {f : Fld} {v m : Int} (hs : 1 ≤ f.step) (hm : m ≤ -1) : aimOf f v m < v ∧ v + m * f.step - f.step ≤ aimOf f v m := by
  have h1 := mul_ge hs hm
  unfold aimOf
  split
  · omega
  · split
    · rw [Int.add_mul]
      have a := div_le (x := 2 * (v - f.base) + f.step) (y := 2 * f.step) (by omega)
      rw [Int.mul_left_comm] at a
      omega
    · rw [if_neg (by omega), Int.add_mul, Int.neg_mul]
      have a := div_le (x := f.base - v) (y := f.step) (by omega)
      omega
theorem many_up {f : Fld} {c : Nat} (hb : 2 ≤ f.big) (h : isUp c) : 1 ≤ manySteps f c ∧ manySteps f c ≤ f.big := by
  unfold manySteps
  rcases h with z | z <;> subst z <;> simp <;> omega
theorem many_dn {f : Fld} {c : Nat} (hb : 2 ≤ f.big) (hm : isMove c) (h : ¬ isUp c) : manySteps f c ≤ -1 ∧ -f.big ≤ manySteps f c := by
  unfold manySteps
  rcases hm with z | z | z | z <;> subst z <;> simp at h ⊢ <;> omega
/-- a key behind which a value lies: the three ways -/
theorem press_ways {f : Fld} {v : Int} {c : Nat} (hs : 1 ≤ f.step) (hb : 2 ≤ f.big) (hv : f.low ≤ v ∧ v ≤ f.high) (hm : isMove c) :
    (f.low ≤ aimOf f v (manySteps f c) ∧ aimOf f v (manySteps f c) ≤ f.high ∧ pressKey f v c = aimOf f v (manySteps f c)) ∨
    (isUp c ∧ f.high < aimOf f v (manySteps f c) ∧ pressKey f v c = if f.ends = "stay" then v else if f.ends = "round" then f.low else f.high) ∨
    (¬ isUp c ∧ aimOf f v (manySteps f c) < f.low ∧ pressKey f v c = if f.ends = "stay" then v else if f.ends = "round" then f.high else f.low) := by
  rw [pressKey_move hm]
  by_cases h : isUp c
  · have a := aim_up (v := v) hs (many_up hb h).1
    by_cases z : f.low ≤ aimOf f v (manySteps f c) ∧ aimOf f v (manySteps f c) ≤ f.high
    · rw [if_pos z]
      exact .inl ⟨z.1, z.2, rfl⟩
    · have y : aimOf f v (manySteps f c) > f.high := by omega
      rw [if_neg z, if_pos y, if_pos y]
      exact .inr (.inl ⟨h, y, rfl⟩)
  · have a := aim_dn (v := v) hs (many_dn hb hm h).1
    by_cases z : f.low ≤ aimOf f v (manySteps f c) ∧ aimOf f v (manySteps f c) ≤ f.high
    · rw [if_pos z]
      exact .inl ⟨z.1, z.2, rfl⟩
    · have y : ¬ aimOf f v (manySteps f c) > f.high := by omega
      rw [if_neg z, if_neg y, if_neg y]
      exact .inr (.inr ⟨h, by omega, rfl⟩)
theorem aim_far {f : Fld} {v : Int} {c : Nat} (hs : 1 ≤ f.step) (hb : 2 ≤ f.big) (hm : isMove c) :
    (isUp c → v < aimOf f v (manySteps f c) ∧ aimOf f v (manySteps f c) ≤ v + f.step * (f.big + 1)) ∧ (¬ isUp c → aimOf f v (manySteps f c) < v ∧ v - f.step * (f.big + 1) ≤ aimOf f v (manySteps f c)) := by
  have e : f.step * (f.big + 1) = f.big * f.step + f.step := by rw [Int.mul_add, Int.mul_one, Int.mul_comm]
  constructor
  · intro h
    have a := aim_up (v := v) hs (many_up hb h).1
    have b := mul_ge hs (many_up hb h).2
    omega
  · intro h
    have a := aim_dn (v := v) hs (many_dn hb hm h).1
    have b := mul_ge hs (many_dn hb hm h).2
    rw [Int.neg_mul] at b
    omega
theorem pressRow1 {f : Fld} {v : Int} {c : Nat} : pressRow f v (⟨#[c]⟩ : Str).cps.toList = pressKey f v c := rfl
theorem atI_nat {α : Type} {xs : List α} {i : Nat} {x : α} (h : xs[i]? = some x) : atI xs (i : Int) = some x := by
  have hl : i < xs.length := (List.getElem?_eq_some_iff.mp h).1
  unfold atI
  rw [show L2.ixN xs.length (i : Int) = some i by
    unfold L2.ixN
    rw [if_pos (by omega), if_pos (by omega)]
    simp]
  exact h
theorem atI_zero {α : Type} {x : α} {r : List α} : atI (x :: r) 0 = some x := atI_nat (i := 0) rfl
theorem pressRow1' {f : Fld} {v : Int} {c : Nat} : pressRow f v [c] = pressKey f v c := rfl
theorem pressRow_in {f : Fld} (hf : FL f) : ∀ {r : List Nat} {v : Int}, (f.low ≤ v ∧ v ≤ f.high) → (∀ c ∈ r, isKey c) → f.low ≤ pressRow f v r ∧ pressRow f v r ≤ f.high
  | [], v, hv, _ => hv
  | c :: r, v, hv, h => pressRow_in hf (r := r) (pressKey_in hf hv (h c (List.mem_cons_self ..))) fun d hd => h d (List.mem_cons_of_mem _ hd)
theorem catL {x y : Str} : (x ++ y).cps.toList = x.cps.toList ++ y.cps.toList := by
  show (x.cps ++ y.cps).toList = _
  simp
theorem lenL {x : Str} : x.length = x.cps.toList.length := by
  show x.cps.size = _
  simp
theorem cut1 {z : Str} {c : Nat} {r : List Nat} (h : z.cps.toList = c :: r) : cutS z none (some 1) = ⟨#[c]⟩ := by
  unfold cutS
  have hl : z.length = r.length + 1 := by rw [lenL, h]; rfl
  rw [h, hl]
  show (⟨(((c :: r).drop 0).take (HT.sIx (r.length + 1) (r.length + 1) (some 1) - 0)).toArray⟩ : Str) = _
  have e : HT.sIx (r.length + 1) (r.length + 1) (some 1) = 1 := by
    unfold HT.sIx
    simp
  rw [e]
  rfl
/-- no: for tests that are false -/
theorem no_of {b : Bool} (h : ¬ b = true) : b = false := by
  cases b
  · rfl
  · exact absurd rfl h
end Sf

namespace Sf
open PySem PySem.Spec PyProof.Rows L2 Evl

/-! ### a op1 b op2 c op3 d -/
def tChain3 (r r' r'' : R2) (ta tb tc td : TE) : TE := fun σ H Q => ta σ H fun x H1 => tb σ H1 fun y H2 => r x y H2 fun z H3 => ∃ k, z = .bl k ∧
  (if k = true then tc σ H3 fun w' H4 => r' y w' H4 fun z2 H5 => ∃ k2, z2 = .bl k2 ∧ (if k2 = true then td σ H5 fun u' H6 => r'' w' u' H6 Q else Q (.bl false) H5) else Q (.bl false) H3)
theorem pe_chain3 {X : Cx} {a b c d : Expr} {pos : Pos} {ta tb tc td : TE} {op op' op'' : CmpOp} {r r' r'' : R2} (ho : OpR X (compareOp op) r) (ho' : OpR X (compareOp op') r') (ho'' : OpR X (compareOp op'') r'') (ha : PE X a ta) (hb : PE X b tb) (hc : PE X c tc) (hd : PE X d td)
    (hm : lastMarks [op, op', op''] [b, c, d] = false := by with_unfolding_all rfl) : PE X (.Compare a [op, op', op''] [b, c, d] pos) (tChain3 r r' r'' ta tb tc td) := by
  refine ⟨fun pins s σ H Q I h => ?_⟩
  refine Compare_chain (thn (ha.run pins s σ H _ I h) fun v s1 ⟨x, H1, I1, r1, q1⟩ => chain_link (thn (hb.run pins s1 σ H1 _ I1 q1) fun u s2 ⟨y, H2, I2, r2, q2⟩ =>
    thn (ho pins s2 σ H2 x y v u _ I2 r1 r2 q2) fun d s3 ⟨z, H3, I3, r3, k, e, q3⟩ => ?_)) hm
  subst e
  cases r3
  refine wpAny_truthy_bool ?_
  cases k with
  | false => exact ite_ff ⟨.bl false, H3, I3, rfl, q3⟩
  | true =>
    refine ite_tt (chain_link (thn (hc.run pins s3 σ H3 _ I3 q3) fun w' s4 ⟨z', H4, I4, r4, q4⟩ => thn (ho' pins s4 σ H4 y z' u w' _ I4 r2 r4 q4) fun d' s5 ⟨z2, H5, I5, r5, k2, e2, q5⟩ => ?_))
    subst e2
    cases r5
    refine wpAny_truthy_bool ?_
    cases k2 with
    | false => exact ite_ff ⟨.bl false, H5, I5, rfl, q5⟩
    | true => exact ite_tt (chain_last (thn (hd.run pins s5 σ H5 _ I5 q5) fun w2 s6 ⟨z3, H6, I6, r6, q6⟩ => ho'' pins s6 σ H6 z' z3 w' w2 Q I6 r4 r6 q6))
theorem pt_chain3 {X : Cx} {a b c d : Expr} {pos : Pos} {ta tb tc td : TE} {op op' op'' : CmpOp} {r r' r'' : R2} (ho : OpR X (compareOp op) r) (ho' : OpR X (compareOp op') r') (ho'' : OpR X (compareOp op'') r'') (ha : PE X a ta) (hb : PE X b tb) (hc : PE X c tc) (hd : PE X d td)
    (hm : lastMarks [op, op', op''] [b, c, d] = false := by with_unfolding_all rfl) : PT X (.Compare a [op, op', op''] [b, c, d] pos) (tTest (tChain3 r r' r'' ta tb tc td)) := by
  refine ⟨fun pins s σ H Q I h => ?_⟩
  refine isTrue_chain (thn (ha.run pins s σ H _ I h) fun v s1 ⟨x, H1, I1, r1, q1⟩ => test_link (thn (hb.run pins s1 σ H1 _ I1 q1) fun u s2 ⟨y, H2, I2, r2, q2⟩ =>
    thn (ho pins s2 σ H2 x y v u _ I2 r1 r2 q2) fun d s3 ⟨z, H3, I3, r3, k, e, q3⟩ => ?_)) hm
  subst e
  cases r3
  refine wpAny_truthy_bool ?_
  cases k with
  | false =>
    obtain ⟨k', e', q'⟩ := q3
    cases e'
    exact ite_ff ⟨H3, I3, q'⟩
  | true =>
    refine ite_tt (test_link (thn (hc.run pins s3 σ H3 _ I3 q3) fun w' s4 ⟨z', H4, I4, r4, q4⟩ => thn (ho' pins s4 σ H4 y z' u w' _ I4 r2 r4 q4) fun d' s5 ⟨z2, H5, I5, r5, k2, e2, q5⟩ => ?_))
    subst e2
    cases r5
    refine wpAny_truthy_bool ?_
    cases k2 with
    | false =>
      obtain ⟨k', e', q'⟩ := q5
      cases e'
      exact ite_ff ⟨H5, I5, q'⟩
    | true =>
      refine ite_tt (test_last (thn (hd.run pins s5 σ H5 _ I5 q5) fun w2 s6 ⟨z3, H6, I6, r6, q6⟩ => thn (ho'' pins s6 σ H6 z' z3 w' w2 _ I6 r4 r6 q6) fun d2 s7 ⟨z4, H7, I7, r7, k3, e3, q7⟩ => ?_))
      subst e3
      cases r7
      exact wpAny_truthy_bool ⟨H7, I7, q7⟩
section
variable {α β γ : Type} [Rep α] [Rep β] [Rep γ] {K : PySem.W.Frag} {σ σ' : L2.St} {H H' : Hp} {te tl ta tb tc td ts : TE} {tA : TA} {tt : TT} {u t1 t2 : TS} {D : Ends} {i j : Int} {a b : Bool}
theorem er_chain3 {r1 r2 r3 : Int → Int → Bool} {k l : Int} (ha : ER K ta σ H i) (hb : ER K tb σ H j) (hc : ER K tc σ H k) (hd : ER K td σ H l) : ER K (tChain3 (rI0 fun i j => .bl (r1 i j)) (rI0 fun i j => .bl (r2 i j)) (rI0 fun i j => .bl (r3 i j)) ta tb tc td) σ H (r1 i j && (r2 j k && r3 k l)) := fun H1 e Q q =>
  ha H1 e _ fun v1 H2 e2 q1 => hb H2 (e.trans e2) _ fun v2 H3 e3 q2 => by
    cases q1
    cases q2
    refine ⟨i, j, rfl, rfl, r1 i j, rfl, ?_⟩
    cases h : r1 i j with
    | false =>
      rw [if_neg Bool.false_ne_true]
      exact q _ H3 (e2.trans e3) (by rw [h]; rfl)
    | true =>
      rw [if_pos rfl]
      exact hc H3 ((e.trans e2).trans e3) _ fun v3 H4 e4 q3 => by
        cases q3
        refine ⟨j, k, rfl, rfl, r2 j k, rfl, ?_⟩
        cases h2 : r2 j k with
        | false =>
          rw [if_neg Bool.false_ne_true]
          exact q _ H4 ((e2.trans e3).trans e4) (by rw [h, h2]; rfl)
        | true =>
          rw [if_pos rfl]
          exact hd H4 (((e.trans e2).trans e3).trans e4) _ fun v4 H5 e5 q4 => by
            cases q4
            exact ⟨k, l, rfl, rfl, q _ H5 (((e2.trans e3).trans e4).trans e5) (by rw [h, h2]; rfl)⟩
/-! ### None, or not -/
theorem non_ne {v : V} : V.bl (decide (v = .non)) = V.bl (decide (v = .non)) := rfl
class NN (α : Type) [Rep α] : Prop where
  nn : ∀ {K : PySem.W.Frag} {H : Hp} {v : V} {x : α}, Rep.rel K H v x → v ≠ .non
instance : NN Int := ⟨fun h z => by cases h; cases z⟩
instance : NN Str := ⟨fun h z => by cases h; cases z⟩
instance : NN (α × β) := ⟨fun ⟨_, _, _, h, _⟩ z => by rw [h] at z; cases z⟩
instance : NN (Tri α β γ) := ⟨fun ⟨_, _, _, _, h, _⟩ z => by rw [h] at z; cases z⟩
instance : NN (List α) := ⟨fun ⟨_, _, h, _⟩ z => by rw [h] at z; cases z⟩
instance : NN (Tpl α) := ⟨fun ⟨_, _, h, _⟩ z => by rw [h] at z; cases z⟩
instance : NN Fld := ⟨fun ⟨_, h, _⟩ z => by rw [h] at z; cases z⟩
theorem er_isNone [NN α] {x : Option α} (h : ER K ta σ H x) : ER K (tOp rIsN ta (tC .non)) σ H x.isNone := fun H1 e Q q => h H1 e _ fun v H2 e2 r => by
  cases x with
  | none =>
    have hv : v = .non := r
    subst hv
    exact ⟨rfl, q _ H2 e2 rfl⟩
  | some y =>
    have hn := NN.nn (x := y) r
    exact ⟨rfl, q _ H2 e2 (by rw [decide_eq_false hn]; rfl)⟩
theorem er_isNNone [NN α] {x : Option α} (h : ER K ta σ H x) : ER K (tOp rNotN ta (tC .non)) σ H (!x.isNone) := fun H1 e Q q => h H1 e _ fun v H2 e2 r => by
  cases x with
  | none =>
    have hv : v = .non := r
    subst hv
    exact ⟨rfl, q _ H2 e2 rfl⟩
  | some y =>
    have hn := NN.nn (x := y) r
    exact ⟨rfl, q _ H2 e2 (by rw [decide_eq_false hn]; rfl)⟩
theorem er_get {x : Option α} {y : α} (h : ER K ta σ H x) (e : x = some y) : ER K ta σ H y := by
  subst e
  exact h
theorem er_t0 {x : Tri α β γ} (ha : ER K ta σ H x) : ER K (tOp (rIxT K) ta (tC (.int 0))) σ H x.a := fun H1 e Q q =>
  ha H1 e _ fun v H2 e2 ⟨p, v1, v2, v3, hv, hs, r1, r2, r3⟩ => ⟨p, [v1, v2, v3], 0, v1, hv, rfl, hs, rfl, q v1 H2 e2 r1⟩
theorem er_t1 {x : Tri α β γ} (ha : ER K ta σ H x) : ER K (tOp (rIxT K) ta (tC (.int 1))) σ H x.b := fun H1 e Q q =>
  ha H1 e _ fun v H2 e2 ⟨p, v1, v2, v3, hv, hs, r1, r2, r3⟩ => ⟨p, [v1, v2, v3], 1, v2, hv, rfl, hs, rfl, q v2 H2 e2 r2⟩
theorem er_t2 {x : Tri α β γ} (ha : ER K ta σ H x) : ER K (tOp (rIxT K) ta (tC (.int 2))) σ H x.c := fun H1 e Q q =>
  ha H1 e _ fun v H2 e2 ⟨p, v1, v2, v3, hv, hs, r1, r2, r3⟩ => ⟨p, [v1, v2, v3], 2, v3, hv, rfl, hs, rfl, q v3 H2 e2 r3⟩
theorem er_inLS {s : Str} {xs : List Str} (ha : ER K ta σ H s) (hb : ER K tb σ H xs) : ER K (tOp (rIn K false) ta tb) σ H (decide (s ∈ xs)) := fun H1 e Q q =>
  ha H1 e _ fun v H2 e2 r => hb H2 (e.trans e2) _ fun w H3 e3 ⟨p, vs, hw, hs, hr⟩ => by
    cases r
    have h1 := rels_strs hr
    subst h1
    exact ⟨p, _, hw, .inl (sq_of hs), rfl, flat_strs, q _ H3 (e2.trans e3) (by rw [if_neg Bool.false_ne_true, in_strs]; rfl)⟩
theorem er_ninLS {s : Str} {xs : List Str} (ha : ER K ta σ H s) (hb : ER K tb σ H xs) : ER K (tOp (rIn K true) ta tb) σ H (!decide (s ∈ xs)) := fun H1 e Q q =>
  ha H1 e _ fun v H2 e2 r => hb H2 (e.trans e2) _ fun w H3 e3 ⟨p, vs, hw, hs, hr⟩ => by
    cases r
    have h1 := rels_strs hr
    subst h1
    exact ⟨p, _, hw, .inl (sq_of hs), rfl, flat_strs, q _ H3 (e2.trans e3) (by rw [if_pos rfl, in_strs]; rfl)⟩
/-- a drawn test -/
theorem etn_any (h : EN K te σ H (fun _ : Bool => True)) : ETN K (tTest te) σ H (fun _ => True) := etn_t h
/-- a triple in the target -/
theorem g_tri {v : V} {x : Tri α β γ} {g : TGs} {Q : L2.St → Hp → Prop} (r : Rep.rel K H v x) (k : ∀ v1 v2 v3, Rep.rel K H v1 x.a → Rep.rel K H v2 x.b → Rep.rel K H v3 x.c → g [v1, v2, v3] σ H Q) : gTup K 3 g v σ H Q := by
  obtain ⟨a, v1, v2, v3, hv, hs, r1, r2, r3⟩ := r
  exact ⟨a, [v1, v2, v3], hv, hs, rfl, k v1 v2 v3 r1 r2 r3⟩
/-- is True, is False -/
abbrev rIsB : R2 := fun x y H Q => ∃ a b, x = .bl a ∧ y = .bl b ∧ Q (.bl (decide (a = b))) H
abbrev rIsNB : R2 := fun x y H Q => ∃ a b, x = .bl a ∧ y = .bl b ∧ Q (.bl (!decide (a = b))) H
theorem er_isB (ha : ER K ta σ H a) (hb : ER K tb σ H b) : ER K (tOp rIsB ta tb) σ H (decide (a = b)) := er_BB ha hb fun H1 Q q => ⟨a, b, rfl, rfl, q _ rfl⟩
theorem er_isNB (ha : ER K ta σ H a) (hb : ER K tb σ H b) : ER K (tOp rIsNB ta tb) σ H (!decide (a = b)) := er_BB ha hb fun H1 Q q => ⟨a, b, rfl, rfl, q _ rfl⟩
end
/-! ### defs of five and six -/
section
variable {α β γ ε ζ δ : Type} [Rep α] [Rep β] [Rep γ] [Rep ε] [Rep ζ] [Rep δ]
def sp5 (K : PySem.W.Frag) (pre : α → β → γ → ε → ζ → Prop) (g : α → β → γ → ε → ζ → δ) : Sp := fun vs H Q _ => ∃ x y z u x5 a b c d a5, vs = [x, y, z, u, x5] ∧ Rep.rel K H x a ∧ Rep.rel K H y b ∧ Rep.rel K H z c ∧ Rep.rel K H u d ∧ Rep.rel K H x5 a5 ∧ pre a b c d a5 ∧ ∀ v H', Ex H H' → Rep.rel K H' v (g a b c d a5) → Q v H'
variable {K : PySem.W.Frag} {σ : L2.St} {H : Hp} {ta tb tc td t5 : TE} {E : XK} {a : α} {b : β} {c : γ} {d : ε} {a5 : ζ}
theorem er_call5 {pre : α → β → γ → ε → ζ → Prop} {g : α → β → γ → ε → ζ → δ} (h0 : ER K ta σ H a) (h1 : ER K tb σ H b) (h2 : ER K tc σ H c) (h3 : ER K td σ H d) (h4 : ER K t5 σ H a5) (hp : pre a b c d a5) : ER K (tCall (sp5 K pre g) [] E (tCons ta (tCons tb (tCons tc (tCons td (tCons t5 tNil)))))) σ H (g a b c d a5) := fun H1 e Q q =>
  h0 H1 e _ fun v0 H2 e2 r0 => h1 H2 (e.trans e2) _ fun v1 H3 e3 r1 => h2 H3 ((e.trans e2).trans e3) _ fun v2 H4 e4 r2 => h3 H4 (((e.trans e2).trans e3).trans e4) _ fun v3 H5 e5 r3 => h4 H5 ((((e.trans e2).trans e3).trans e4).trans e5) _ fun v4 H6 e6 r4 => 
    ⟨v0, v1, v2, v3, v4, a, b, c, d, a5, rfl, Rep.mono (((e3.trans e4).trans e5).trans e6) r0, Rep.mono ((e4.trans e5).trans e6) r1, Rep.mono (e5.trans e6) r2, Rep.mono e6 r3, r4, hp, fun v H' e' r => q v H' (((((e2.trans e3).trans e4).trans e5).trans e6).trans e') r⟩
variable {P : Program} {w : World} {mg : Str → Option Value} {base : Heap} {xn qual : Str} {params : Arguments} {body : List Stmt} {scope : Scope} {dvs : List V} {kws : List (Str × V)} {f : Addr} {fd : FuncData} {N ps : List Str} {k : Nat} {CX : CXT}
theorem ok5 {pre : α → β → γ → ε → ζ → Prop} {g : α → β → γ → ε → ζ → δ} (F : FunD K xn qual params body scope dvs kws f fd) (S : FnScope N ps scope) (hl : ps.length = 5) (σ0 : V → V → V → V → V → L2.St) (h0 : ∀ x y z u x5, start N [x, y, z, u, x5] = σ0 x y z u x5)
    (h : ∀ (H : Hp) (Q : VK) (x y z u x5 : V) (a : α) (b : β) (c : γ) (d : ε) (a5 : ζ), Rep.rel K H x a → Rep.rel K H y b → Rep.rel K H z c → Rep.rel K H u d → Rep.rel K H x5 a5 → pre a b c d a5 → (∀ v H', Ex H H' → Rep.rel K H' v (g a b c d a5) → Q v H') → Body CX P w K mg base k f N qual scope body H Q (σ0 x y z u x5)) : FnOk P w K mg base CX (k + 1) f fd ps (sp5 K pre g) := by
  refine F.ok S (fun vs H Q E hs => ?_) (fun cdv A outer s H vs Q E hr hs => ?_)
  · obtain ⟨x, y, z, u, x5, a, b, c, d, a5, rfl, _⟩ := hs
    exact hl.symm
  · obtain ⟨x, y, z, u, x5, a, b, c, d, a5, rfl, k0, k1, k2, k3, k4, hp, q⟩ := hs
    rw [h0]
    exact h H Q x y z u x5 a b c d a5 k0 k1 k2 k3 k4 hp q cdv A outer s E hr
end
section
variable {α β γ ε ζ η δ : Type} [Rep α] [Rep β] [Rep γ] [Rep ε] [Rep ζ] [Rep η] [Rep δ]
def sp6 (K : PySem.W.Frag) (pre : α → β → γ → ε → ζ → η → Prop) (g : α → β → γ → ε → ζ → η → δ) : Sp := fun vs H Q _ => ∃ x y z u x5 x6 a b c d a5 a6, vs = [x, y, z, u, x5, x6] ∧ Rep.rel K H x a ∧ Rep.rel K H y b ∧ Rep.rel K H z c ∧ Rep.rel K H u d ∧ Rep.rel K H x5 a5 ∧ Rep.rel K H x6 a6 ∧ pre a b c d a5 a6 ∧ ∀ v H', Ex H H' → Rep.rel K H' v (g a b c d a5 a6) → Q v H'
variable {K : PySem.W.Frag} {σ : L2.St} {H : Hp} {ta tb tc td t5 t6 : TE} {E : XK} {a : α} {b : β} {c : γ} {d : ε} {a5 : ζ} {a6 : η}
theorem er_call6 {pre : α → β → γ → ε → ζ → η → Prop} {g : α → β → γ → ε → ζ → η → δ} (h0 : ER K ta σ H a) (h1 : ER K tb σ H b) (h2 : ER K tc σ H c) (h3 : ER K td σ H d) (h4 : ER K t5 σ H a5) (h5 : ER K t6 σ H a6) (hp : pre a b c d a5 a6) : ER K (tCall (sp6 K pre g) [] E (tCons ta (tCons tb (tCons tc (tCons td (tCons t5 (tCons t6 tNil))))))) σ H (g a b c d a5 a6) := fun H1 e Q q =>
  h0 H1 e _ fun v0 H2 e2 r0 => h1 H2 (e.trans e2) _ fun v1 H3 e3 r1 => h2 H3 ((e.trans e2).trans e3) _ fun v2 H4 e4 r2 => h3 H4 (((e.trans e2).trans e3).trans e4) _ fun v3 H5 e5 r3 => h4 H5 ((((e.trans e2).trans e3).trans e4).trans e5) _ fun v4 H6 e6 r4 => h5 H6 (((((e.trans e2).trans e3).trans e4).trans e5).trans e6) _ fun v5 H7 e7 r5 => 
    ⟨v0, v1, v2, v3, v4, v5, a, b, c, d, a5, a6, rfl, Rep.mono ((((e3.trans e4).trans e5).trans e6).trans e7) r0, Rep.mono (((e4.trans e5).trans e6).trans e7) r1, Rep.mono ((e5.trans e6).trans e7) r2, Rep.mono (e6.trans e7) r3, Rep.mono e7 r4, r5, hp, fun v H' e' r => q v H' ((((((e2.trans e3).trans e4).trans e5).trans e6).trans e7).trans e') r⟩
variable {P : Program} {w : World} {mg : Str → Option Value} {base : Heap} {xn qual : Str} {params : Arguments} {body : List Stmt} {scope : Scope} {dvs : List V} {kws : List (Str × V)} {f : Addr} {fd : FuncData} {N ps : List Str} {k : Nat} {CX : CXT}
theorem ok6 {pre : α → β → γ → ε → ζ → η → Prop} {g : α → β → γ → ε → ζ → η → δ} (F : FunD K xn qual params body scope dvs kws f fd) (S : FnScope N ps scope) (hl : ps.length = 6) (σ0 : V → V → V → V → V → V → L2.St) (h0 : ∀ x y z u x5 x6, start N [x, y, z, u, x5, x6] = σ0 x y z u x5 x6)
    (h : ∀ (H : Hp) (Q : VK) (x y z u x5 x6 : V) (a : α) (b : β) (c : γ) (d : ε) (a5 : ζ) (a6 : η), Rep.rel K H x a → Rep.rel K H y b → Rep.rel K H z c → Rep.rel K H u d → Rep.rel K H x5 a5 → Rep.rel K H x6 a6 → pre a b c d a5 a6 → (∀ v H', Ex H H' → Rep.rel K H' v (g a b c d a5 a6) → Q v H') → Body CX P w K mg base k f N qual scope body H Q (σ0 x y z u x5 x6)) : FnOk P w K mg base CX (k + 1) f fd ps (sp6 K pre g) := by
  refine F.ok S (fun vs H Q E hs => ?_) (fun cdv A outer s H vs Q E hr hs => ?_)
  · obtain ⟨x, y, z, u, x5, x6, a, b, c, d, a5, a6, rfl, _⟩ := hs
    exact hl.symm
  · obtain ⟨x, y, z, u, x5, x6, a, b, c, d, a5, a6, rfl, k0, k1, k2, k3, k4, k5, hp, q⟩ := hs
    rw [h0]
    exact h H Q x y z u x5 x6 a b c d a5 a6 k0 k1 k2 k3 k4 k5 hp q cdv A outer s E hr
end
/-! ### a def with three parameters and a star -/
def tCallR (sp : Sp) (E : XK) (t : TA) : TE := fun σ H Q => t σ H fun vs H1 => sp vs H1 Q E
theorem pe_callR {X : Cx} {CX : CXT} {k : Nat} {f : Addr} {sp : Sp} {E : XK} {x : Str} {p pos : Pos} {e : Expr} {es : List Expr} {t : TA} (F : FnR X.prog X.w X.K X.mg X.base CX k f sp) (hr : Room k X.A) (hg : Gl X x) (hm : X.mg x = some (.ref f)) (hk : PySem.W.keepIn X.K (.ref f) = true) (hx : Passes CX X E)
    (ha : PA X (e :: es) t) (hdb : (x == ("__debug__" : Str)) = false := by decide) (he : starEach (e :: es) X.env = (false, eval e X.env) :: starEach es X.env := by rfl) (hpl : (backTo pos (starEach es X.env)).any (·.1) = false := by rfl) :
    PE X (.Call (.Name x p) (e :: es) [] pos) (tCallR sp E t) := by
  refine ⟨fun pins s σ H Q I h => ?_⟩
  refine wpAny_Call_Name_kw (ld_glob I hg hm ?_ hdb)
  refine PySem.W.callWith_K (h₀ := X.base) I.ok.mod.kin hk (thn (ha.run pos pins s σ H _ I h) fun us s1 ⟨vs, H1, I1, r, q⟩ => ⟨I1.kIn, ?_⟩) he hpl
  exact wpAny_call (run_fnR F hr hx I1 r q)
section
variable {α β γ ε δ : Type} [Rep α] [Rep β] [Rep γ] [Rep ε] [Rep δ]
def spV3 (K : PySem.W.Frag) (pre : α → β → γ → List ε → Prop) (g : α → β → γ → List ε → δ) : Sp := fun vs H Q _ => ∃ x y z us a b c ds, vs = x :: y :: z :: us ∧ Rep.rel K H x a ∧ Rep.rel K H y b ∧ Rep.rel K H z c ∧ rels K H us ds ∧ ds.length ≤ 1000 ∧ pre a b c ds ∧ ∀ v H', Ex H H' → Rep.rel K H' v (g a b c ds) → Q v H'
variable {K : PySem.W.Frag} {σ : L2.St} {H : Hp} {ta tb tc : TE} {tA : TA} {E : XK} {a : α} {b : β} {c : γ} {ds : List ε}
theorem er_callV3 {pre : α → β → γ → List ε → Prop} {g : α → β → γ → List ε → δ} (ha : ER K ta σ H a) (hb : ER K tb σ H b) (hc : ER K tc σ H c) (hA : EAs K tA σ H ds) (hl : ds.length ≤ 1000) (hp : pre a b c ds) :
    ER K (tCallR (spV3 K pre g) E (tCons ta (tCons tb (tCons tc tA)))) σ H (g a b c ds) := fun H1 e Q q =>
  ha H1 e _ fun v1 H2 e2 r1 => hb H2 (e.trans e2) _ fun v2 H3 e3 r2 => hc H3 ((e.trans e2).trans e3) _ fun v3 H4 e4 r3 => hA H4 (((e.trans e2).trans e3).trans e4) _ fun us H5 e5 rs =>
    ⟨v1, v2, v3, us, a, b, c, ds, rfl, Rep.mono ((e3.trans e4).trans e5) r1, Rep.mono (e4.trans e5) r2, Rep.mono e5 r3, rs, hl, hp, fun v H' e' r => q v H' ((((e2.trans e3).trans e4).trans e5).trans e') r⟩
variable {P : Program} {w : World} {mg : Str → Option Value} {base : Heap} {xn qual : Str} {params : Arguments} {body : List Stmt} {scope : Scope} {f : Addr} {fd : FuncData} {N : List Str} {k : Nat} {p1 p2 p3 pv : Str}
theorem okV3 {pre : α → β → γ → List ε → Prop} {g : α → β → γ → List ε → δ} (F : FunD K xn qual params body scope [] [] f fd) (S : FnScope N [p1, p2, p3, pv] scope) (σ0 : V → V → V → V → L2.St) (h0 : ∀ x y z u, start N [x, y, z, u] = σ0 x y z u)
    (hbind : ∀ (kV doc pm : Value) (an : Option Addr) (cdv ct : Value) (us rest : List Value), us.length = 3 → bindArgs (PySem.W.fnOf xn qual params body scope .none kV doc pm an cdv ct) ⟨us ++ rest, []⟩ = (newTuple rest >>= fun t => pure ([p1, p2, p3].zip us ++ [(pv, t)])))
    (h : ∀ (H : Hp) (Q : VK) (x y z u : V) (a : α) (b : β) (c : γ) (d : Tpl ε), Rep.rel K H x a → Rep.rel K H y b → Rep.rel K H z c → Rep.rel K H u d → pre a b c d.l → (∀ v H', Ex H H' → Rep.rel K H' v (g a b c d.l) → Q v H') → Body CX0 P w K mg base k f N qual scope body H Q (σ0 x y z u)) : FnR P w K mg base CX0 (k + 1) f (spV3 K pre g) := by
  obtain ⟨oc, od, dV, kV, doc, pm, an, cdv, ct, osl, rfl, lk, hcd, hD, hK⟩ := F.ex
  rcases hD with ⟨_, rfl⟩ | ⟨e, _⟩
  · refine FnR.imp (StX.fn_star (ps := [p1, p2, p3]) (pv := pv) (sp := fun vs H Q _ => ∃ x y z u a b c d, vs = [x, y, z, u] ∧ Rep.rel K H x a ∧ Rep.rel K H y b ∧ Rep.rel K H z c ∧ Rep.rel K H u (Tpl.mk d) ∧ pre a b c d ∧ ∀ v H', Ex H H' → Rep.rel K H' v (g a b c d) → Q v H') lk hcd S StX.cxUp_none (fun us rest hl => hbind kV doc pm an cdv ct us rest hl) ?_) ?_
    · intro A outer s H vs Q E hr hs
      obtain ⟨x, y, z, u, a, b, c, d, rfl, h1, h2, h3, h4, hp, q⟩ := hs
      rw [h0]
      exact h H Q x y z u a b c (Tpl.mk d) h1 h2 h3 h4 hp q cdv A outer s E hr
    · intro vs H Q E hs
      obtain ⟨x, y, z, us, a, b, c, d, rfl, h1, h2, h3, h4, hl, hp, q⟩ := hs
      refine ⟨[x, y, z], us, rfl, rfl, by rw [rels_len h4]; exact sz_of (by omega), fun p hp' => ?_⟩
      have n := Ex.new (o := .tup us) hp'
      exact ⟨x, y, z, .ref p, a, b, c, d, rfl, Rep.mono n h1, Rep.mono n h2, Rep.mono n h3, ⟨p, us, rfl, st_of upd_same, rels_mono n h4⟩, hp, fun v H' e r => q v H' (n.trans e) r⟩
  · exact absurd rfl e
/-- such a def of the module, to be called -/
structure CalR (P : Program) (w : World) (K : PySem.W.Frag) (mg : Str → Option Value) (base : Heap) (k : Nat) (x : Str) (sp : Sp) (f : Addr) : Prop where
  ok : FnR P w K mg base CX0 k f sp
  mg : mg x = some (.ref f)
  kp : PySem.W.keepIn K (.ref f) = true
end
section
variable {K : PySem.W.Frag} {σ : L2.St} {H : Hp} {te : TE}
theorem er_pairT {α : Type} [Rep α] {x : α × α} (h : ER K te σ H x) : ER K te σ H (Tpl.mk [x.1, x.2]) := fun H1 e Q q => h H1 e Q fun v H2 e2 ⟨a, v1, v2, hv, hs, r1, r2⟩ => q v H2 e2 ⟨a, [v1, v2], hv, hs, .cons r1 (.cons r2 .nil)⟩
theorem er_lenP {α β : Type} [Rep α] [Rep β] {x : α × β} (h : ER K te σ H x) : ER K (tCB (rLenQ K) (tCons te tNil)) σ H (2 : Int) := fun H1 e Q q => h H1 e _ fun v H2 e2 ⟨a, v1, v2, hv, hs, r1, r2⟩ => ⟨a, [v1, v2], by rw [hv], .inr hs, q _ H2 e2 rfl⟩
end
section
variable {α β γ ε δ : Type} [Rep α] [Rep β] [Rep γ] [Rep ε] [Rep δ] {K : PySem.W.Frag} {σ : L2.St} {H : Hp} {ta tb tc td : TE} {tt : TT}
theorem etn_notT (h : ETN K tt σ H (fun b => b = true)) : ETN K (tNot tt) σ H (fun b => b = false) := fun H1 e Q q => h H1 e _ fun b H2 p e2 => by
  subst p
  exact q false H2 rfl e2
theorem etn_bT {P : Bool → Prop} (h : EN K ta σ H P) (hp : ∀ b, P b → b = true) : ETN K (tB ta) σ H (fun b => b = true) := etn_b (en_imp h hp)
theorem en_ca4 {sp : Sp} {dvs : List V} {E : XK} {P1 : α → Prop} {P2 : β → Prop} {P3 : γ → Prop} {P4 : ε → Prop} {P : δ → Prop} (ha : EN K ta σ H P1) (hb : EN K tb σ H P2) (hc : EN K tc σ H P3) (hd : EN K td σ H P4) (h : ∀ x y z o v w u t H1, Ex H H1 → P1 x → P2 y → P3 z → P4 o → Rep.rel K H1 v x → Rep.rel K H1 w y → Rep.rel K H1 u z → Rep.rel K H1 t o → EN K (tCall sp dvs E (tCons (tC v) (tCons (tC w) (tCons (tC u) (tCons (tC t) tNil))))) σ H1 P) : EN K (tCall sp dvs E (tCons ta (tCons tb (tCons tc (tCons td tNil))))) σ H P := fun H1 e Q q =>
  ha H1 e _ fun x v H2 p1 e2 r1 => hb H2 (e.trans e2) _ fun y w H3 p2 e3 r2 => hc H3 ((e.trans e2).trans e3) _ fun z u H4 p3 e4 r3 => hd H4 (((e.trans e2).trans e3).trans e4) _ fun o t H5 p4 e5 r4 => h x y z o v w u t H5 ((((e.trans e2).trans e3).trans e4).trans e5) p1 p2 p3 p4 (Rep.mono ((e3.trans e4).trans e5) r1) (Rep.mono (e4.trans e5) r2) (Rep.mono e5 r3) r4 H5 (Ex.refl _) Q fun z v' H6 p e6 r6 => q z v' H6 p ((((e2.trans e3).trans e4).trans e5).trans e6) r6
theorem en_caR4 {sp : Sp} {E : XK} {P1 : α → Prop} {P2 : β → Prop} {P3 : γ → Prop} {P4 : ε → Prop} {P : δ → Prop} (ha : EN K ta σ H P1) (hb : EN K tb σ H P2) (hc : EN K tc σ H P3) (hd : EN K td σ H P4) (h : ∀ x y z o v w u t H1, Ex H H1 → P1 x → P2 y → P3 z → P4 o → Rep.rel K H1 v x → Rep.rel K H1 w y → Rep.rel K H1 u z → Rep.rel K H1 t o → EN K (tCallR sp E (tCons (tC v) (tCons (tC w) (tCons (tC u) (tCons (tC t) tNil))))) σ H1 P) : EN K (tCallR sp E (tCons ta (tCons tb (tCons tc (tCons td tNil))))) σ H P := fun H1 e Q q =>
  ha H1 e _ fun x v H2 p1 e2 r1 => hb H2 (e.trans e2) _ fun y w H3 p2 e3 r2 => hc H3 ((e.trans e2).trans e3) _ fun z u H4 p3 e4 r3 => hd H4 (((e.trans e2).trans e3).trans e4) _ fun o t H5 p4 e5 r4 => h x y z o v w u t H5 ((((e.trans e2).trans e3).trans e4).trans e5) p1 p2 p3 p4 (Rep.mono ((e3.trans e4).trans e5) r1) (Rep.mono (e4.trans e5) r2) (Rep.mono e5 r3) r4 H5 (Ex.refl _) Q fun z v' H6 p e6 r6 => q z v' H6 p ((((e2.trans e3).trans e4).trans e5).trans e6) r6
end
section
variable {σ : L2.St} {H : Hp} {tt : TT} {u t1 : TS} {D : Ends}
theorem q_ifNo (K : PySem.W.Frag) (h : ETN K tt σ H (fun b => b = false)) (k : ∀ H1, Ex H H1 → u D σ H1) : tSeq (tIfS tt t1 tNext) u D σ H := q_ifN K h (fun z => nomatch z) (fun _ H1 e => k H1 e)
theorem l_ifNo (K : PySem.W.Frag) (h : ETN K tt σ H (fun b => b = false)) (k : ∀ H1, Ex H H1 → D.nx σ H1) : tIfS tt t1 tNext D σ H := l_ifN K h (fun z => nomatch z) (fun _ H1 e => k H1 e)
end
/-! ### tuples put together, also empty ones -/
def rCatT2 (K : PySem.W.Frag) : R2 := fun x y H Q => ∃ a b xs ys, x = .ref a ∧ y = .ref b ∧ SqT K H a xs ∧ SqT K H b ys ∧ xs.length + ys.length ≤ sizeLine ∧ ∀ p H', Ex H H' → SqT K H' p (xs ++ ys) → Q (.ref p) H'
theorem op_catT2 {X : Cx} : OpR X (binaryOp .Add) (rCatT2 X.K) := by
  intro pins s σ H x y v u Q I rx ry h
  obtain ⟨a, b, xs, ys, rfl, rfl, ha, hb, hz, q⟩ := h
  by_cases hx : xs = []
  · cases rx
    cases ry
    obtain ⟨its, r1, p1, _⟩ := I.tuple ha
    obtain ⟨its2, r2, p2, _⟩ := I.tuple hb
    have he : its = [] := by
      subst hx
      cases r1
      rfl
    obtain ⟨⟨cls, dd, data, sl⟩, ho, hc, n, hd⟩ := id p1
    obtain ⟨⟨cls2, dd2, data2, sl2⟩, ho2, hc2, n2, hd2⟩ := id p2
    simp only at hc hd hc2 hd2
    subst hc hd hc2 hd2
    refine concat_meets ⟨_, ho, rfl⟩ ⟨_, ho2, rfl⟩ noFill_tuple_add seq_tuple_add PySem.F.slot_tuple_add PySem.F.entry_tuple_add (PySem.F.args_tuple_add_2 _ _)
      (tuple_addW0 a b its.toArray its2.toArray n n2 dd dd2 sl sl2 (by simp [he])) ⟨ho, ho2, ?_⟩
    exact ⟨.ref b, H, I, rfl, q b H (Ex.refl _) (by rw [hx]; exact hb)⟩
  · refine op_catT pins s σ H _ _ v u Q I rx ry ⟨a, b, xs, ys, rfl, rfl, ha, hb, hx, hz, fun z => q a H (Ex.refl _) (by rw [z, List.append_nil]; exact ha), fun _ p hp => ?_⟩
    exact q p _ (Ex.new hp) (st_of upd_same)
theorem er_catT {α : Type} [Rep α] {K : PySem.W.Frag} {σ : L2.St} {H : Hp} {ta tb : TE} {xs ys : Tpl α} (ha : ER K ta σ H xs) (hb : ER K tb σ H ys) (hl : xs.l.length + ys.l.length ≤ 100000) : ER K (tOp (rCatT2 K) ta tb) σ H (Tpl.mk (xs.l ++ ys.l)) := fun H1 e Q q =>
  ha H1 e _ fun v H2 e2 ⟨a, vs, hv, hs, hr⟩ => hb H2 (e.trans e2) _ fun w H3 e3 ⟨b, ws, hw, hs2, hr2⟩ =>
    ⟨a, b, vs, ws, hv, hw, ex_t e3 hs, hs2, by rw [rels_len hr, rels_len hr2]; exact sz_of hl, fun p H' e' hp => q (.ref p) H' ((e2.trans e3).trans e') ⟨p, _, rfl, hp, rels_app (rels_mono (e3.trans e') hr) (rels_mono e' hr2)⟩⟩
/-! ### loops over what is drawn -/
section
variable {α : Type} [Rep α] {σ : L2.St} {H : Hp} {u : TS} {D : Ends}
theorem for_wkN (K : PySem.W.Frag) {wi : TI} {PX : List α → Prop} (h : WkN K wi σ H PX) {gt : TG} {tb : TS} (Pv : List α → L2.St → Hp → Prop) (h0 : ∀ H1, Ex H H1 → Pv [] σ H1)
    (hs : ∀ xs H1 pre x post v σ' H' H'', PX xs → Ex H H1 → xs = pre ++ x :: post → Ey H1 H' → Pv pre σ' H' → Ex H' H'' → Rep.rel K H'' v x →
      gt v σ' H'' fun σ2 H2 => tb { D with nx := fun σ3 H3 => Ey H1 H3 ∧ Pv (pre ++ [x]) σ3 H3, ct := fun σ3 H3 => Ey H1 H3 ∧ Pv (pre ++ [x]) σ3 H3, bk := D.nx } σ2 H2)
    (hd : ∀ xs σ' H', PX xs → Ey H H' → Pv xs σ' H' → D.nx σ' H') : tFor wi gt tb D σ H := by
  refine h H (Ex.refl H) _ fun xs J H2 G Y px e2 w hG hY => ?_
  refine for_it w (fun i σ' H' => Ey H2 H' ∧ Pv (xs.take i) σ' H') ⟨Ey.refl _, by rw [List.take_zero]; exact h0 H2 e2⟩ (fun i σ' H' _ p => hG H' p.1) (fun i v σ' H' H'' hi p y => ?_) (fun σ' H' p => hd xs σ' H' px (e2.y.trans p.1) (by rw [List.take_length] at p; exact p.2))
  obtain ⟨e3, x, hx, r⟩ := hY i H' v H'' hi p.1 y
  have et : xs.take (i + 1) = xs.take i ++ [x] := by
    rw [List.take_add_one, hx]
    rfl
  have ex : xs = xs.take i ++ x :: xs.drop (i + 1) := by
    have h1 := (List.take_append_drop i xs).symm
    obtain ⟨hi2, hx2⟩ := List.getElem?_eq_some_iff.mp hx
    rw [List.drop_eq_getElem_cons hi2, hx2] at h1
    exact h1
  have z := hs xs H2 (xs.take i) x (xs.drop (i + 1)) v σ' H' H'' px e2 ex p.1 p.2 e3 r
  rw [← et] at z
  exact z
theorem q_forN (K : PySem.W.Frag) {wi : TI} {PX : List α → Prop} (h : WkN K wi σ H PX) {gt : TG} {tb : TS} (Pv : List α → L2.St → Hp → Prop) (h0 : ∀ H1, Ex H H1 → Pv [] σ H1)
    (hs : ∀ xs H1 pre x post v σ' H' H'', PX xs → Ex H H1 → xs = pre ++ x :: post → Ey H1 H' → Pv pre σ' H' → Ex H' H'' → Rep.rel K H'' v x →
      gt v σ' H'' fun σ2 H2 => tb { D with nx := fun σ3 H3 => Ey H1 H3 ∧ Pv (pre ++ [x]) σ3 H3, ct := fun σ3 H3 => Ey H1 H3 ∧ Pv (pre ++ [x]) σ3 H3, bk := u D } σ2 H2)
    (hd : ∀ xs σ' H', PX xs → Ey H H' → Pv xs σ' H' → u D σ' H') : tSeq (tFor wi gt tb) u D σ H := for_wkN K (D := { D with nx := u D }) h Pv h0 hs hd
end
/-- an item of a list by its place -/
theorem at_getD {α : Type} {xs : List α} {i : Nat} {d : α} (h : i < xs.length) : atI xs (i : Int) = some (xs.getD i d) := by
  refine atI_nat ?_
  rw [List.getD_eq_getElem?_getD, List.getElem?_eq_getElem h]
  rfl
section
variable {α : Type} [Rep α] {K : PySem.W.Frag} {σ : L2.St} {H : Hp} {te : TE} {u : TS} {D : Ends} {g : TGs}
/-- a tuple of one kind, unpacked -/
theorem q_unpL3 (K : PySem.W.Frag) {x : Tpl α} {a b c : α} {n : Nat} (hn : n = 3) (h : ER K te σ H x) (hx : x.l = [a, b, c]) (k : ∀ v1 v2 v3 H1, Ex H H1 → Rep.rel K H1 v1 a → Rep.rel K H1 v2 b → Rep.rel K H1 v3 c → g [v1, v2, v3] σ H1 fun σ' H' => u D σ' H') : tSeq (tAsg te (gTup K n g)) u D σ H := h H (Ex.refl H) _ fun v H1 e ⟨p, vs, hv, hs, hr⟩ => by
  rw [hx] at hr
  cases hr with
  | cons r1 hr =>
    cases hr with
    | cons r2 hr =>
      cases hr with
      | cons r3 hr =>
        cases hr
        exact ⟨p, _, hv, hs, hn.symm, k _ _ _ H1 e r1 r2 r3⟩
end
theorem len3 {α : Type} {xs : List α} (h : (xs.length : Int) = 3) : ∃ a b c, xs = [a, b, c] := by
  match xs, h with
  | [a, b, c], _ => exact ⟨a, b, c, rfl⟩
  | [], h => cases h
  | [_], h => cases h
  | [_, _], h => cases h
  | _ :: _ :: _ :: _ :: _, h =>
    simp only [List.length_cons] at h
    omega
end Sf

namespace Sf
open PySem PySem.Spec PyProof.Rows L2 Evl

/-! ### lists that are changed in place -/
/-- all but what stands at l is kept -/
def Eo (l : Addr) (H H' : Hp) : Prop := ∀ a o, a ≠ l → H a = some o → H' a = some o
theorem Eo.ex {l : Addr} {B H H' : Hp} (e : Eo l H H') (hb : B l = none) (b : Ex B H) : Ex B H' := fun a o h => e a o (ne_of_none h hb) (b a o h)
theorem Eo.y {l : Addr} {H H' : Hp} {ws : List V} (e : Eo l H H') (h : H l = some (MutO l ws)) : Ey H H' := fun a o ho => by
  by_cases z : a = l
  · subst z
    rw [h] at ho
    cases ho
    exact .inl (.m ws)
  · exact .inr (e a o z ho)
theorem Eo.upd {l : Addr} {H H' : Hp} {o : HO} (e : Ex H H') : Eo l H (upd H' l o) := fun a u n h => by
  rw [upd_ne n]
  exact e a u h
theorem Eo.of {l : Addr} {H H' : Hp} (e : Ex H H') : Eo l H H' := fun a u _ h => e a u h
theorem mutO_ok {P : Program} {w : World} {H H' : Hp} {h : Heap} {l : Addr} {ws : List V} (x : ObjOk P w H h l (.lst ws)) : ObjOk P w H' h l (MutO l ws) := by
  obtain ⟨z, its, n, r, e⟩ := x
  exact ⟨⟨z, its, n, r, e⟩, ⟨_, e⟩, fun h1 h2 ⟨z, its, n, r, e⟩ k => ⟨z, its, n, r, k _ e⟩⟩
theorem mutO_get {P : Program} {w : World} {H H' : Hp} {h : Heap} {l : Addr} {ws : List V} (x : ObjOk P w H h l (MutO l ws)) : ObjOk P w H' h l (.lst ws) := by
  obtain ⟨⟨z, its, n, r, e⟩, _⟩ := x
  exact ⟨z, its, n, r, e⟩
section
variable {X : Cx} {pins : List (Addr × Obj)} {σ : L2.St} {H : Hp} {s : Shared} {l : Addr} {ws : List V}
theorem inv_open (I : Inv X pins σ H s) (h : H l = some (MutO l ws)) : Inv X pins σ (upd H l (.lst ws)) s := by
  have ok := I.hok l _ h
  have e : ∃ o, s.heap.get? l = some o := ok.2.1
  exact I.write (h' := s.heap) (t' := s.toks) (x := l) (e := l) (by rw [h]; exact trivial) (.inl rfl) (fun _ _ _ q => q) e (mutO_get ok)
theorem inv_close (I : Inv X pins σ H s) (h : H l = some (.lst ws)) : Inv X pins σ (upd H l (MutO l ws)) s := by
  have ok := I.hok l _ h
  have e : ∃ o, s.heap.get? l = some o := by
    obtain ⟨_, its, n, _, e⟩ := ok
    exact ⟨_, e⟩
  exact I.write (h' := s.heap) (t' := s.toks) (x := l) (e := l) (by rw [h]; exact trivial) (.inl rfl) (fun _ _ _ q => q) e (mutO_ok ok)
end
/-! the expression is read while the list in slot n is open -/
def tOpen (n : Nat) (t : TE) : TE := fun σ H Q => ∃ l ws, σ[n]? = some (some (.ref l)) ∧ H l = some (MutO l ws) ∧ t σ (upd H l (.lst ws)) fun v H2 => H2 l = some (.lst ws) ∧ Q v (upd H2 l (MutO l ws))
theorem pe_open {X : Cx} {e : Expr} {t : TE} (n : Nat) (h : PE X e t) : PE X e (tOpen n t) := by
  refine ⟨fun pins s σ H Q I ⟨l, ws, hn, hl, ht⟩ => ?_⟩
  refine thn (h.run pins s σ _ _ (inv_open I hl) ht) fun u s2 ⟨v, H2, I2, r, h2, q⟩ => ?_
  exact ⟨v, _, inv_close I2 h2, r, q⟩
def tOpenT (n : Nat) (t : TT) : TT := fun σ H Q => ∃ l ws, σ[n]? = some (some (.ref l)) ∧ H l = some (MutO l ws) ∧ t σ (upd H l (.lst ws)) fun v H2 => H2 l = some (.lst ws) ∧ Q v (upd H2 l (MutO l ws))
theorem pt_open {X : Cx} {e : Expr} {t : TT} (n : Nat) (h : PT X e t) : PT X e (tOpenT n t) := by
  refine ⟨fun pins s σ H Q I ⟨l, ws, hn, hl, ht⟩ => ?_⟩
  refine thn (h.run pins s σ _ _ (inv_open I hl) ht) fun u s2 ⟨H2, I2, h2, q⟩ => ?_
  exact ⟨_, inv_close I2 h2, q⟩
/-! between statements: the list in slot n is from now on one that changes; is from now on a list like others -/
def tClose (n : Nat) (t : TS) : TS := fun D σ H => ∃ l ws, σ[n]? = some (some (.ref l)) ∧ H l = some (.lst ws) ∧ t D σ (upd H l (MutO l ws))
theorem pss_close {X : Cx} {st : List Stmt} {t : TS} (n : Nat) (h : PSs X st t) : PSs X st (tClose n t) := by
  refine ⟨fun pins s σ H D I ⟨l, ws, hn, hl, ht⟩ => ?_⟩
  exact h.run pins s σ _ D (inv_close I hl) ht
def tThaw (n : Nat) (t : TS) : TS := fun D σ H => ∃ l ws, σ[n]? = some (some (.ref l)) ∧ H l = some (MutO l ws) ∧ t D σ (upd H l (.lst ws))
theorem pss_thaw {X : Cx} {st : List Stmt} {t : TS} (n : Nat) (h : PSs X st t) : PSs X st (tThaw n t) := by
  refine ⟨fun pins s σ H D I ⟨l, ws, hn, hl, ht⟩ => ?_⟩
  exact h.run pins s σ _ D (inv_open I hl) ht
/-! x.append(e) -/
def tApp (n : Nat) (t : TA) : TE := fun σ H Q => ∃ l ws0, σ[n]? = some (some (.ref l)) ∧ H l = some (MutO l ws0) ∧ t σ H fun xs H2 => ∃ ws y, xs = [y] ∧ H2 l = some (MutO l ws) ∧ ws.length < sizeLine ∧ Q .non (upd H2 l (MutO l (ws ++ [y])))
theorem pe_app {X : Cx} {o e : Expr} {t : TA} {apos cpos : Pos} {n : Nat} (ho : PE X o (tVar n)) (ha : PA X [e] t)
    (hbase : attributeBase o ("append" : Str) X.env (eval o X.env) = eval o X.env := by rfl)
    (hfew : ((backTo cpos (starEach [e] X.env)).all (fun x => !x.1) && (backToKw cpos (keywordEach [] X.env)).all (fun x => x.1.isSome)
      && decide ([e].length + ([] : List Keyword).length + (if ([] : List Keyword).isEmpty then 0 else 1) < 30)) = true := by rfl)
    (hline : (apos.endLine == cpos.line) = true := by rfl) (hs : starEach [e] X.env = (false, eval e X.env) :: starEach [] X.env := by rfl) (hplain : (backTo cpos (starEach [] X.env)).any (·.1) = false := by rfl) :
    PE X (.Call (.Attribute o ("append" : Str) apos) [e] [] cpos) (tApp n t) := by
  refine ⟨fun pins s σ H Q I ⟨l, ws0, hn, hl, ht⟩ => ?_⟩
  have h1 : tVar n σ H (fun v H1 => v = .ref l ∧ H1 = H) := ⟨_, hn, rfl, rfl⟩
  refine wpAny_Call_method_late hbase hfew hline rfl (thn (ho.run pins s σ H _ I h1) fun v s1 ⟨x, H1, I1, r1, ex, eh⟩ => ?_)
  subst ex
  subst eh
  obtain ⟨k1, k2⟩ := tyV_is (T := "list") (inv_open I1 hl) r1 (.inl ⟨rfl, ws0, .inl (.inl upd_same)⟩)
  refine ⟨"list", "list.append", PySem.F.plainAttrs_list, PySem.F.slot_list_append, PySem.F.type_list_append, k1, k2, ?_⟩
  have hA := ha.run cpos pins s1 σ H1 _ I1 ht
  rw [hs] at hA ⊢
  refine Calls.callWith_builtin (by show (false || (backTo cpos (starEach [] X.env)).any (·.1)) = false; rw [hplain] <;> rfl) (Calls.evalArgs_plain ?_)
  refine thn hA fun us s2 ⟨vs, H2, I2, r2, ws, y, exs, h2, hz, q2⟩ => ?_
  subst exs
  refine thn (mt_append pins s2 σ _ (.ref l) [y] v us (fun v' H3 => v' = .non ∧ H3 l = some (.lst (ws ++ [y])) ∧ Q .non (upd H3 l (MutO l (ws ++ [y])))) (inv_open I2 h2) r1 r2 ⟨l, ws, y, rfl, rfl, upd_same, hz, rfl, upd_same, by rw [upd_upd, upd_upd]; exact q2⟩) fun u3 s3 ⟨v3, H3, I3, r3, e3, h3, q3⟩ => ?_
  subst e3
  exact ⟨.non, _, inv_close I3 h3, r3, q3⟩
/-! x[i] = e -/
def rSetM : TSet := fun o i v H Q => ∃ p xs k j, o = .ref p ∧ i = .int k ∧ H p = some (MutO p xs) ∧ L2.ixN xs.length k = some j ∧ Q (upd H p (MutO p (xs.set j v)))
theorem set_listM {X : Cx} : PSet X rSetM := by
  intro pins s σ H o i v ov iv u Q I ro ri rv ⟨p, xs, k, j, eo, ei, hp, hj, q⟩
  refine wpAny_mono (set_list pins s σ _ o i v ov iv u (fun H3 => H3 p = some (.lst (xs.set j v)) ∧ Q (upd H3 p (MutO p (xs.set j v)))) (inv_open I hp) ro ri rv ⟨p, xs, k, j, eo, ei, upd_same, hj, upd_same, by rw [upd_upd, upd_upd]; exact q⟩) (fun _ s' ⟨H', I', h1, h2⟩ => ⟨_, inv_close I' h1, h2⟩) (fun _ _ z => z)

/-- data of no list: whatever becomes of the list at l -/
class ImmX (α : Type) [Rep α] : Prop where
  imm : ∀ {K : PySem.W.Frag} {H : Hp} {v : V} {x : α} {l : Addr} {ws : List V} {o : HO}, H l = some (.lst ws) → Rep.rel K H v x → Rep.rel K (upd H l o) v x
/-! ### their readings -/
section
variable {α β : Type} [Rep α] [Rep β] {K : PySem.W.Frag} {σ σ' : L2.St} {H H' : Hp} {te tl ta tb : TE} {tA : TA} {tt : TT} {u : TS} {D : Ends} {n : Nat} {xs : List α} {i : Int}
/-- a new list -/
def EL (K : PySem.W.Frag) (te : TE) (σ : L2.St) (H : Hp) (xs : List α) : Prop := ∀ H1, Ex H H1 → ∀ Q : VK, (∀ l ws H2, H1 l = none → Ex H1 H2 → H2 l = some (.lst ws) → rels K (upd H2 l (MutO l ws)) ws xs → Q (.ref l) H2) → te σ H1 Q
theorem el_lst (h : EAs K tA σ H xs) (hl : xs.length ≤ 100000) : EL K (tLst tA) σ H xs := fun H1 e Q q => h H1 e _ fun vs H2 e2 rs => ⟨by rw [rels_len rs]; exact sz_of hl, fun p hp => by
  have n := Ex.new (o := .lst vs) hp
  refine q p vs _ (fresh_back e2 hp) (e2.trans n) upd_same ?_
  rw [upd_upd]
  exact rels_mono (Ex.new hp) rs⟩
theorem el_cat {ys : List α} (h : ER K ta σ H xs) (h2 : ER K tb σ H ys) (hl : xs.length + ys.length ≤ 100000) : EL K (tOp rCat ta tb) σ H (xs ++ ys) := fun H1 e Q q => h H1 e _ fun v H2 e2 ⟨a, vs, hv, hs, hr⟩ => h2 H2 (e.trans e2) _ fun w H3 e3 ⟨b, ws, hw, hs', hr'⟩ =>
  ⟨a, b, vs, ws, hv, hw, e3 _ _ hs, hs', by rw [rels_len hr, rels_len hr']; exact sz_of hl, fun p hp => by
    refine q p (vs ++ ws) _ (fresh_back (e2.trans e3) hp) ((e2.trans e3).trans (Ex.new hp)) upd_same ?_
    rw [upd_upd]
    exact rels_mono (Ex.new hp) (rels_app (rels_mono e3 hr) hr')⟩
theorem el_listS [Imm α] (h : ER K ta σ H xs) : EL K (tCB (rListS K) (tCons ta tNil)) σ H xs := fun H1 e Q q => h H1 e _ fun v H2 e2 ⟨a, vs, hv, hs, hr⟩ => by
  subst hv
  refine ⟨a, vs, rfl, .inl (sq_of hs), fun l hl => q l vs _ (fresh_back e2 hl) (e2.trans (Ex.new hl)) upd_same ?_⟩
  rw [upd_upd]
  exact rels_mono (Ex.new hl) hr
theorem el_listT (h : ER K ta σ H (Tpl.mk xs)) : EL K (tCB (rListS K) (tCons ta tNil)) σ H xs := fun H1 e Q q => h H1 e _ fun v H2 e2 ⟨a, vs, hv, hs, hr⟩ => by
  subst hv
  refine ⟨a, vs, rfl, .inr hs, fun l hl => q l vs _ (fresh_back e2 hl) (e2.trans (Ex.new hl)) upd_same ?_⟩
  rw [upd_upd]
  exact rels_mono (Ex.new hl) hr
theorem Eo.trans {l : Addr} {H H1 H2 : Hp} (a : Eo l H H1) (b : Eo l H1 H2) : Eo l H H2 := fun x o n h => b x o n (a x o n h)
/-- it is made -/
theorem q_new (K : PySem.W.Frag) {s' : V → L2.St} (h : EL K te σ H xs) (s : ∀ v, SetAt σ n v (s' v)) (g : ∀ l, (s' (.ref l))[n]? = some (some (.ref l))) (k : ∀ l ws H1, H l = none → Ex H H1 → H1 l = some (MutO l ws) → rels K H1 ws xs → u D (s' (.ref l)) H1) : tSeq (tAsg te (gName n)) (tClose n u) D σ H :=
  h H (Ex.refl H) _ fun l ws H1 hn e hl rs => by
    show tClose n u D (σ.set n (some (.ref l))) H1
    rw [(s _).eq]
    exact ⟨l, ws, g l, hl, k l ws _ hn (Ex.mut e hn) upd_same rs⟩
/-- one more at its end -/
theorem q_app (K : PySem.W.Frag) {l : Addr} {ws : List V} {x : α} (hn : σ[n]? = some (some (.ref l))) (hl : H l = some (MutO l ws)) (hr : rels K H ws xs) (h : ER K te σ H x) (hz : xs.length < 100000)
    (k : ∀ ws' H1, Eo l H H1 → H1 l = some (MutO l ws') → rels K H1 ws' (xs ++ [x]) → u D σ H1) : tSeq (tDrop (tApp n (tCons te tNil))) u D σ H := by
  refine ⟨l, ws, hn, hl, ?_⟩
  refine h H (Ex.refl H) _ fun v H1 e r => ?_
  have hl1 : H1 l = some (MutO l ws) := e _ _ hl
  have o1 : Eo l H1 (upd H1 l (MutO l (ws ++ [v]))) := Eo.upd (Ex.refl _)
  refine ⟨ws, v, rfl, hl1, by rw [rels_len hr]; exact sz_lt hz, ?_⟩
  exact k (ws ++ [v]) _ (Eo.upd e) upd_same (rels_moY (o1.y hl1) (rels_snoc (rels_mono e hr) r))
theorem l_app (K : PySem.W.Frag) {l : Addr} {ws : List V} {x : α} (hn : σ[n]? = some (some (.ref l))) (hl : H l = some (MutO l ws)) (hr : rels K H ws xs) (h : ER K te σ H x) (hz : xs.length < 100000)
    (k : ∀ ws' H1, Eo l H H1 → H1 l = some (MutO l ws') → rels K H1 ws' (xs ++ [x]) → D.nx σ H1) : tDrop (tApp n (tCons te tNil)) D σ H := by
  refine ⟨l, ws, hn, hl, ?_⟩
  refine h H (Ex.refl H) _ fun v H1 e r => ?_
  have hl1 : H1 l = some (MutO l ws) := e _ _ hl
  have o1 : Eo l H1 (upd H1 l (MutO l (ws ++ [v]))) := Eo.upd (Ex.refl _)
  refine ⟨ws, v, rfl, hl1, by rw [rels_len hr]; exact sz_lt hz, ?_⟩
  exact k (ws ++ [v]) _ (Eo.upd e) upd_same (rels_moY (o1.y hl1) (rels_snoc (rels_mono e hr) r))
/-- what is drawn, at its end -/
theorem n_app (K : PySem.W.Frag) {P : α → Prop} {l : Addr} {ws : List V} (hn : σ[n]? = some (some (.ref l))) (hl : H l = some (MutO l ws)) (hr : rels K H ws xs) (h : EN K te σ H P) (hz : xs.length < 100000)
    (k : ∀ x ws' H1, P x → Eo l H H1 → H1 l = some (MutO l ws') → rels K H1 ws' (xs ++ [x]) → u D σ H1) : tSeq (tDrop (tApp n (tCons te tNil))) u D σ H := by
  refine ⟨l, ws, hn, hl, ?_⟩
  refine h H (Ex.refl H) _ fun x v H1 p e r => ?_
  have hl1 : H1 l = some (MutO l ws) := e _ _ hl
  have o1 : Eo l H1 (upd H1 l (MutO l (ws ++ [v]))) := Eo.upd (Ex.refl _)
  refine ⟨ws, v, rfl, hl1, by rw [rels_len hr]; exact sz_lt hz, ?_⟩
  exact k x (ws ++ [v]) _ p (Eo.upd e) upd_same (rels_moY (o1.y hl1) (rels_snoc (rels_mono e hr) r))
theorem nl_app (K : PySem.W.Frag) {P : α → Prop} {l : Addr} {ws : List V} (hn : σ[n]? = some (some (.ref l))) (hl : H l = some (MutO l ws)) (hr : rels K H ws xs) (h : EN K te σ H P) (hz : xs.length < 100000)
    (k : ∀ x ws' H1, P x → Eo l H H1 → H1 l = some (MutO l ws') → rels K H1 ws' (xs ++ [x]) → D.nx σ H1) : tDrop (tApp n (tCons te tNil)) D σ H :=
  n_app (u := fun D' σ' H' => D'.nx σ' H') (D := D) K hn hl hr h hz k
theorem rels_set {vs : List V} {ys : List α} {v : V} {x : α} (h : rels K H vs ys) (r : Rep.rel K H v x) : ∀ j, rels K H (vs.set j v) (ys.set j x) := by
  induction h with
  | nil => exact fun _ => .nil
  | cons r0 hr ih =>
    intro j
    cases j with
    | zero => exact .cons r hr
    | succ j => exact .cons r0 (ih j)
/-- an item put in its place -/
theorem n_put (K : PySem.W.Frag) {P : α → Prop} {l : Addr} {ws : List V} {j : Nat} (hn : σ[n]? = some (some (.ref l))) (hl : H l = some (MutO l ws)) (hr : rels K H ws xs) (h : EN K te σ H P) (hi : ER K tl σ H i) (hj : L2.ixN xs.length i = some j)
    (k : ∀ x ws' H1, P x → Eo l H H1 → H1 l = some (MutO l ws') → rels K H1 ws' (xs.set j x) → u D σ H1) : tSeq (tAsg te (gSub (tVar n) tl rSetM)) u D σ H := by
  refine h H (Ex.refl H) _ fun x v H1 p e r => ?_
  refine ⟨.ref l, hn, ?_⟩
  refine hi H1 e _ fun vi H2 e2 r2 => ?_
  cases r2
  have hl1 : H2 l = some (MutO l ws) := e2 _ _ (e _ _ hl)
  have o1 : Eo l H2 (upd H2 l (MutO l (ws.set j v))) := Eo.upd (Ex.refl _)
  refine ⟨l, ws, i, j, rfl, rfl, hl1, by rw [rels_len hr]; exact hj, ?_⟩
  exact k x _ _ p (Eo.upd (e.trans e2)) upd_same (rels_moY (o1.y hl1) (rels_set (rels_mono (e.trans e2) hr) (Rep.mono e2 r) j))
theorem nl_put (K : PySem.W.Frag) {P : α → Prop} {l : Addr} {ws : List V} {j : Nat} (hn : σ[n]? = some (some (.ref l))) (hl : H l = some (MutO l ws)) (hr : rels K H ws xs) (h : EN K te σ H P) (hi : ER K tl σ H i) (hj : L2.ixN xs.length i = some j)
    (k : ∀ x ws' H1, P x → Eo l H H1 → H1 l = some (MutO l ws') → rels K H1 ws' (xs.set j x) → D.nx σ H1) : tAsg te (gSub (tVar n) tl rSetM) D σ H :=
  n_put (u := fun D' σ' H' => D'.nx σ' H') (D := D) K hn hl hr h hi hj k
/-- two items put in their places at once -/
theorem n_put2 (K : PySem.W.Frag) {P1 P2 : α → Prop} {l : Addr} {ws : List V} {j : Nat} {i2 : Int} {j2 m : Nat} {tl2 : TE} (hm : m = 2) (hn : σ[n]? = some (some (.ref l))) (hl : H l = some (MutO l ws)) (hr : rels K H ws xs) (h : EN K ta σ H P1) (h2 : ∀ H1, Ex H H1 → EN K tb σ H1 P2)
    (hi : ER K tl σ H i) (hj : L2.ixN xs.length i = some j) (hi2 : ∀ H1, ER K tl2 σ H1 i2) (hj2 : L2.ixN xs.length i2 = some j2)
    (k : ∀ x y ws' H1, P1 x → P2 y → Eo l H H1 → H1 l = some (MutO l ws') → rels K H1 ws' ((xs.set j x).set j2 y) → u D σ H1) : tSeq (tAsg (tTup (tCons ta (tCons tb tNil))) (gTup K m (gCons (gSub (tVar n) tl rSetM) (gCons (gSub (tVar n) tl2 rSetM) gNil)))) u D σ H := by
  subst hm
  refine h H (Ex.refl H) _ fun x v H1 p1 e1 r1 => h2 H1 e1 H1 (Ex.refl _) _ fun y w H2 p2 e2 r2 => ⟨sz_of (by show 2 ≤ 100000; decide), fun p hp => ⟨p, [v, w], rfl, st_of upd_same, rfl, v, [w], rfl, .ref l, hn, ?_⟩⟩
  have n3 := Ex.new (o := .tup [v, w]) hp
  refine hi _ ((e1.trans e2).trans n3) _ fun vi H4 e4 r4 => ?_
  cases r4
  have e04 := ((e1.trans e2).trans n3).trans e4
  have hl4 : H4 l = some (MutO l ws) := e04 _ _ hl
  refine ⟨l, ws, i, j, rfl, rfl, hl4, by rw [rels_len hr]; exact hj, w, [], rfl, .ref l, hn, ?_⟩
  have o5 : Eo l H4 (upd H4 l (MutO l (ws.set j v))) := Eo.upd (Ex.refl _)
  have rs5 := rels_moY (o5.y hl4) (rels_set (rels_mono e04 hr) (Rep.mono ((e2.trans n3).trans e4) r1) j)
  have r5 := Rep.moY (o5.y hl4) (Rep.mono (n3.trans e4) r2)
  refine hi2 _ _ (Ex.refl _) _ fun vi H6 e6 r6 => ?_
  cases r6
  have hl6 : H6 l = some (MutO l (ws.set j v)) := e6 _ _ upd_same
  have o7 : Eo l H6 (upd H6 l (MutO l ((ws.set j v).set j2 w))) := Eo.upd (Ex.refl _)
  refine ⟨l, _, i2, j2, rfl, rfl, hl6, by rw [List.length_set, rels_len hr]; exact hj2, rfl, ?_⟩
  exact k x y _ _ p1 p2 (((Eo.of e04).trans o5).trans ((Eo.of e6).trans o7)) upd_same (rels_moY (o7.y hl6) (rels_set (rels_mono e6 rs5) (Rep.mono e6 r5) j2))
theorem nl_put2 (K : PySem.W.Frag) {P1 P2 : α → Prop} {l : Addr} {ws : List V} {j : Nat} {i2 : Int} {j2 m : Nat} {tl2 : TE} (hm : m = 2) (hn : σ[n]? = some (some (.ref l))) (hl : H l = some (MutO l ws)) (hr : rels K H ws xs) (h : EN K ta σ H P1) (h2 : ∀ H1, Ex H H1 → EN K tb σ H1 P2)
    (hi : ER K tl σ H i) (hj : L2.ixN xs.length i = some j) (hi2 : ∀ H1, ER K tl2 σ H1 i2) (hj2 : L2.ixN xs.length i2 = some j2)
    (k : ∀ x y ws' H1, P1 x → P2 y → Eo l H H1 → H1 l = some (MutO l ws') → rels K H1 ws' ((xs.set j x).set j2 y) → D.nx σ H1) : tAsg (tTup (tCons ta (tCons tb tNil))) (gTup K m (gCons (gSub (tVar n) tl rSetM) (gCons (gSub (tVar n) tl2 rSetM) gNil))) D σ H :=
  n_put2 (u := fun D' σ' H' => D'.nx σ' H') (D := D) K hm hn hl hr h h2 hi hj hi2 hj2 k
/-- no more changes -/
theorem q_thaw (K : PySem.W.Frag) {l : Addr} {ws : List V} (hn : σ[n]? = some (some (.ref l))) (hl : H l = some (MutO l ws)) (hr : rels K H ws xs)
    (k : ∀ H1, Eo l H H1 → Rep.rel K H1 (.ref l) xs → u D σ H1) : tThaw n u D σ H := by
  have o1 : Eo l H (upd H l (.lst ws)) := Eo.upd (Ex.refl _)
  exact ⟨l, ws, hn, hl, k _ o1 ⟨l, ws, rfl, upd_same, rels_moY (o1.y hl) hr⟩⟩
/-- a thing and a new list at once -/
theorem n_parL2 (K : PySem.W.Frag) {ys : List β} {P1 : α → Prop} {m : Nat} {s1 s2 : V → V → L2.St} (h : EN K ta σ H P1) (h2 : ∀ H1, Ex H H1 → EL K tb σ H1 ys) (hs1 : ∀ v w, SetAt σ n v (s1 v w)) (hs2 : ∀ v w, SetAt (s1 v w) m w (s2 v w)) (g : ∀ v l, (s2 v (.ref l))[m]? = some (some (.ref l)))
    (k : ∀ x v l ws H1, P1 x → H l = none → Ex H H1 → Rep.rel K H1 v x → H1 l = some (MutO l ws) → rels K H1 ws ys → u D (s2 v (.ref l)) H1) : tSeq (tPar n m (tCons ta (tCons tb tNil))) (tClose m u) D σ H := h H (Ex.refl H) _ fun x v H1 p1 e r => h2 H1 e H1 (Ex.refl H1) _ fun l ws H2 hn e2 hl rs => ⟨v, .ref l, rfl, by
  show tClose m u D ((σ.set n (some v)).set m (some (.ref l))) H2
  rw [(hs1 v _).eq, (hs2 v _).eq]
  have e3 : Ex H1 (upd H2 l (MutO l ws)) := Ex.mut e2 hn
  exact ⟨l, ws, g v l, hl, k x v l ws _ p1 (fresh_back e hn) (e.trans e3) (Rep.mono e3 r) upd_same rs⟩⟩
theorem n_parL1 (K : PySem.W.Frag) {ys : List β} {P1 : α → Prop} {m : Nat} {s1 s2 : V → V → L2.St} (h : EL K ta σ H ys) (h2 : ∀ H1, Ex H H1 → EN K tb σ H1 P1) (hs1 : ∀ v w, SetAt σ n v (s1 v w)) (hs2 : ∀ v w, SetAt (s1 v w) m w (s2 v w)) (g : ∀ l w, (s2 (.ref l) w)[n]? = some (some (.ref l))) [ImmX α]
    (k : ∀ x w l ws H1, P1 x → H l = none → Ex H H1 → Rep.rel K H1 w x → H1 l = some (MutO l ws) → rels K H1 ws ys → u D (s2 (.ref l) w) H1) : tSeq (tPar n m (tCons ta (tCons tb tNil))) (tClose n u) D σ H := h H (Ex.refl H) _ fun l ws H1 hn e hl rs => h2 H1 e H1 (Ex.refl H1) _ fun x w H2 p1 e2 r => ⟨.ref l, w, rfl, by
  show tClose n u D ((σ.set n (some (.ref l))).set m (some w)) H2
  rw [(hs1 _ w).eq, (hs2 _ w).eq]
  have hl2 := e2 _ _ hl
  refine ⟨l, ws, g l w, hl2, k x w l ws _ p1 hn (Ex.mut (e.trans e2) hn) (ImmX.imm hl2 r) upd_same ?_⟩
  have e3 : Ex (upd H1 l (MutO l ws)) (upd H2 l (MutO l ws)) := fun a o h => by
    by_cases z : a = l
    · subst z
      rw [upd_same] at h ⊢
      exact h
    · rw [upd_ne z] at h ⊢
      exact e2 a o h
  exact rels_mono e3 rs⟩
def Fld.ds (f : Fld) : List PyData := [.int f.low, .int f.high, .int f.step, .int f.base, .str f.off, .str f.ends, .int f.big]
theorem el_listF {f : Fld} (h : ER K ta σ H f) : EL K (tCB (rListS K) (tCons ta tNil)) σ H f.ds := fun H1 e Q q => h H1 e _ fun v H2 e2 ⟨a, hv, hs⟩ => by
  subst hv
  refine ⟨a, f.vs, rfl, .inr hs, fun l hl => q l f.vs _ (fresh_back e2 hl) (e2.trans (Ex.new hl)) upd_same ?_⟩
  exact .cons (.int _) (.cons (.int _) (.cons (.int _) (.cons (.int _) (.cons (.str _) (.cons (.str _) (.cons (.int _) .nil))))))
theorem en_encP [Enc α] {P : α → Prop} (h : EN K te σ H P) : EN K te σ H (fun z : PyData => ∃ y, z = Enc.enc y ∧ P y) := fun H1 e Q q => h H1 e Q fun y v H2 p e2 r => q _ v H2 ⟨y, rfl, p⟩ e2 (Enc.dp r)
end
theorem sqT_immX {K : PySem.W.Frag} {H : Hp} {a l : Addr} {xs ws : List V} {o : HO} (hl : H l = some (.lst ws)) (h : SqT K H a xs) : SqT K (upd H l o) a xs := by
  rcases h with (h | ⟨o, h⟩) | h
  · exact .inl (.inl (by rw [upd_ne (ne_of h hl (by intro z; cases z))]; exact h))
  · exact .inl (.inr ⟨o, by rw [upd_ne (ne_of h hl (by intro z; cases z))]; exact h⟩)
  · exact .inr h
instance : ImmX Int := ⟨fun _ h => h⟩
instance : ImmX Bool := ⟨fun _ h => h⟩
instance : ImmX Str := ⟨fun _ h => h⟩
instance : ImmX Unit := ⟨fun _ h => h⟩
instance : ImmX V := ⟨fun _ h => h⟩
instance : ImmX Sg := ⟨fun _ h => h⟩
instance : ImmX Fld := ⟨fun hl ⟨a, h, hs⟩ => ⟨a, h, sqT_immX hl hs⟩⟩
instance {α β : Type} [Rep α] [Rep β] [ImmX α] [ImmX β] : ImmX (α × β) := ⟨fun hl ⟨a, v1, v2, h, hs, h1, h2⟩ => ⟨a, v1, v2, h, sqT_immX hl hs, ImmX.imm hl h1, ImmX.imm hl h2⟩⟩
instance {α β γ : Type} [Rep α] [Rep β] [Rep γ] [ImmX α] [ImmX β] [ImmX γ] : ImmX (Tri α β γ) := ⟨fun hl ⟨a, v1, v2, v3, h, hs, h1, h2, h3⟩ => ⟨a, v1, v2, v3, h, sqT_immX hl hs, ImmX.imm hl h1, ImmX.imm hl h2, ImmX.imm hl h3⟩⟩
instance {α : Type} [Rep α] [ImmX α] : ImmX (Tpl α) := ⟨fun hl ⟨a, vs, h, hs, hr⟩ => ⟨a, vs, h, sqT_immX hl hs, Paired.mapP hr fun _ _ => ImmX.imm hl⟩⟩
instance {α : Type} [Rep α] [ImmX α] : ImmX (Option α) := ⟨fun {K H v x l ws o} hl h => by
  cases x with
  | none => exact h
  | some y => exact ImmX.imm (x := y) hl h⟩
section
variable {α β : Type} [Rep α] [Rep β] {K : PySem.W.Frag} {σ σ' : L2.St} {H H' : Hp} {te tl ta tb : TE} {tA : TA} {tt : TT} {u : TS} {D : Ends} {n : Nat} {xs : List α} {i : Int}
theorem open_ex {l : Addr} {ws : List V} {H H1 : Hp} (e : Ex H H1) : Ex (upd H l (.lst ws)) (upd H1 l (.lst ws)) := fun a o h => by
  by_cases z : a = l
  · subst z
    rw [upd_same] at h ⊢
    exact h
  · rw [upd_ne z] at h ⊢
    exact e a o h
theorem open_back {l : Addr} {ws : List V} {H1 H2 : Hp} (hl : H1 l = some (MutO l ws)) (e : Ex (upd H1 l (.lst ws)) H2) : Ex H1 (upd H2 l (MutO l ws)) := fun a o h => by
  by_cases z : a = l
  · subst z
    rw [hl] at h
    rw [upd_same]
    exact h
  · rw [upd_ne z]
    exact e a o (by rw [upd_ne z]; exact h)
/-- what stands in a list that changes, as it is now -/
theorem open_rel {l : Addr} {ws : List V} (hl : H l = some (MutO l ws)) (hr : rels K H ws xs) : Rep.rel K (upd H l (.lst ws)) (.ref l) xs :=
  ⟨l, ws, rfl, upd_same, rels_moY ((Eo.upd (Ex.refl _) : Eo l H _).y hl) hr⟩
theorem open_mo {l : Addr} {ws : List V} {v : V} {x : α} (hl : H l = some (MutO l ws)) (r : Rep.rel K H v x) : Rep.rel K (upd H l (.lst ws)) v x := Rep.moY ((Eo.upd (Ex.refl _) : Eo l H _).y hl) r
theorem er_open [ImmX β] {l : Addr} {ws : List V} {y : β} (hn : σ[n]? = some (some (.ref l))) (hl : H l = some (MutO l ws)) (h : ER K te σ (upd H l (.lst ws)) y) : ER K (tOpen n te) σ H y := fun H1 e Q q =>
  ⟨l, ws, hn, e _ _ hl, h _ (open_ex e) _ fun v H2 e2 r => ⟨e2 _ _ upd_same, q v _ (open_back (e _ _ hl) e2) (ImmX.imm (e2 _ _ upd_same) r)⟩⟩
theorem en_open [ImmX β] {l : Addr} {ws : List V} {P : β → Prop} (hn : σ[n]? = some (some (.ref l))) (hl : H l = some (MutO l ws)) (h : EN K te σ (upd H l (.lst ws)) P) : EN K (tOpen n te) σ H P := fun H1 e Q q =>
  ⟨l, ws, hn, e _ _ hl, h _ (open_ex e) _ fun y v H2 p e2 r => ⟨e2 _ _ upd_same, q y v _ p (open_back (e _ _ hl) e2) (ImmX.imm (e2 _ _ upd_same) r)⟩⟩
theorem et_open {l : Addr} {ws : List V} {b : Bool} (hn : σ[n]? = some (some (.ref l))) (hl : H l = some (MutO l ws)) (h : ET K tt σ (upd H l (.lst ws)) b) : ET K (tOpenT n tt) σ H b := fun H1 e Q q =>
  ⟨l, ws, hn, e _ _ hl, h _ (open_ex e) _ fun H2 e2 => ⟨e2 _ _ upd_same, q _ (open_back (e _ _ hl) e2)⟩⟩
end
/-! ### defs that hand back a new list -/
section
variable {α β γ δ : Type} [Rep α] [Rep β] [Rep γ] [Rep δ] {K : PySem.W.Frag} {σ : L2.St} {H : Hp} {ta tb tc : TE} {E : XK} {a : α} {b : β} {c : γ}
def spL2 (K : PySem.W.Frag) (pre : α → β → Prop) (g : α → β → List δ) : Sp := fun vs H Q _ => ∃ x y a b, vs = [x, y] ∧ Rep.rel K H x a ∧ Rep.rel K H y b ∧ pre a b ∧ ∀ l ws H', H l = none → Ex H H' → H' l = some (.lst ws) → rels K H' ws (g a b) → Q (.ref l) H'
theorem er_callL2 {pre : α → β → Prop} {g : α → β → List δ} (ha : ER K ta σ H a) (hb : ER K tb σ H b) (hp : pre a b) : ER K (tCall (spL2 K pre g) [] E (tCons ta (tCons tb tNil))) σ H (g a b) := fun H1 e Q q =>
  ha H1 e _ fun v1 H2 e2 r1 => hb H2 (e.trans e2) _ fun v2 H3 e3 r2 => ⟨v1, v2, a, b, rfl, Rep.mono e3 r1, r2, hp, fun l ws H' _ e' hl rs => q (.ref l) H' ((e2.trans e3).trans e') ⟨l, ws, rfl, hl, rs⟩⟩
theorem el_callL2 [ImmX δ] {pre : α → β → Prop} {g : α → β → List δ} (ha : ER K ta σ H a) (hb : ER K tb σ H b) (hp : pre a b) : EL K (tCall (spL2 K pre g) [] E (tCons ta (tCons tb tNil))) σ H (g a b) := fun H1 e Q q =>
  ha H1 e _ fun v1 H2 e2 r1 => hb H2 (e.trans e2) _ fun v2 H3 e3 r2 => ⟨v1, v2, a, b, rfl, Rep.mono e3 r1, r2, hp, fun l ws H' hn e' hl rs => q l ws H' (fresh_back (e2.trans e3) hn) ((e2.trans e3).trans e') hl (Paired.mapP rs fun _ _ => ImmX.imm hl)⟩
variable {P : Program} {w : World} {mg : Str → Option Value} {base : Heap} {x qual : Str} {params : Arguments} {body : List Stmt} {scope : Scope} {dvs : List V} {kws : List (Str × V)} {f : Addr} {fd : FuncData} {N ps : List Str} {k : Nat} {CX : CXT}
theorem okL2 {pre : α → β → Prop} {g : α → β → List δ} (F : FunD K x qual params body scope dvs kws f fd) (S : FnScope N ps scope) (hl : ps.length = 2) (σ0 : V → V → L2.St) (h0 : ∀ x y, start N [x, y] = σ0 x y)
    (h : ∀ (H : Hp) (Q : VK) (x y : V) (a : α) (b : β), Rep.rel K H x a → Rep.rel K H y b → pre a b → (∀ l ws H', H l = none → Ex H H' → H' l = some (.lst ws) → rels K H' ws (g a b) → Q (.ref l) H') → Body CX P w K mg base k f N qual scope body H Q (σ0 x y)) : FnOk P w K mg base CX (k + 1) f fd ps (spL2 K pre g) := by
  refine F.ok S (fun vs H Q E hs => ?_) (fun cdv A outer s H vs Q E hr hs => ?_)
  · obtain ⟨x, y, a, b, rfl, _⟩ := hs
    exact hl.symm
  · obtain ⟨x, y, a, b, rfl, h1, h2, hp, q⟩ := hs
    rw [h0]
    exact h H Q x y a b h1 h2 hp q cdv A outer s E hr
end
section
variable {α β : Type} [Rep α] [Rep β] {K : PySem.W.Frag} {σ : L2.St} {H : Hp} {te : TE} {u : TS} {D : Ends} {n : Nat} {xs : List α}
/-- a new list in a slot, as others -/
theorem q_setN (K : PySem.W.Frag) {s' : V → L2.St} (h : EL K te σ H xs) (s : ∀ v, SetAt σ n v (s' v)) (k : ∀ l H1, H l = none → Ex H H1 → Rep.rel K H1 (.ref l) xs → u D (s' (.ref l)) H1) : tSeq (tAsg te (gName n)) u D σ H :=
  h H (Ex.refl H) _ fun l ws H1 hn e hl rs => by
    show u D (σ.set n (some (.ref l))) H1
    rw [(s _).eq]
    have o1 : Eo l (upd H1 l (MutO l ws)) H1 := fun a o ne h => by
      rw [upd_ne ne] at h
      exact h
    exact k l H1 hn e ⟨l, ws, rfl, hl, rels_moY (o1.y upd_same) rs⟩
theorem l_setN (K : PySem.W.Frag) {s' : V → L2.St} (h : EL K te σ H xs) (s : ∀ v, SetAt σ n v (s' v)) (k : ∀ l H1, H l = none → Ex H H1 → Rep.rel K H1 (.ref l) xs → D.nx (s' (.ref l)) H1) : tAsg te (gName n) D σ H :=
  q_setN (u := fun D' σ' H' => D'.nx σ' H') (D := D) K h s k
/-- anything put at the end of a list that is of no more use -/
theorem q_appX (K : PySem.W.Frag) {l : Addr} {ws : List V} {x : β} (hn : σ[n]? = some (some (.ref l))) (hl : H l = some (MutO l ws)) (hr : rels K H ws xs) (h : ER K te σ H x) (hz : xs.length < 100000)
    (k : ∀ ws' H1, Eo l H H1 → H1 l = some (MutO l ws') → u D σ H1) : tSeq (tDrop (tApp n (tCons te tNil))) u D σ H := by
  refine ⟨l, ws, hn, hl, ?_⟩
  refine h H (Ex.refl H) _ fun v H1 e r => ?_
  refine ⟨ws, v, rfl, e _ _ hl, by rw [rels_len hr]; exact sz_lt hz, ?_⟩
  exact k (ws ++ [v]) _ (Eo.upd e) upd_same
theorem el_lc0 : EL (α := α) K (tLst tNil) σ H [] := el_lst eas_nil (Nat.zero_le _)
end
end Sf

namespace Sf
open PySem PySem.Spec PyProof.Rows L2 Evl
/-! ### sorted(set(ints)), any number of them -/
abbrev ob0 (w : World) : Obj := { cls := .type "set", dict := none, data := .set #[] 0 (.fresh 0 0 (!w.params.followText "set-order")) }
abbrev hp0 (w : World) (s : Shared) : Heap := s.heap.push (ob0 w)
section
variable {P : Program} {w : World} {A : Around} {E : Value → Shared → Prop} {s : Shared}
/-- what set(list) leaves -/
abbrev Gath (w : World) (s : Shared) (ns : List Int) (h' : Heap) : Prop := (∃ c, c ≤ ns.length ∧ SetR w h' s.heap.objs.size (fun j => decide (j ∈ ns)) c) ∧ ∀ b o, s.heap.get? b = some o → h'.get? b = some o
theorem set_ofL {l : Addr} {items : Array Value} (ns : List Int) {Q : Value → Shared → Prop} (hn : A.handled = none) (hl : s.heap.IsList l items) (hi : IntsAre items.toList ns) (hb : ns.length + 1 < scanBound)
    (k : ∀ h' tk, Gath w s ns h' → Q (.ref s.heap.objs.size) { s with heap := h', toks := tk }) : wpAny (model P w) A (call (.type "set") [.ref l]) Q E s := by
  have hsz : items.size = ns.length := (Array.length_toList (xs := items)).symm.trans (IntsAre.length hi)
  obtain ⟨_, _, mro⟩ := F.called_set.mro
  have a1 := F.called_set.made
  have a2 := F.called_set.sub
  have a3 := F.called_set.notType
  have a4 := F.called_set.canCreate
  have a5 := F.typeCall_set_1 (.ref l)
  refine wpAny_call (codeAny_of_tree ?_)
  show wpAny _ _ (callAny (.type "set") _) _ _ _
  refine wpAny_pure ⟨Code.quiet_builtin _ (by decide +kernel), codeAny_builtin F.entry_type_call ?_⟩
  rw [Around.under_plain (weight_type_call_type "set" ([.ref l] : List Value) []) rfl]
  repeat (any_goals (first | assumption | wp_step))
  refine codeAny_mono (code_set_led1 (.ref l) (E := E) (Q₁ := fun obj s1 => obj = .ref s.heap.objs.size ∧ s1 = { s with heap := hp0 w s }) ⟨rfl, rfl⟩) fun r s1 hr => ?_
  match r, hr with
  | .error e, hr => exact hr
  | .ok (.ret obj), hr =>
    obtain ⟨rfl, rfl⟩ := hr
    have g0 : (hp0 w s).get? s.heap.objs.size = some (ob0 w) := Heap.get?_push_size _ rfl
    have ty : Shared.TypeIs { s with heap := hp0 w s } (.ref s.heap.objs.size) "set" := ⟨_, g0, rfl⟩
    have b1 := F.called_set.init.lookup
    have b2 := F.called_set.init.bind (.ref s.heap.objs.size)
    repeat (any_goals (first | assumption | wp_step))
    refine codeAny_mono (codeAny_call_builtin (R := wants (fun r s2 => r = .none ∧ ∃ h' tk, s2 = { s with heap := h', toks := tk } ∧ Gath w s ns h') E) F.called_set.init.plain F.entry_set_init (check_set_init_1 ty ?_)) fun r2 s2 hr2 => ?_
    · obtain ⟨⟨oc, od, oda, osl⟩, ho, hc, m, hd⟩ := hl
      simp only at hc hd
      subst hc hd
      have ho' : (hp0 w s).get? l = some { cls := .type "list", dict := od, data := .seq items m, slots := osl } := Heap.get?_push_of_some _ ho
      have c1 := F.sub_list_set
      have c2 := F.sub_list_frozenset
      have c3 : (Value.type "list" == Value.type "dict") = false := by decide
      have il : (hp0 w s).IsList l items := ⟨_, ho', rfl, m, rfl⟩
      unfold Builtin.«set.__init__» noKeywords Builtin.Frozenset.updateFrom
      generalize hp : pyIter = ITER
      wp_walk
      subst hp
      refine wpAny_pyIter_list il (wpAny_bind (wpAny_runValue ?_))
      have lt0 : l < s.heap.objs.size := Heap.lt_size ho
      have sz0 : (hp0 w s).objs.size = s.heap.objs.size + 1 := Heap.size_push ..
      have n1 : l ≠ (hp0 w s).objs.size := by
        rw [sz0]
        exact Nat.ne_of_lt (Nat.lt_succ_of_lt lt0)
      have n2 : s.heap.objs.size ∉ [(hp0 w s).objs.size, l] := by
        rw [sz0, List.mem_cons, List.mem_singleton, not_or]
        exact ⟨Nat.ne_of_lt (Nat.lt_succ_self _), Nat.ne_of_gt lt0⟩
      have val : ∀ (i : Nat) (v : Value), items[i]? = some v → ∃ z t, ns[i]? = some z ∧ v = .int z t := fun i v hv => by
        obtain ⟨t, e⟩ := IntsAre.int_at hi i v (by rw [Array.getElem?_toList]; exact hv)
        have li : i < ns.length := hsz ▸ (Array.getElem?_eq_some_iff.mp hv).1
        rw [List.getD_eq_getElem?_getD, List.getElem?_eq_getElem li] at e
        exact ⟨_, t, List.getElem?_eq_getElem li, e⟩
      have w0 : A.in1.in1.in1.handled = none := by simp [hn]
      refine set_update_ints ((Walks.list w0 _ l n1 items).toS) s.heap.objs.size n2 ns hsz hb val (items.size - 0) 0 _ (by omega) (Nat.zero_le _) ⟨⟨_, Heap.get?_push_size _ rfl, rfl, rfl⟩, il.push _⟩ ⟨0, Nat.le_refl 0, setR_new_at (Heap.get?_push_of_some _ g0)⟩ ?_
      rintro ⟨h', gn, dr, tk', os'⟩ c mv hc hS
      have eg : gn = s.gens := mv.gens
      have ed : dr = s.drawn := mv.drawn
      have eo : os' = s.os := mv.os
      subst eg ed eo
      show wpAny _ _ _ _ _ _
      refine wpAny_pure ?_
      show wpAny _ _ (ret Value.none) _ _ _
      refine wpAny_pure ⟨rfl, h', tk', rfl, ⟨c, by omega, hS⟩, fun b o e => ?_⟩
      have lb : b < s.heap.objs.size := Heap.lt_size e
      refine mv.heap b o ?_ (Heap.get?_push_of_some _ (Heap.get?_push_of_some _ e))
      rw [List.mem_cons, List.mem_singleton, sz0, not_or]
      exact ⟨Nat.ne_of_lt lb, Nat.ne_of_lt (Nat.lt_succ_of_lt lb)⟩
    · match r2, hr2 with
      | .error e, hr2 => exact hr2
      | .ok (.ret r), hr2 =>
        obtain ⟨rfl, h', tk, rfl, hG⟩ := hr2
        repeat (any_goals (first | assumption | wp_step))
        exact k _ _ hG
/-- the members of a set, sorted -/
theorem sort_ofS {a : Addr} {S : Int → Bool} {n : Nat} {Q : Value → Shared → Prop} (R : SetR w s.heap a S n) (hn : A.handled = none) (hz : n ≤ sizeLine)
    (k : ∀ s' p out c ns, (∀ b o, s.heap.get? b = some o → s'.heap.get? b = some o) → s'.gens = s.gens → s'.os = s.os → s.heap.objs.size ≤ p → s'.heap.get? p = some (seqObj "list" out c) →
      IntsAre out.toList ns → ns.Pairwise (· < ·) → (∀ z, z ∈ ns ↔ S z = true) → Q (.ref p) s') : wpAny (model P w) A (call (.builtin "sorted") [.ref a]) Q E s := by
  obtain ⟨o, es, ep, t, ho, hx, hd, good, nodup, mem, hb, fits, size, ris, led⟩ := R
  refine Calls.call_function_entry kind_sorted plain_sorted entry_sorted (args_sorted1 _) ?_
  unfold Builtin.«sorted»
  refine wpAny_bind (m := checkCount "sorted" 1 1 _) (wpAny_pure (wpAny_bind (collect_set (A := A.in1) hn ⟨o, ho, hx.1, hd⟩ fits hb ris led fun s1 vs keep grow gens os perm => ?_)))
  have lv : vs.length = n := (perm.length_eq.trans (List.length_map ..)).trans (Array.length_toList.trans size)
  have iv : ∀ v ∈ vs, ∃ i t, v = Value.int i t := fun v hv => by
    obtain ⟨e, he, q⟩ := List.mem_map.mp (perm.mem_iff.mp hv)
    obtain ⟨z, tk, h1, _⟩ := good e he
    exact ⟨z, tk, q ▸ h1⟩
  have hI := SrtO.ints_iv iv
  have pk : (vs.map SrtO.iv).Perm (es.toList.map keyOf) := by
    have q := perm.map SrtO.iv
    rw [List.map_map] at q
    refine q.trans (List.Perm.of_eq (List.map_congr_left fun e he => ?_))
    obtain ⟨z, tk, h1, _⟩ := good e he
    show SrtO.iv e.2 = keyOf e
    unfold keyOf
    rw [h1]
    rfl
  refine wpAny_bind (wpAny_newList ?_ (by rw [lv]; exact hz))
  have oL : (s1.heap.push (seqObj "list" vs.toArray 0)).get? s1.heap.objs.size = some (seqObj "list" vs.toArray 0) := Heap.get?_push_size _ rfl
  refine wpAny_bind (wpAny_holding (wpAny_call_entry slot_list_sort ⟨_, oL, rfl⟩ entry_list_sort (SrtO.list_sort_ord SrtO.swo_int oL (by rw [lv]; exact hz) (fun h2 => SrtO.ints_sortable hI h2) fun out h1 h2 => ⟨_, rfl, ?_⟩) (args_list_sort _)))
  obtain ⟨k1, k2, k3⟩ := SrtO.ints_out hI h1 h2
  obtain ⟨c, hc⟩ := sortedHeap_at (vs := vs) (out := out.toArray) oL
  have pn := k2.trans pk
  refine wpAny_pure ⟨_, rfl, k _ s1.heap.objs.size out.toArray c _ (fun b u e => ?_) gens os grow hc k1 (lt_of_le_nodup _ k3 (pn.nodup_iff.mpr nodup)) fun z => by rw [pn.mem_iff, ← mem z]⟩
  have lb := Heap.lt_size (keep b u e)
  show (sortedHeap (s1.heap.push (seqObj "list" vs.toArray 0)) s1.heap.objs.size vs out.toArray).get? b = some u
  rw [sortedHeap_old (Nat.ne_of_lt lb) (by rw [size_push']; exact Nat.lt_succ_of_lt lb)]
  exact Heap.get?_push_of_some _ (keep b u e)
end
/-- the ints of a list, each once, from the least on -/
def insU (x : Int) : List Int → List Int
  | [] => [x]
  | y :: r => if x < y then x :: y :: r else if x = y then y :: r else y :: insU x r
def sortU (xs : List Int) : List Int := xs.foldr insU []
theorem insU_mem {x z : Int} : ∀ {l : List Int}, z ∈ insU x l ↔ z = x ∨ z ∈ l
  | [] => by simp [insU]
  | y :: r => by
    unfold insU
    split
    · simp
    · split
      · next h => subst h; simp
      · rw [List.mem_cons, insU_mem (l := r), List.mem_cons]
        constructor
        · rintro (h | h | h)
          · exact .inr (.inl h)
          · exact .inl h
          · exact .inr (.inr h)
        · rintro (h | h | h)
          · exact .inr (.inl h)
          · exact .inl h
          · exact .inr (.inr h)
theorem insU_pw {x : Int} : ∀ {l : List Int}, l.Pairwise (· < ·) → (insU x l).Pairwise (· < ·)
  | [], _ => by simp [insU]
  | y :: r, h => by
    obtain ⟨h1, h2⟩ := List.pairwise_cons.mp h
    unfold insU
    split
    · next c =>
      refine List.pairwise_cons.mpr ⟨fun z hz => ?_, h⟩
      rcases List.mem_cons.mp hz with e | e
      · omega
      · have := h1 z e
        omega
    · split
      · exact h
      · refine List.pairwise_cons.mpr ⟨fun z hz => ?_, insU_pw h2⟩
        rcases insU_mem.mp hz with e | e
        · omega
        · exact h1 z e
theorem sortU_mem {z : Int} : ∀ {xs : List Int}, z ∈ sortU xs ↔ z ∈ xs
  | [] => Iff.rfl
  | x :: r => by
    show z ∈ insU x (sortU r) ↔ _
    rw [insU_mem, sortU_mem (xs := r), List.mem_cons]
theorem sortU_pw : ∀ {xs : List Int}, (sortU xs).Pairwise (· < ·)
  | [] => .nil
  | x :: r => insU_pw (sortU_pw (xs := r))
/-- strictly rising lists with the same members are one -/
theorem pw_eq : ∀ {a b : List Int}, a.Pairwise (· < ·) → b.Pairwise (· < ·) → (∀ z, z ∈ a ↔ z ∈ b) → a = b
  | [], [], _, _, _ => rfl
  | [], y :: b, _, _, h => nomatch (h y).mpr (List.mem_cons_self ..)
  | x :: a, [], _, _, h => nomatch (h x).mp (List.mem_cons_self ..)
  | x :: a, y :: b, ha, hb, h => by
    obtain ⟨a1, a2⟩ := List.pairwise_cons.mp ha
    obtain ⟨b1, b2⟩ := List.pairwise_cons.mp hb
    have e : x = y := by
      rcases List.mem_cons.mp ((h x).mp (List.mem_cons_self ..)) with e | e
      · exact e
      · rcases List.mem_cons.mp ((h y).mpr (List.mem_cons_self ..)) with e2 | e2
        · exact e2.symm
        · have := b1 x e
          have := a1 y e2
          omega
    subst e
    rw [pw_eq a2 b2 fun z => ⟨fun hz => ?_, fun hz => ?_⟩]
    · rcases List.mem_cons.mp ((h z).mp (List.mem_cons_of_mem _ hz)) with e | e
      · have := a1 z hz
        omega
      · exact e
    · rcases List.mem_cons.mp ((h z).mpr (List.mem_cons_of_mem _ hz)) with e | e
      · have := b1 z hz
        omega
      · exact e
theorem sortU_congr {a b : List Int} (h : ∀ z, z ∈ a ↔ z ∈ b) : sortU a = sortU b := pw_eq sortU_pw sortU_pw fun z => by rw [sortU_mem, sortU_mem, h z]
/-! sorted(set(x)) as one expression -/
def tSortSet (K : PySem.W.Frag) (ta : TE) : TE := fun σ H Q => ta σ H fun x H1 => ∃ (l : Addr) (ns : List Int), x = .ref l ∧ SqL K H1 l (ns.map V.int) ∧ ns.length ≤ 4000 ∧ ∀ p, H1 p = none → Q (.ref p) (upd H1 p (.lst ((sortU ns).map V.int)))
theorem sortU_len {xs : List Int} : (sortU xs).length ≤ xs.length := by
  have h : ∀ (x : Int) (l : List Int), (insU x l).length ≤ l.length + 1 := by
    intro x l
    induction l with
    | nil => exact Nat.le_refl _
    | cons y r ih =>
      unfold insU
      split
      · exact Nat.le_refl _
      · split
        · exact Nat.le_succ _
        · exact Nat.succ_le_succ ih
  induction xs with
  | nil => exact Nat.le_refl _
  | cons x r ih => exact Nat.le_trans (h x (sortU r)) (Nat.succ_le_succ ih)
theorem pe_sortSet {X : Cx} {a : Expr} {ta : TE} {p p2 q pos : Pos} (hg : Gl X "sorted") (hm : X.mg "sorted" = none) (hg2 : Gl X "set") (hm2 : X.mg "set" = none) (ha : PE X a ta) (hc : X.calm = true := by rfl)
    (na : starEach [a] X.env = (false, eval a X.env) :: starEach [] X.env := by rfl) : PE X (.Call (.Name "sorted" p) [.Call (.Name "set" p2) [a] [] q] [] pos) (tSortSet X.K ta) := by
  refine ⟨fun pins s σ H Q I h => ?_⟩
  refine Call_ (ld_blt I hg hm (u := .builtin "sorted") (by decide +kernel) (PyProof.Rows.callWith_builtin1 (PyProof.Rows.args_cons ?_ rfl) rfl rfl))
  refine Call_ (ld_blt I hg2 hm2 boot_set (PyProof.Rows.callWith_type1 (PyProof.Rows.args_cons (thn (ha.run pins s σ H _ I h) fun v s1 ⟨x, H1, I1, r1, q1⟩ => PyProof.Rows.args_nil ?_) na) na rfl))
  obtain ⟨l, ns, rfl, hq, hl, q1⟩ := q1
  cases r1
  obtain ⟨its, r, pl, hz⟩ := I1.list hq
  refine set_ofL ns (I1.ok.hd hc) pl.isList (by simpa using RZ.intsAre_vals r) (by unfold scanBound; omega) fun h' tk ⟨⟨c, hc2, hS⟩, keep⟩ => PyProof.Rows.args_nil ?_
  have I2 : Inv X pins σ H1 { s1 with heap := h', toks := tk } := I1.kept keep
  refine sort_ofS hS (I1.ok.hd hc) (by rw [sizeLine_eq]; omega) fun s' b out c' ms k g o hp hob hi hpw hmem => ?_
  have em : ms = sortU ns := pw_eq hpw sortU_pw fun z => by rw [hmem z, sortU_mem, decide_eq_true_eq]
  subst em
  have hn : H1 b = none := I2.hok.fresh hp
  have new : ObjOk X.prog X.w (upd H1 b (.lst ((sortU ns).map V.int))) s'.heap b (.lst ((sortU ns).map V.int)) :=
    ⟨by rw [List.length_map]; have := sortU_len (xs := ns); exact sz_of (by omega), out.toList, c', vals_of_ints hi, by rw [hob]⟩
  have I3 := I2.call' (s' := s') (ch := []) o (Un.laid k hp hn) (I2.hok.laid k hp new) (by rw [g]; exact I2.bare) (fun _ z => nomatch z)
  exact ⟨.ref b, _, I3, rfl, q1 b hn⟩
theorem er_sortSet {K : PySem.W.Frag} {σ : L2.St} {H : Hp} {ta : TE} {xs : List Int} (h : ER K ta σ H xs) (hl : xs.length ≤ 4000) : ER K (tSortSet K ta) σ H (sortU xs) := fun H1 e Q q => h H1 e _ fun v H2 e2 ⟨a, vs, hv, hs, hr⟩ => by
  have hi := rels_ints hr
  subst hi
  exact ⟨a, xs, hv, sq_of hs, hl, fun p hp => q _ _ (e2.trans (Ex.new hp)) ⟨p, _, rfl, upd_same, ints_rels⟩⟩
end Sf

namespace Sf
open PySem PySem.Spec PyProof.Rows L2 Evl
/-! ### enumerate(tuple) -/
abbrev eob (N : Addr) : Obj := { cls := .type "enumerate", data := .fields #[.none, .bool false, .ref N, rawInt 0, .none, .none] }
theorem enum1_new {v : Value} {o : Obj} {G : Heap → Prop} (B : Begins v o G) : Meets (Builtin.«enumerate.__new__» ⟨[.type "enumerate", v], []⟩) (fun _ R s => G s.heap ∧ R (.ok (.ret (.ref (s.heap.push o).objs.size))) { s with heap := (s.heap.push o).push (eob s.heap.objs.size) }) := .of_wp fun prog w A R s ⟨g, h⟩ => by
  obtain ⟨hp, gn, dr, tk, os⟩ := s
  have sub := sub_enumerate
  have it : ∀ {A' : Around} {E : Value → Shared → Prop} {Q : Value → Shared → Prop}, Q (.ref hp.objs.size) ⟨hp.push o, gn, dr, tk, os⟩ → wpAny (model prog w) A' (pyIter v) Q E ⟨hp, gn, dr, tk, os⟩ := fun q => B.iter prog w _ _ _ _ g q
  wp_walk using it
  refine wpAny_stack_any fun st => wpAny_pure ?_
  split
  · rename_i c _ _ _ _ _
    by_cases hc : (c == Value.type "enumerate") = true
    · simp only [hc]
      wp_walk using it
      exact ⟨_, rfl, h⟩
    · simp only [Bool.not_eq_true] at hc
      simp only [hc]
      wp_walk using it
      exact ⟨_, rfl, h⟩
  · wp_walk using it
    exact ⟨_, rfl, h⟩
theorem enum1_call {prog : Program} {w : World} {A : Around} {E : Value → Shared → Prop} {s : Shared} {v : Value} {o : Obj} {G : Heap → Prop} {Q : Value → Shared → Prop} (B : Begins v o G) (g : G s.heap)
    (k : ∀ h', IsEnum h' (s.heap.objs.size + 1) s.heap.objs.size 0 .none → h'.get? s.heap.objs.size = some o → (∀ b u, s.heap.get? b = some u → h'.get? b = some u) → Q (.ref (s.heap.objs.size + 1)) { s with heap := h' }) :
    wpAny (model prog w) A (call (.type "enumerate") [v]) Q E s := by
  refine callType_new F.called_enumerate (by decide) (F.typeCall_enumerate_1 _) (F.newCall_enumerate_1 _) (fun obj => F.args_object_init_2 obj _) F.entry_enumerate_new (enum1_new B) ⟨g, ?_⟩
  have sz : (s.heap.push o).objs.size = s.heap.objs.size + 1 := Heap.size_push ..
  rw [sz]
  have he : IsEnum ((s.heap.push o).push (eob s.heap.objs.size)) (s.heap.objs.size + 1) s.heap.objs.size 0 .none := by
    rw [← sz]
    exact Heap.get?_push_size (s.heap.push o) rfl
  exact ⟨⟨_, he, rfl⟩, k _ he (Heap.get?_push_of_some _ (Heap.get?_push_size _ B.free)) fun b u q => Heap.get?_push_of_some _ (Heap.get?_push_of_some _ q)⟩
/-- the tuple at a, each item in a new pair behind its place -/
def IteT (K : PySem.W.Frag) (a : Addr) (xs : List V) : It where
  go := fun i H => SqT K H a xs ∧ i < xs.length
  yld := fun i H v H' => ∃ T x, v = .ref T ∧ H T = none ∧ H' = upd H T (.tup [.int (i : Nat), x]) ∧ xs[i]? = some x
  stop := fun i H => SqT K H a xs ∧ xs.length ≤ i
theorem tupIt_ne {h : Heap} {a it : Addr} {i : Nat} {its : Array Value} (hit : h.IsTupleIter it a i) (ht : h.IsTuple a its) : a ≠ it := fun z => by
  obtain ⟨o, q, c, _⟩ := hit
  obtain ⟨o', q', c', _⟩ := ht
  rw [z, q] at q'
  cases q'
  rw [c] at c'
  exact absurd c' (by decide)
theorem tupEn_ne {h : Heap} {a e it : Addr} {i : Int} {old : Value} {its : Array Value} (he : IsEnum h e it i old) (ht : h.IsTuple a its) : a ≠ e := fun z => by
  obtain ⟨o', q', c', _⟩ := ht
  rw [z] at q'
  have q2 : h.get? e = some _ := he
  rw [q'] at q2
  cases q2
  exact absurd (show Value.type "enumerate" = Value.type "tuple" from c') (by decide)
theorem turn_enumT {P : Program} {w : World} {K : PySem.W.Frag} {elts : List Expr} {kk : Nat} {tpos : Pos} (a e it : Addr) (xs : List V) : Turn P w K (.Tuple elts kk tpos) (IteT K a xs) [e, it] e (fun i h => (∃ old, IsEnum h e it ((i : Nat) : Int) old) ∧ h.IsTupleIter it a i ∧ e ≠ it ∧ i ≤ xs.length) := by
  refine ⟨by simp, ?_, ?_, ?_, ?_, ?_⟩
  · rintro i h ⟨⟨old, he⟩, ⟨o, ho, hc, hd⟩, _⟩ b hb
    rcases List.mem_cons.mp hb with z | z
    · rw [z]
      exact ⟨_, he, fun v q => nomatch q⟩
    · rw [List.mem_singleton.mp z]
      exact ⟨o, ho, fun v q => by rw [hd] at q; cases q⟩
  · rintro i h h' ⟨⟨old, he⟩, hi, hne⟩ k
    exact ⟨⟨old, k e (by simp) _ he⟩, hi.at fun o q => k it (by simp) o q, hne⟩
  · intro X hP hw hK hc i pins s σ H E I hf ⟨⟨old, he⟩, hit, hne, hle⟩ ⟨hq, hlt⟩
    subst hP hw hK
    obtain ⟨its, rv, p, hz⟩ := I.tuple hq
    obtain ⟨u, hu, ru⟩ := rv.get (List.getElem?_eq_getElem hlt)
    have ht : s.heap.IsTuple a its.toArray := p
    have elt : e < s.heap.objs.size := Heap.lt_size he
    have ilt : it < s.heap.objs.size := by
      obtain ⟨_, q, _⟩ := hit
      exact Heap.lt_size q
    have ane := tupIt_ne hit ht
    have ane2 := tupEn_ne he ht
    have il : i < its.toArray.size := by
      rw [List.size_toArray, ← rv.length]
      exact hlt
    refine wpAny_pyNext_enum_itemD (Draws.tuple (by simpa using I.ok.hd hc) it a ane its.toArray) he ⟨hit, ht⟩ il hne (by simp [hne, Ne.symm ane2]) fun y h' tk hy ho hst hT hsz hk => ?_
    have ey : y = u := by
      rw [List.getElem?_toArray, hu] at hy
      exact (Option.some.inj hy).symm
    subst ey
    refine ⟨_, rfl, wpAny_letOwnedTupleGo_enum (s := { s with heap := h', toks := tk + 1 }) ho fun h2 he2 sb => ?_⟩
    have hT2 : h2.get? s.heap.objs.size = some { cls := .type "tuple", data := .seq #[.int i tk, y] } := (sb.2 _ (Nat.ne_of_gt elt)).trans hT
    have new : ObjOk X.prog X.w (upd H s.heap.objs.size (.tup [.int (i : Nat), xs[i]])) h2 s.heap.objs.size (.tup [.int (i : Nat), xs[i]]) :=
      ⟨by show 2 ≤ sizeLine; decide, [.int i tk, y], .cons ⟨_, rfl⟩ (.cons ru .nil), ⟨_, hT2, rfl, _, rfl⟩⟩
    have I1 : Inv X pins σ (upd H s.heap.objs.size (.tup [.int (i : Nat), xs[i]])) { s with heap := h2, toks := tk + 1 } :=
      I.turnedNew (ch := [e, it]) (fun b ob hb q => (sb.2 b (fun z => hb (by rw [z]; exact List.mem_cons_self ..))).trans (hk b ob (fun z => hb (by rw [z]; exact List.mem_cons_self ..)) (fun z => hb (by rw [z]; exact List.mem_cons_of_mem _ (List.mem_cons_self ..))) q)) hf (Nat.le_refl _) new
    refine ⟨.ref s.heap.objs.size, _, I1, rfl, ⟨_, xs[i], rfl, I.hok.fresh (Nat.le_refl _), rfl, List.getElem?_eq_getElem hlt⟩, ⟨⟨y, by rw [show ((i + 1 : Nat) : Int) = (i : Int) + 1 by omega]; exact he2⟩, hst.1.at fun o q => (sb.2 it (Ne.symm hne)).trans q, hne, hlt⟩, fun b hb => ?_⟩
    have lb : b < s.heap.objs.size := by
      rcases List.mem_cons.mp hb with z | z
      · rw [z]; exact elt
      · rw [List.mem_singleton.mp z]; exact ilt
    rw [upd_ne (Nat.ne_of_lt lb)]
    exact (hf b hb).1
  · intro X hP hw hK hc i pins s σ H E I hf ⟨⟨old, he⟩, hit, hne, hle⟩ ⟨hq, hlt⟩
    subst hP hw hK
    obtain ⟨its, rv, p, hz⟩ := I.tuple hq
    have ht : s.heap.IsTuple a its.toArray := p
    have ei : i = its.toArray.size := by
      rw [List.size_toArray, ← rv.length]
      omega
    subst ei
    obtain ⟨f0, f1, f2, f3, f4, f5⟩ := hf it (by simp)
    exact wpAny_pyNext_enum_endD (Draws.tuple (by simpa using I.ok.hd hc) it a (tupIt_ne hit ht) its.toArray) he ⟨hit, ht⟩ fun h' eb => ⟨rfl, I.turned (t' := s.toks) (fun b o hb q => eb b o hb q) f0 f1 f3 f4 f5⟩
  · intro A i s Q E ⟨⟨old, he⟩, _⟩ h
    exact wpAny_pyIter_enum he h
def iEnumT (K : PySem.W.Frag) (ta : TA) : TI := fun σ H R => ta σ H fun vs H1 => ∃ a xs, vs = [.ref a] ∧ SqT K H1 a xs ∧ R (IteT K a xs) H1
theorem pi_enumT {X : Cx} {e : Expr} {ta : TA} {p pos tpos : Pos} {elts : List Expr} {kk : Nat} (hg : Gl X "enumerate") (hm : X.mg "enumerate" = none) (ha : PA X [e] ta) (hs : starEach [e] X.env = [(false, eval e X.env)] := by rfl) :
    PI X (.Tuple elts kk tpos) (.Call (.Name "enumerate" p) [e] [] pos) (iEnumT X.K ta) := by
  refine ⟨fun pins s σ H R I h => Call_ (ld_blt I hg hm boot_enumerate (PyProof.Rows.callWith_type1 (thn (ha.run pos pins s σ H _ I h) fun us s1 ⟨vs, H1, I1, r1, a, xs, ex, hq, q⟩ => ?_) hs rfl))⟩
  subst ex
  obtain ⟨u, eu, ru⟩ := r1.one
  subst eu
  cases ru
  obtain ⟨its, rv, p', hz⟩ := I1.tuple hq
  have ht : s1.heap.IsTuple a its.toArray := p'
  refine enum1_call (begins_tuple a its.toArray) ht fun h' he hit hk => wpAny_pyIter_enum he ?_
  have I2 : Inv X pins σ H1 { s1 with heap := h' } := I1.kept (t' := s1.toks) hk
  refine ⟨s1.heap.objs.size + 1, [s1.heap.objs.size + 1, s1.heap.objs.size], _, _, H1, rfl, I2, turn_enumT a (s1.heap.objs.size + 1) s1.heap.objs.size xs, ⟨⟨.none, he⟩, ⟨_, hit, rfl, rfl⟩, Nat.succ_ne_self _, Nat.zero_le _⟩, fun b hb => ?_, q⟩
  have hle : s1.heap.objs.size ≤ b := by
    rcases List.mem_cons.mp hb with z | z
    · rw [z]; exact Nat.le_succ _
    · rw [List.mem_singleton.mp z]; exact Nat.le_refl _
  exact I1.fpOk hle (I1.hok.fresh hle)
section
variable {α β γ : Type} [Rep α] [Rep β] [Rep γ] {K : PySem.W.Frag} {σ : L2.St} {H : Hp} {ta : TE}
theorem wk_enumT {xs : List α} (h : ER K ta σ H (Tpl.mk xs)) : Wk K (iEnumT K (tCons ta tNil)) σ H (enum xs) := fun H1 e R k => h H1 e _ fun v H2 e2 ⟨a, vs, hv, hs, hr⟩ => by
  subst hv
  have hl : (enum xs).length = vs.length := by simp [enum, rels_len hr]
  refine ⟨a, vs, rfl, hs, k _ H2 (fun H => SqT K H a vs) (fun i H v H' => ∃ T x, v = .ref T ∧ H T = none ∧ H' = upd H T (.tup [.int (i : Nat), x]) ∧ vs[i]? = some x) e2 ⟨fun i H hi g => ⟨g, by omega⟩, fun H g => ⟨g, by omega⟩, fun i H x H' hi g y => y⟩ (fun H3 e3 => ey_t e3 hs) fun i Ha v Hb hi ea y => ?_⟩
  obtain ⟨T, x1, rfl, hT, rfl, h2⟩ := y
  obtain ⟨x, h3, h4⟩ := rels_get hr h2
  have n := Ex.new (o := .tup [.int (i : Nat), x1]) hT
  exact ⟨n, _, enum_get h3, T, _, _, rfl, st_of upd_same, rfl, Rep.moY (ea.trans n.y) h4⟩
/-- the target is two names: their slots are set in the turn, wiped behind -/
theorem g2_ok {n m : Nat} {x : α × β} {s0 : L2.St} {s1 : V → V → L2.St} {s2 : V → V → L2.St} {v : V} {H1 : Hp} {Q : L2.St → Hp → Prop} {vs : List Nat} (r : Rep.rel K H1 v x) (h0 : wipe σ vs = s0) (hs : ∀ v w, SetAt s0 n v (s1 v w)) (hs2 : ∀ v w, SetAt (s1 v w) m w (s2 v w)) (hw : ∀ v w, wipe (s2 v w) vs = s0)
    (q : ∀ v1 v2, Rep.rel K H1 v1 x.1 → Rep.rel K H1 v2 x.2 → wipe (s2 v1 v2) vs = wipe σ vs → Q (s2 v1 v2) H1) : gTup K 2 (gCons (gName n) (gCons (gName m) gNil)) v (wipe σ vs) H1 Q := by
  obtain ⟨a, v1, v2, hv, hq, r1, r2⟩ := r
  refine ⟨a, [v1, v2], hv, hq, rfl, v1, [v2], rfl, v2, [], rfl, rfl, ?_⟩
  rw [h0, (hs v1 v2).eq, (hs2 v1 v2).eq]
  exact q v1 v2 r1 r2 (by rw [hw, h0])
end
/-! ### tuple(list) -/
def rTupC (K : PySem.W.Frag) : List V → Hp → VK → Prop := fun xs H Q => ∃ p ys, xs = [.ref p] ∧ ((SqL K H p ys ∧ ∀ l, H l = none → Q (.ref l) (upd H l (.tup ys))) ∨ (SqT K H p ys ∧ Q (.ref p) H))
theorem call_tupC {X : Cx} : CallR X (.type "tuple") (rTupC X.K) := call_tuple_of
section
variable {α : Type} [Rep α] {K : PySem.W.Frag} {σ : L2.St} {H : Hp} {ta te : TE}
theorem er_tupC {xs : List α} (h : ER K ta σ H xs) : ER K (tCB (rTupC K) (tCons ta tNil)) σ H (Tpl.mk xs) := fun H1 e Q q => h H1 e _ fun v H2 e2 ⟨a, vs, hv, hs, hr⟩ => by
  subst hv
  refine ⟨a, vs, rfl, .inl ⟨sq_of hs, fun l hl => ?_⟩⟩
  have n := Ex.new (o := .tup vs) hl
  exact q _ _ (e2.trans n) ⟨l, vs, rfl, st_of upd_same, rels_mono n hr⟩
theorem en_tupC {P : List α → Prop} (h : EN K ta σ H P) : EN K (tCB (rTupC K) (tCons ta tNil)) σ H (fun x : Tpl α => P x.l) := fun H1 e Q q => h H1 e _ fun xs v H2 p e2 ⟨a, vs, hv, hs, hr⟩ => by
  subst hv
  refine ⟨a, vs, rfl, .inl ⟨sq_of hs, fun l hl => ?_⟩⟩
  have n := Ex.new (o := .tup vs) hl
  exact q (Tpl.mk xs) _ _ p (e2.trans n) ⟨l, vs, rfl, st_of upd_same, rels_mono n hr⟩
/-- seven parts that make a field -/
def fldOf : List PyData → Fld
  | [.int l, .int h, .int s, .int b, .str o, .str e, .int g] => ⟨l, h, s, b, o, e, g⟩
  | _ => ⟨0, 0, 0, 0, "", "", 0⟩
theorem fldOf_ok {ds : List PyData} (h : isField (.tuple ds) = true) : fokB (fldOf ds) = true ∧ ds = (fldOf ds).ds := by
  unfold isField at h
  split at h
  · next e =>
    cases e
    exact ⟨h, rfl⟩
  · cases h
theorem fokB_ok {f : Fld} (h : fokB f = true) : FOk f := by
  unfold fokB at h
  simp only [Bool.and_eq_true, decide_eq_true_eq] at h
  obtain ⟨⟨⟨⟨h1, h2⟩, h3⟩, h4⟩, h5⟩ := h
  obtain ⟨a, b, c, d, e, g, i⟩ := h1
  exact ⟨a, b, c, d, e, g, i, by simpa using h2, by simpa using h3, h4.1, h4.2, h5⟩
theorem er_fldOf {ds : List PyData} (h : ER K te σ H (Tpl.mk ds)) (hf : isField (.tuple ds) = true) : ER K te σ H (fldOf ds) := fun H1 e Q q => h H1 e Q fun v H2 e2 ⟨a, vs, hv, hs, hr⟩ => by
  refine q v H2 e2 ⟨a, hv, ?_⟩
  have e3 := (fldOf_ok hf).2
  rw [e3] at hr
  have : vs = (fldOf ds).vs := by
    generalize fldOf ds = f at hr
    unfold Fld.ds at hr
    have go : ∀ {vs : List V} {ds : List PyData}, rels K H2 vs ds → ∀ ws : List V, (∀ (i : Nat) (d : PyData), ds[i]? = some d → ∃ w, ws[i]? = some w ∧ ∀ v, Rep.rel K H2 v d → v = w) → ws.length = ds.length → vs = ws := by
      intro vs ds h
      induction h with
      | nil =>
        intro ws _ hl
        exact (List.length_eq_zero_iff.mp hl).symm
      | @cons v d vs ds r _ ih =>
        intro ws hh hl
        match ws, hl with
        | w :: ws, hl =>
          obtain ⟨w', e, g⟩ := hh 0 d rfl
          cases e
          rw [g v r, ih ws (fun i d' hd => hh (i + 1) d' hd) (by simpa using hl)]
    refine go hr f.vs (fun i d hd => ?_) rfl
    match i, hd with
    | 0, hd => cases hd; exact ⟨_, rfl, fun v r => by cases r; rfl⟩
    | 1, hd => cases hd; exact ⟨_, rfl, fun v r => by cases r; rfl⟩
    | 2, hd => cases hd; exact ⟨_, rfl, fun v r => by cases r; rfl⟩
    | 3, hd => cases hd; exact ⟨_, rfl, fun v r => by cases r; rfl⟩
    | 4, hd => cases hd; exact ⟨_, rfl, fun v r => by cases r; rfl⟩
    | 5, hd => cases hd; exact ⟨_, rfl, fun v r => by cases r; rfl⟩
    | 6, hd => cases hd; exact ⟨_, rfl, fun v r => by cases r; rfl⟩
    | i + 7, hd => simp at hd
  rw [← this]
  exact hs
theorem er_lenT3 {α β γ : Type} [Rep α] [Rep β] [Rep γ] {x : Tri α β γ} (h : ER K te σ H x) : ER K (tCB (rLenQ K) (tCons te tNil)) σ H (3 : Int) := fun H1 e Q q => h H1 e _ fun v H2 e2 ⟨a, v1, v2, v3, hv, hs, r1, r2, r3⟩ => ⟨a, [v1, v2, v3], by rw [hv], .inr hs, q _ H2 e2 rfl⟩
end
/-! ### list(range(a, b)), list(range(a, b, c)) -/
section
variable {K : PySem.W.Frag} {σ : L2.St} {H : Hp} {ta tb tc : TE} {i j c : Int}
theorem rg_rng {a b : Int} : rgV a b = (rng a (b - a).toNat).map V.int := by
  unfold rgV rng
  rw [List.map_map]
  rfl
theorem er_listRg1 (h : ER K ta σ H j) (hj : 0 ≤ j ∧ j ≤ 100000) : ER K (tLstRg (tRg1 ta)) σ H (rng 0 j.toNat) := fun H1 e Q q => h H1 e _ fun v H2 e2 r => by
  cases r
  refine ⟨j, rfl, RgOk.of_le (Int.le_refl 0) (by omega) (by omega) hj.1, fun p hp => ?_⟩
  rw [rg_rng, show j - 0 = j by omega]
  exact q _ _ (e2.trans (Ex.new hp)) ⟨p, _, rfl, upd_same, ints_rels⟩
theorem er_listRg2 (h : ER K ta σ H i) (h2 : ER K tb σ H j) (hj : -(2 ^ 62) ≤ i ∧ i < 2 ^ 62 ∧ -(2 ^ 62) ≤ j ∧ j < 2 ^ 62) (hl : j - i ≤ 100000) : ER K (tLstRg (tRg2 ta tb)) σ H (rng i (j - i).toNat) := fun H1 e Q q => h H1 e _ fun v H2 e2 r => h2 H2 (e.trans e2) _ fun v' H3 e3 r3 => by
  cases r
  cases r3
  refine ⟨i, j, rfl, rfl, ⟨hj.1, hj.2.1, hj.2.2.1, hj.2.2.2, by omega⟩, fun p hp => ?_⟩
  rw [rg_rng]
  exact q _ _ ((e2.trans e3).trans (Ex.new hp)) ⟨p, _, rfl, upd_same, ints_rels⟩
/-- i, i + c, .. (n of them) -/
def rgC (i c : Int) (n : Nat) : List Int := (List.range n).map fun k : Nat => i + (k : Int) * c
def tLstRgC (t : TA) : TE := fun σ H Q => t σ H fun vs H3 => ∃ (i j c : Int) (n : Nat), vs = [.int i, .int j, .int c] ∧ RgC i j c n ∧ n ≤ 100000 ∧ ∀ p, H3 p = none → Q (.ref p) (upd H3 p (.lst ((rgC i c n).map V.int)))
theorem pe_listRgC {X : Cx} {a b d : Expr} {p p2 pos pos2 : Pos} {tA : TA} (hc : X.calm = true) (hg : Gl X "list") (hm : X.mg "list" = none) (hg2 : Gl X "range") (hm2 : X.mg "range" = none) (hA : PA X [a, b, d] tA)
    (n1 : starEach [a, b, d] X.env = (false, eval a X.env) :: starEach [b, d] X.env := by rfl) (n2 : (backTo pos2 (starEach [b, d] X.env)).any (·.1) = false := by rfl)
    (n3 : starEach [.Call (.Name "range" p2) [a, b, d] [] pos2] X.env = (false, eval (.Call (.Name "range" p2) [a, b, d] [] pos2) X.env) :: starEach [] X.env := by rfl) :
    PE X (.Call (.Name "list" p) [.Call (.Name "range" p2) [a, b, d] [] pos2] [] pos) (tLstRgC tA) := by
  refine ⟨fun pins s σ H Q I h => Call_ (ld_blt I hg hm boot_list (PyProof.Rows.callWith_type1 (args_cons ?_ n3) n3))⟩
  refine Call_ (ld_blt I hg2 hm2 boot_range (PyProof.Rows.callWith_type1 (thn (hA.run pos2 pins s σ H _ I h) fun us s1 ⟨vs, H1, I1, r1, i, j, c, n, ev, ok, hn, q⟩ => ?_) n1 n2))
  · subst ev
    obtain ⟨c0, c1, c2, c3⟩ := ok
    rcases r1 with _ | ⟨r1, _ | ⟨r2, _ | ⟨r3, _ | _⟩⟩⟩
    obtain ⟨t1, rfl⟩ := r1
    obtain ⟨t2, rfl⟩ := r2
    obtain ⟨t3, rfl⟩ := r3
    refine call_range_3 c0 (args_nil ?_) (.inl (PyProof.noPylong_small c1))
    have I2 : Inv X pins σ H1 { s1 with heap := s1.heap.push { cls := .type "range", data := .fields #[.int i t1, .int j t2, .int c t3] } } := I1.kept (t' := s1.toks) fun b o e => Heap.get?_push_of_some _ e
    refine call_list_range (n := n) (I1.ok.hd hc) (IsRange.new ..) c2 c3 (by omega) fun h' tk acc c' hk e' hi => ?_
    have hv : Vals ((rgC i c n).map V.int) acc.toList := by
      have hl : acc.toList.length = n := (Array.length_toList (xs := acc)).trans hi.1
      unfold rgC
      rw [List.map_map, ← hl]
      refine vals_of_get acc.toList _ fun k u hu => ?_
      obtain ⟨t, rfl⟩ := hi.2 k u (by rw [← hu, Array.getElem?_toList])
      exact ⟨t, rfl⟩
    refine ⟨.ref _, upd H1 _ (.lst ((rgC i c n).map V.int)), I2.laid hk (Nat.le_refl _) (show ObjOk X.prog X.w _ _ _ (.lst ((rgC i c n).map V.int)) from ⟨?_, acc.toList, c', hv, ?_⟩), rfl, q _ (I2.hok.fresh (Nat.le_refl _))⟩
    · rw [List.length_map]
      unfold rgC
      rw [List.length_map, List.length_range]
      exact sz_of hn
    · rw [Array.toArray_toList]
      exact e'
theorem rgC_ok (hi : -(2 ^ 60) ≤ i ∧ i < 2 ^ 60) (hj : -(2 ^ 60) ≤ j ∧ j < 2 ^ 60) (hc : 0 < c) (hc2 : c < 1073741824) : RgC i j c (if i < j then ((j - i - 1) / c + 1).toNat else 0) := by
  have e : Builtin.Range.rangeSize i j c = if i < j then (j - i - 1) / c + 1 else 0 := by
    unfold Builtin.Range.rangeSize
    rw [if_pos hc]
  have d0 : i < j → 0 ≤ (j - i - 1) / c := fun h => Int.ediv_nonneg (by omega) (by omega)
  have d1 : i < j → (j - i - 1) / c ≤ j - i - 1 := fun h => Int.ediv_le_self _ (by omega)
  have d2 : i < j → (j - i - 1) / c * c ≤ j - i - 1 := fun h => (div_le (x := j - i - 1) hc).1
  refine ⟨by omega, by omega, ?_, ?_⟩
  · unfold Builtin.Range.small
    rw [e]
    simp only [Builtin.Range.rangeFitsLong, Bool.and_eq_true, Bool.or_eq_true, decide_eq_true_eq, beq_iff_eq, if_pos hc]
    split <;> omega
  · rw [e]
    split <;> omega
theorem er_listRgC (h : ER K ta σ H i) (h2 : ER K tb σ H j) (h3 : ER K tc σ H c) (hi : -(2 ^ 60) ≤ i ∧ i < 2 ^ 60) (hj : -(2 ^ 60) ≤ j ∧ j < 2 ^ 60) (hc : 0 < c) (hc2 : c < 1073741824) (hn : j - i ≤ 100000 * c) :
    ER K (tLstRgC (tCons ta (tCons tb (tCons tc tNil)))) σ H (rgC i c (if i < j then ((j - i - 1) / c + 1).toNat else 0)) := fun H1 e Q q => h H1 e _ fun v H2 e2 r => h2 H2 (e.trans e2) _ fun v' H3 e3 r3 => h3 H3 ((e.trans e2).trans e3) _ fun v4 H4 e4 r4 => by
  cases r
  cases r3
  cases r4
  refine ⟨i, j, c, _, rfl, rgC_ok hi hj hc hc2, ?_, fun p hp => q _ _ (((e2.trans e3).trans e4).trans (Ex.new hp)) ⟨p, _, rfl, upd_same, ints_rels⟩⟩
  split
  · have : (j - i - 1) / c < 100000 := (Int.ediv_lt_iff_lt_mul hc).mpr (by omega)
    omega
  · omega
end
section
variable {α β γ : Type} [Rep α] [Rep β] [Rep γ] {K : PySem.W.Frag} {σ : L2.St} {H : Hp} {te : TE}
theorem er_ofP2 {x : α} {y : β} {v w : V} (h : EV K te σ H [v, w]) (r1 : ∀ H, Rep.rel K H v x) (r2 : ∀ H, Rep.rel K H w y) : ER K te σ H (x, y) := fun H1 e Q q => h H1 e Q fun p H2 e2 hs => q (.ref p) H2 e2 ⟨p, v, w, rfl, hs, r1 H2, r2 H2⟩
theorem er_ofT3 {x : α} {y : β} {z : γ} {v w u : V} (h : EV K te σ H [v, w, u]) (r1 : ∀ H, Rep.rel K H v x) (r2 : ∀ H, Rep.rel K H w y) (r3 : ∀ H, Rep.rel K H u z) : ER K te σ H (Tri.mk x y z) := fun H1 e Q q => h H1 e Q fun p H2 e2 hs => q (.ref p) H2 e2 ⟨p, v, w, u, rfl, hs, r1 H2, r2 H2, r3 H2⟩
theorem ev_ofT3 {x : Tri Str Str Int} (h : ER K te σ H x) : EV K te σ H [V.str x.a, V.str x.b, V.int x.c] := fun H1 e Q q => h H1 e Q fun v H2 e2 ⟨a, v1, v2, v3, hv, hs, r1, r2, r3⟩ => by
  subst hv
  cases r1
  cases r2
  cases r3
  exact q a H2 e2 hs
theorem enum_mem {xs : List α} {y : Int × α} (h : y ∈ enum xs) : y.2 ∈ xs := by
  unfold enum at h
  obtain ⟨p, hp, rfl⟩ := List.mem_map.mp h
  exact List.fst_mem_of_mem_zipIdx hp
theorem enum_len {xs : List α} : (enum xs).length = xs.length := by simp [enum]
end
end Sf

namespace Sf
open PySem PySem.Spec PyProof.Rows L2 Evl
/-! ### what was seen -/
abbrev Seen1 := Tri Int Sg Int
def fits1 (f : Fld) (t : Seen1) : Bool := (decide (f.low ≤ t.a) && decide (t.a ≤ f.high)) && decide (pressKey f t.a t.b.c = t.c)
def doesFit (f : Fld) (l : List Seen1) : Bool := l.all (fits1 f)
theorem fit_test {f : Fld} {y : Seen1} : (!isBetween (Enc.enc y.a) f.low f.high || !decide (pressKey f y.a y.b.c = y.c)) = !fits1 f y := by
  show (!(decide (f.low ≤ y.a) && decide (y.a ≤ f.high)) || _) = _
  unfold fits1
  simp only [Bool.not_and]
theorem fit_no {f : Fld} {l : List Seen1} {y : Seen1} (hm : y ∈ l) (h : (!isBetween (Enc.enc y.a) f.low f.high || !decide (pressKey f y.a y.b.c = y.c)) = true) : false = doesFit f l := by
  rw [fit_test, Bool.not_eq_true'] at h
  symm
  rw [← Bool.not_eq_true]
  intro z
  have := List.all_eq_true.mp z y hm
  rw [h] at this
  cases this
theorem fit_snoc {f : Fld} {pre : List Seen1} {y : Seen1} (hp : ∀ x ∈ pre, fits1 f x = true) (h : (!isBetween (Enc.enc y.a) f.low f.high || !decide (pressKey f y.a y.b.c = y.c)) = false) : ∀ x ∈ pre ++ [y], fits1 f x = true := by
  rw [fit_test, Bool.not_eq_false'] at h
  intro x hx
  rcases List.mem_append.mp hx with z | z
  · exact hp x z
  · rw [List.mem_singleton.mp z]
    exact h
theorem fit_yes {f : Fld} {l : List Seen1} (hp : ∀ x ∈ l, fits1 f x = true) : true = doesFit f l := (List.all_eq_true.mpr hp).symm
abbrev Man := Tri Str Str Int
abbrev OFFS3 : List Str := ["add", "near", "next"]
abbrev ENDS3 : List Str := ["round", "stay", "stop"]
def withMan (f : Fld) (m : Man) : Fld := Fld.mk f.low f.high f.step f.base m.a m.b m.c
def mans (f : Fld) (l : List Seen1) (o e : Str) : List Man := ((rng 2 11).map fun g => Tri.mk o e g).filter fun m => doesFit (withMan f m) l
def mannersFor (f : Fld) (l : List Seen1) : List Man := OFFS3.flatMap fun o => ENDS3.flatMap fun e => mans f l o e
theorem mans_len {f : Fld} {l : List Seen1} {o e : Str} : (mans f l o e).length ≤ 11 := by
  have := List.length_filter_le (fun m : Man => doesFit (withMan f m) l) ((rng 2 11).map fun g => Tri.mk o e g)
  rw [List.length_map, rng_len] at this
  exact this
theorem man33 {f : Fld} {l : List Seen1} (o : Str) : (ENDS3.flatMap fun e => mans f l o e).length ≤ 33 := by
  simp only [List.flatMap_cons, List.flatMap_nil, List.length_append, List.length_nil]
  have h1 := mans_len (f := f) (l := l) (o := o) (e := "round")
  have h2 := mans_len (f := f) (l := l) (o := o) (e := "stay")
  have h3 := mans_len (f := f) (l := l) (o := o) (e := "stop")
  omega
/-! ### values that stand for all -/
def half (f : Fld) : Int := (f.step + 1) / 2
def rests0 (f : Fld) : List Int := [0, 1, half f - 1, half f, half f + 1, f.step - 1]
def restsE (f : Fld) (e : Int) : List Int := ([-1, 0, 1] : List Int).map fun m => (e - f.base) % f.step + m
def restsAll (f : Fld) : List Int := rests0 f ++ [f.low, f.high].flatMap (restsE f)
def restsOf (f : Fld) : List Int := sortU ((restsAll f).map fun r => r % f.step)
theorem restsAll_len {f : Fld} : (restsAll f).length = 12 := rfl
theorem restsOf_len {f : Fld} : (restsOf f).length ≤ 12 := by
  have := sortU_len (xs := (restsAll f).map fun r => r % f.step)
  rw [List.length_map, restsAll_len] at this
  exact this
def mid (f : Fld) : Int := (f.low + f.high) / 2
def placeOf (f : Fld) (c : Int) : Int := (c - f.base) / f.step
def nearOf (f : Fld) (many c : Int) : Int := if c = mid f then 1 else many + 2
def rowAt (f : Fld) (i : Int) : List Int := (restsOf f).map fun r => f.base + i * f.step + r
def blockAt (f : Fld) (many c : Int) : List Int := (rng (placeOf f c - nearOf f many c) (2 * nearOf f many c + 1).toNat).flatMap (rowAt f)
def spots0 (f : Fld) : List Int := [f.low, f.low + 1, f.high - 1, f.high]
def spots (f : Fld) (many : Int) : List Int := spots0 f ++ [f.low, mid f, f.high].flatMap (blockAt f many)
def insideB (f : Fld) (v : Int) : Bool := decide (f.low ≤ v) && decide (v ≤ f.high)
def valuesOf (f : Fld) (many : Int) : List Int := if f.high - f.low ≤ 400 then rng f.low (f.high + 1 - f.low).toNat else sortU ((spots f many).filter (insideB f))
theorem flat_len {α β : Type} {g : α → List β} {n : Nat} : ∀ {l : List α}, (∀ x ∈ l, (g x).length ≤ n) → (l.flatMap g).length ≤ n * l.length
  | [], _ => Nat.zero_le _
  | x :: r, h => by
    have h1 := h x (List.mem_cons_self ..)
    have h2 := flat_len (l := r) fun y hy => h y (List.mem_cons_of_mem _ hy)
    rw [List.flatMap_cons, List.length_append, List.length_cons, Nat.mul_succ]
    omega
theorem row_len {f : Fld} {i : Int} : (rowAt f i).length ≤ 12 := by
  unfold rowAt
  rw [List.length_map]
  exact restsOf_len
theorem block_len {f : Fld} {many c : Int} (h : 0 ≤ many ∧ many ≤ 79) : (blockAt f many c).length ≤ 1956 ∧ (c = mid f → (blockAt f many c).length ≤ 36) := by
  have h1 := flat_len (g := rowAt f) (n := 12) (l := rng (placeOf f c - nearOf f many c) (2 * nearOf f many c + 1).toNat) fun x _ => row_len
  rw [rng_len] at h1
  have hn : 1 ≤ nearOf f many c ∧ nearOf f many c ≤ 81 ∧ (c = mid f → nearOf f many c = 1) := by
    unfold nearOf
    split
    · exact ⟨by omega, by omega, fun _ => rfl⟩
    · next g => exact ⟨by omega, by omega, fun z => absurd z g⟩
  unfold blockAt
  exact ⟨by omega, fun e => by have := hn.2.2 e; omega⟩
theorem spots_len {f : Fld} {many : Int} (h : 0 ≤ many ∧ many ≤ 79) : (spots f many).length ≤ 4000 := by
  have a := (block_len (f := f) (c := f.low) h).1
  have b := (block_len (f := f) (c := mid f) h).2 rfl
  have c := (block_len (f := f) (c := f.high) h).1
  unfold spots spots0
  simp only [List.flatMap_cons, List.flatMap_nil, List.length_append, List.length_cons, List.length_nil]
  omega
theorem values_len {f : Fld} {many : Int} (h : f.high - f.low ≤ 400 ∨ (0 ≤ many ∧ many ≤ 79)) : (valuesOf f many).length ≤ 4000 := by
  unfold valuesOf
  split
  · rw [rng_len]
    omega
  · have h1 := sortU_len (xs := (spots f many).filter (insideB f))
    have h2 := List.length_filter_le (insideB f) (spots f many)
    have h3 := spots_len (f := f) (many := many) (by omega)
    omega
theorem values_len2 {f : Fld} {many : Int} (h : f.high - f.low ≤ 400 ∨ (0 ≤ many ∧ many ≤ 14)) : (valuesOf f many).length ≤ 900 := by
  unfold valuesOf
  split
  · rw [rng_len]
    omega
  · have h1 := sortU_len (xs := (spots f many).filter (insideB f))
    have h2 := List.length_filter_le (insideB f) (spots f many)
    have g : ∀ c, (blockAt f many c).length ≤ 396 := fun c => by
      have k := flat_len (g := rowAt f) (n := 12) (l := rng (placeOf f c - nearOf f many c) (2 * nearOf f many c + 1).toNat) fun x _ => row_len
      rw [rng_len] at k
      have hn : 1 ≤ nearOf f many c ∧ nearOf f many c ≤ 16 := by
        unfold nearOf
        split <;> omega
      unfold blockAt
      omega
    have a := g f.low
    have b := (block_len (f := f) (many := many) (c := mid f) (by omega)).2 rfl
    have c := g f.high
    have h3 : (spots f many).length ≤ 900 := by
      unfold spots spots0
      simp only [List.flatMap_cons, List.flatMap_nil, List.length_append, List.length_cons, List.length_nil]
      omega
    omega
theorem values_in {f : Fld} {many v : Int} (h : v ∈ valuesOf f many) : f.low ≤ v ∧ v ≤ f.high := by
  unfold valuesOf at h
  split at h
  · have := rng_mem.mp h
    omega
  · have := (List.mem_filter.mp (sortU_mem.mp h)).2
    unfold insideB at this
    simp only [Bool.and_eq_true, decide_eq_true_eq] at this
    exact this
/-- small fields: all values -/
theorem values_all {f : Fld} {many v : Int} (hs : f.high - f.low ≤ 400) : v ∈ valuesOf f many ↔ f.low ≤ v ∧ v ≤ f.high := by
  unfold valuesOf
  rw [if_pos hs, rng_mem]
  omega
theorem flat_pre {α β : Type} {l pre post : List α} {y : α} {g : α → List β} {n m : Nat} (hx : l = pre ++ y :: post) (hl : l.length ≤ m) (hg : ∀ x, (g x).length ≤ n) : (pre.flatMap g).length ≤ n * m := by
  have h1 := flat_len (g := g) (n := n) (l := pre) fun x _ => hg x
  have h2 := congrArg List.length hx
  rw [List.length_append, List.length_cons] at h2
  exact Nat.le_trans h1 (Nat.mul_le_mul_left n (by omega))
theorem block_eq {f : Fld} {many y place near : Int} (dp : place = (y - f.base) / f.step) (dn : near = if (!decide (y = ((f.low + f.high) / 2))) = true then (many + 2) else 1) : (rng (place - near) (((place + near) + 1) - (place - near) : Int).toNat).flatMap (rowAt f) = blockAt f many y := by
  have en : near = nearOf f many y := by
    rw [dn]
    unfold nearOf mid
    by_cases h : y = (f.low + f.high) / 2
    · rw [decide_eq_true h, if_pos h]
      rfl
    · rw [decide_eq_false h, if_neg h]
      rfl
  unfold blockAt placeOf
  rw [← dp, ← en, show place + near + 1 - (place - near) = 2 * near + 1 by omega]
theorem div_abs {x s : Int} (hs : 1 ≤ s) : (0 ≤ x → 0 ≤ x / s ∧ x / s ≤ x) ∧ (x ≤ 0 → x ≤ x / s ∧ x / s ≤ 0) := by
  have a := div_le (x := x) (y := s) (by omega)
  constructor
  · intro h
    exact ⟨Int.ediv_nonneg h (by omega), Int.ediv_le_self _ h⟩
  · intro h
    refine ⟨(Int.le_ediv_iff_mul_le (by omega)).mpr ?_, ?_⟩
    · have h1 : x * s ≤ x * 1 := Int.mul_le_mul_of_nonpos_left h hs
      omega
    · have h1 : x / s < 1 := (Int.ediv_lt_iff_lt_mul (by omega)).mpr (by omega)
      omega
/-! ### the first value and key at which two fields part -/
abbrev keys6 : List Sg := sgs "udUDhe"
def sameAt (one other : Fld) (v : Int) (k : Sg) : Prop := pressKey one v k.c = pressKey other v k.c
instance (one other : Fld) (v : Int) (k : Sg) : Decidable (sameAt one other v k) := by unfold sameAt; infer_instance
def firstKey (one other : Fld) (v : Int) : List Sg → Option Sg
  | [] => none
  | k :: r => if sameAt one other v k then firstKey one other v r else some k
def firstVal (one other : Fld) : List Int → Option (Int × Sg)
  | [] => none
  | v :: r => match firstKey one other v keys6 with
    | some k => some (v, k)
    | none => firstVal one other r
theorem firstKey_none {one other : Fld} {v : Int} : ∀ {ks : List Sg}, firstKey one other v ks = none ↔ ∀ k ∈ ks, sameAt one other v k
  | [] => ⟨fun _ _ h => (nomatch h), fun _ => rfl⟩
  | k :: r => by
    unfold firstKey
    split
    · next h =>
      rw [firstKey_none (ks := r)]
      exact ⟨fun g x hx => (List.mem_cons.mp hx).elim (fun z => z ▸ h) (fun z => g x z), fun g x hx => g x (List.mem_cons_of_mem _ hx)⟩
    · next h => exact ⟨fun z => (nomatch z), fun g => absurd (g k (List.mem_cons_self ..)) h⟩
theorem firstKey_at {one other : Fld} {v : Int} {k : Sg} {b : List Sg} : ∀ {a : List Sg}, (∀ x ∈ a, sameAt one other v x) → ¬ sameAt one other v k → firstKey one other v (a ++ k :: b) = some k
  | [], _, h => by
    show (if sameAt one other v k then firstKey one other v b else some k) = _
    rw [if_neg h]
  | x :: a, ha, h => by
    show (if sameAt one other v x then firstKey one other v (a ++ k :: b) else some x) = _
    rw [if_pos (ha x (List.mem_cons_self ..))]
    exact firstKey_at (fun y hy => ha y (List.mem_cons_of_mem _ hy)) h
theorem firstVal_none {one other : Fld} : ∀ {vs : List Int}, firstVal one other vs = none ↔ ∀ v ∈ vs, ∀ k ∈ keys6, sameAt one other v k
  | [] => ⟨fun _ _ h => (nomatch h), fun _ => rfl⟩
  | v :: r => by
    unfold firstVal
    split
    · next k h =>
      constructor
      · intro z
        cases z
      · intro g
        have := firstKey_none.mpr (g v (List.mem_cons_self ..))
        rw [h] at this
        cases this
    · next h =>
      rw [firstVal_none (vs := r)]
      have h1 := firstKey_none.mp h
      exact ⟨fun g x hx => (List.mem_cons.mp hx).elim (fun z => z ▸ h1) (fun z => g x z), fun g x hx => g x (List.mem_cons_of_mem _ hx)⟩
theorem firstVal_at {one other : Fld} {v : Int} {k : Sg} {b : List Int} (hk : firstKey one other v keys6 = some k) : ∀ {a : List Int}, (∀ x ∈ a, ∀ k ∈ keys6, sameAt one other x k) → firstVal one other (a ++ v :: b) = some (v, k)
  | [], _ => by
    show (match firstKey one other v keys6 with | some k => some (v, k) | none => firstVal one other b) = _
    rw [hk]
  | x :: a, ha => by
    show (match firstKey one other x keys6 with | some k => some (x, k) | none => firstVal one other (a ++ v :: b)) = _
    rw [firstKey_none.mpr (ha x (List.mem_cons_self ..))]
    exact firstVal_at hk fun y hy => ha y (List.mem_cons_of_mem _ hy)
theorem firstKey_some {one other : Fld} {v : Int} {k : Sg} : ∀ {ks : List Sg}, firstKey one other v ks = some k → k ∈ ks ∧ ¬ sameAt one other v k
  | [], h => nomatch h
  | x :: r, h => by
    unfold firstKey at h
    split at h
    · obtain ⟨a, b⟩ := firstKey_some (ks := r) h
      exact ⟨List.mem_cons_of_mem _ a, b⟩
    · next hx =>
      cases h
      exact ⟨List.mem_cons_self .., hx⟩
theorem firstVal_some {one other : Fld} {p : Int × Sg} : ∀ {vs : List Int}, firstVal one other vs = some p → p.1 ∈ vs ∧ firstKey one other p.1 keys6 = some p.2
  | [], h => nomatch h
  | v :: r, h => by
    unfold firstVal at h
    split at h
    · next k hk =>
      cases h
      exact ⟨List.mem_cons_self .., hk⟩
    · obtain ⟨a, b⟩ := firstVal_some (vs := r) h
      exact ⟨List.mem_cons_of_mem _ a, b⟩
theorem sameAt_symm {one other : Fld} {v : Int} {k : Sg} : sameAt one other v k ↔ sameAt other one v k := ⟨Eq.symm, Eq.symm⟩
theorem firstKey_symm {one other : Fld} {v : Int} : ∀ {ks : List Sg}, firstKey one other v ks = firstKey other one v ks
  | [] => rfl
  | k :: r => by
    unfold firstKey
    simp only [sameAt_symm (one := one), firstKey_symm (ks := r)]
theorem firstVal_symm {one other : Fld} : ∀ {vs : List Int}, firstVal one other vs = firstVal other one vs
  | [] => rfl
  | v :: r => by
    unfold firstVal
    rw [firstKey_symm, firstVal_symm (vs := r)]
def partSpots (one other : Fld) : List Int := sortU (valuesOf one (one.big + 1) ++ valuesOf other (other.big + 1))
def partOf (one other : Fld) : Option (Int × Sg) := firstVal one other (partSpots one other)
theorem partOf_symm {one other : Fld} : partOf one other = partOf other one := by
  have e : partSpots one other = partSpots other one := sortU_congr fun z => by
    simp only [List.mem_append]
    exact or_comm
  unfold partOf
  rw [firstVal_symm, e]
theorem part_go1 {one other : Fld} {v : Int} {k : Sg} {kpre kpost : List Sg} {vs vpre vpost : List Int} (hk : keys6 = kpre ++ k :: kpost) (hv : vs = vpre ++ v :: vpost) (h1 : ∀ x ∈ vpre, ∀ k ∈ keys6, sameAt one other x k) (h2 : ∀ x ∈ kpre, sameAt one other v x) (h3 : ¬ sameAt one other v k) : some (v, k) = firstVal one other vs := by
  rw [hv]
  refine (firstVal_at ?_ h1).symm
  rw [hk]
  exact firstKey_at h2 h3
/-! ### small fields -/
theorem partSpots_all {one other : Fld} {v : Int} (hs : one.high - one.low ≤ 400) (hl : other.low = one.low) (hh : other.high = one.high) : v ∈ partSpots one other ↔ one.low ≤ v ∧ v ≤ one.high := by
  unfold partSpots
  rw [sortU_mem, List.mem_append, values_all hs, values_all (by rw [hl, hh]; exact hs), hl, hh, or_self]
theorem partSpots_rng {one other : Fld} (hs : one.high - one.low ≤ 400) (hl : other.low = one.low) (hh : other.high = one.high) : partSpots one other = rng one.low (one.high + 1 - one.low).toNat := by
  refine pw_eq sortU_pw ?_ fun z => ?_
  · unfold rng
    rw [List.pairwise_map]
    refine List.Pairwise.imp ?_ List.pairwise_lt_range
    intro a b h
    omega
  · refine (partSpots_all (v := z) hs hl hh).trans ?_
    rw [rng_mem]
    omega
/-! ### rows -/
def partHere (f : Fld) (a b : List Nat) : Option Int := (valuesOf f (max (a.length : Int) (b.length : Int) * f.big)).find? fun v => !decide (pressRow f v a = pressRow f v b)
theorem find_at {α : Type} {p : α → Bool} {x : α} {b : List α} : ∀ {a : List α}, (∀ y ∈ a, p y = false) → p x = true → (a ++ x :: b).find? p = some x
  | [], _, h => by rw [List.nil_append, List.find?_cons_of_pos h]
  | y :: a, ha, h => by
    rw [List.cons_append, List.find?_cons_of_neg (by rw [ha y (List.mem_cons_self ..)]; exact Bool.false_ne_true)]
    exact find_at (fun z hz => ha z (List.mem_cons_of_mem _ hz)) h
/-! ### a near field -/
theorem encT {ds : List PyData} : (Enc.enc (Tpl.mk ds) : PyData) = .tuple ds := by
  show PyData.tuple (ds.map id) = _
  rw [List.map_id]
def NearDs (f : Fld) (ds : List PyData) : Prop := ds.length = 7 ∧ ds[0]? = some (.int f.low) ∧ ds[1]? = some (.int f.high)
theorem near_set {f : Fld} {ds : List PyData} {k : Nat} {x : PyData} (h : NearDs f ds) (hk : 2 ≤ k) : NearDs f (ds.set k x) := by
  obtain ⟨h1, h2, h3⟩ := h
  refine ⟨by rw [List.length_set]; exact h1, ?_, ?_⟩
  · rw [List.getElem?_set_ne (by omega)]
    exact h2
  · rw [List.getElem?_set_ne (by omega)]
    exact h3
theorem near_0 {f : Fld} : NearDs f f.ds := ⟨rfl, rfl, rfl⟩
theorem near_ix {f : Fld} {ds : List PyData} {k : Nat} (h : NearDs f ds) (hk : k < 7) : L2.ixN ds.length (k : Int) = some k := by
  rw [h.1]
  unfold L2.ixN
  rw [if_pos (by omega), if_pos (by omega)]
  simp
/-- what a near field keeps -/
structure NearPost (f z : Fld) : Prop where
  ok : FOk z
  low : z.low = f.low
  high : z.high = f.high
theorem near_post {f : Fld} {ds : List PyData} (hf : FOk f) (h : NearDs f ds) : NearPost f (if isField (Enc.enc (Tpl.mk ds)) = true then fldOf ds else f) := by
  split
  · next z =>
    rw [encT] at z
    obtain ⟨k1, k2⟩ := fldOf_ok z
    obtain ⟨h1, h2, h3⟩ := h
    rw [k2] at h2 h3
    have e2 : PyData.int (fldOf ds).low = .int f.low := Option.some.inj h2
    have e3 : PyData.int (fldOf ds).high = .int f.high := Option.some.inj h3
    injection e2 with e2
    injection e3 with e3
    exact ⟨fokB_ok k1, e2, e3⟩
  · exact ⟨hf, rfl, rfl⟩
/-! ### rows with a key left out, put in -/
theorem cutS_list {z : Str} {lo hi : Option Int} : (cutS z lo hi).cps.toList = (z.cps.toList.drop (HT.sIx z.length 0 lo)).take (HT.sIx z.length z.length hi - HT.sIx z.length 0 lo) := by
  unfold cutS
  simp
theorem sIx_some {n d : Nat} {i : Int} (h : 0 ≤ i) : HT.sIx n d (some i) = min i.toNat n := by
  unfold HT.sIx
  simp only []
  split <;> omega
theorem cut_to {z : Str} {i : Int} (h : 0 ≤ i) : (cutS z none (some i)).cps.toList = z.cps.toList.take i.toNat := by
  rw [cutS_list, sIx_some h]
  show (z.cps.toList.drop 0).take (min i.toNat z.length - 0) = _
  rw [List.drop_zero, Nat.sub_zero, lenL, ← List.take_eq_take_min]
theorem cut_from {z : Str} {i : Int} (h : 0 ≤ i) : (cutS z (some i) none).cps.toList = z.cps.toList.drop i.toNat := by
  rw [cutS_list, sIx_some h]
  show (z.cps.toList.drop (min i.toNat z.length)).take (z.length - min i.toNat z.length) = _
  rw [lenL]
  by_cases c : i.toNat ≤ z.cps.toList.length
  · rw [Nat.min_eq_left c, List.take_of_length_le (by rw [List.length_drop]; omega)]
  · rw [Nat.min_eq_right (by omega), List.drop_eq_nil_of_le (Nat.le_refl _), List.drop_eq_nil_of_le (by omega), List.take_nil]
def without (z : Str) (i : Int) : Str := cutS z none (some i) ++ cutS z (some (i + 1)) none
theorem without_list {z : Str} {i : Int} (h : 0 ≤ i) : (without z i).cps.toList = z.cps.toList.take i.toNat ++ z.cps.toList.drop (i.toNat + 1) := by
  unfold without
  rw [catL, cut_to h, cut_from (by omega), show (i + 1).toNat = i.toNat + 1 by omega]
theorem without_ok {z : Str} {i : Int} (h : 0 ≤ i) (hz : rowOk z) : rowOk (without z i) := by
  unfold rowOk
  rw [without_list h]
  refine ⟨?_, fun c hc => ?_⟩
  · rw [List.length_append, List.length_take, List.length_drop]
    have := hz.1
    omega
  · rcases List.mem_append.mp hc with k | k
    · exact hz.2 c (List.mem_of_mem_take k)
    · exact hz.2 c (List.mem_of_mem_drop k)
theorem row_len40 {z : Str} (h : rowOk z) : z.length ≤ 40 := by
  rw [lenL]
  exact h.1
theorem cat_ok {x y : Str} (hx : ∀ c ∈ x.cps.toList, isKey c) (hy : ∀ c ∈ y.cps.toList, isKey c) (h : x.length + y.length ≤ 40) : rowOk (x ++ y) := by
  unfold rowOk
  rw [catL]
  refine ⟨by rw [List.length_append, ← lenL, ← lenL]; exact h, fun c hc => ?_⟩
  rcases List.mem_append.mp hc with k | k
  · exact hx c k
  · exact hy c k
theorem lenCat {x y : Str} : (x ++ y).length = x.length + y.length := by
  rw [lenL, catL, List.length_append, ← lenL, ← lenL]
/-- rows may be compared -/
def RB (f : Fld) (n : Int) : Prop := f.high - f.low ≤ 400 ∨ n * f.big ≤ 79
def partRows (f : Fld) (a b : Str) : Option Int := partHere f a.cps.toList b.cps.toList
def idleKeys (f : Fld) (z : Str) : List Int := (rng 0 z.length).filter fun i => (partRows f z (without z i)).isNone
def fixedB (f : Fld) (z : Str) : Bool := (valuesOf f ((z.length : Int) * f.big)).any fun v => decide (pressRow f v z.cps.toList = v)
theorem cutS_le {z : Str} {lo hi : Option Int} : (cutS z lo hi).length ≤ z.length := by
  rw [lenL, cutS_list, List.length_take, List.length_drop, lenL]
  omega
theorem without_le {z : Str} {i : Int} (h : 0 ≤ i) : (without z i).length ≤ z.length := by
  rw [lenL, without_list h, List.length_append, List.length_take, List.length_drop, lenL]
  omega
theorem idle_rb {f : Fld} {z : Str} {i : Int} (h : 0 ≤ i) (hn : RB f (z.length : Int)) : RB f (max (z.length : Int) ((without z i).length : Int)) := by
  have := without_le (z := z) h
  rw [show max (z.length : Int) ((without z i).length : Int) = (z.length : Int) by omega]
  exact hn
theorem rng_0 {n : Nat} {i : Int} (h : i ∈ rng 0 n) : 0 ≤ i := (rng_mem.mp h).1
theorem here_some {f : Fld} {a b : Str} {v : Int} {l pre post : List Int} (hl : l = valuesOf f (max (a.length : Int) (b.length : Int) * f.big)) (hx : l = pre ++ v :: post) (hp : ∀ x ∈ pre, pressRow f x a.cps.toList = pressRow f x b.cps.toList) (h : (!decide (pressRow f v a.cps.toList = pressRow f v b.cps.toList)) = true) : some v = partRows f a b := by
  unfold partRows partHere
  rw [← lenL, ← lenL, ← hl, hx]
  exact (find_at (p := fun v => !decide (pressRow f v a.cps.toList = pressRow f v b.cps.toList)) (x := v) (fun y hy => by rw [decide_eq_true (hp y hy)]; rfl) h).symm
theorem here_none {f : Fld} {a b : Str} {l : List Int} (hl : l = valuesOf f (max (a.length : Int) (b.length : Int) * f.big)) (hp : ∀ x ∈ l, pressRow f x a.cps.toList = pressRow f x b.cps.toList) : none = partRows f a b := by
  unfold partRows partHere
  rw [← lenL, ← lenL, ← hl]
  symm
  rw [List.find?_eq_none]
  intro x hx
  rw [decide_eq_true (hp x hx)]
  exact Bool.false_ne_true
theorem partRows_none {f : Fld} {a b : Str} : partRows f a b = none ↔ ∀ v ∈ valuesOf f (max (a.length : Int) (b.length : Int) * f.big), pressRow f v a.cps.toList = pressRow f v b.cps.toList := by
  unfold partRows partHere
  rw [← lenL, ← lenL, List.find?_eq_none]
  constructor
  · intro h v hv
    have := h v hv
    simpa using this
  · intro h v hv
    rw [decide_eq_true (h v hv)]
    exact Bool.false_ne_true
theorem partRows_some {f : Fld} {a b : Str} {v : Int} (h : partRows f a b = some v) : v ∈ valuesOf f (max (a.length : Int) (b.length : Int) * f.big) ∧ pressRow f v a.cps.toList ≠ pressRow f v b.cps.toList := by
  unfold partRows partHere at h
  rw [← lenL, ← lenL] at h
  refine ⟨List.mem_of_find?_eq_some h, ?_⟩
  have := List.find?_some h
  simpa using this
/-! ### a list of drawn things is made, to be changed -/
theorem n_newL {α : Type} [Rep α] (K : PySem.W.Frag) {σ : L2.St} {H : Hp} {tA : TA} {u : TS} {D : Ends} {n m : Nat} {P : α → Prop} {s' : V → L2.St} (h : ENs K tA σ H m P) (hm : m ≤ 100000) (s : ∀ v, SetAt σ n v (s' v)) (g : ∀ l, (s' (.ref l))[n]? = some (some (.ref l)))
    (k : ∀ (xs : List α) l ws H1, xs.length = m → (∀ x ∈ xs, P x) → H l = none → Ex H H1 → H1 l = some (MutO l ws) → rels K H1 ws xs → u D (s' (.ref l)) H1) : tSeq (tAsg (tLst tA) (gName n)) (tClose n u) D σ H :=
  h H (Ex.refl H) _ fun xs vs H1 hl hp e rs => ⟨by rw [rels_len rs, hl]; exact sz_of hm, fun p hq => by
    show tClose n u D (σ.set n (some (.ref p))) (upd H1 p (.lst vs))
    rw [(s _).eq]
    refine ⟨p, vs, g p, upd_same, ?_⟩
    rw [upd_upd]
    exact k xs p vs _ hl hp (fresh_back e hq) (e.trans (Ex.new hq)) upd_same (rels_mono (Ex.new hq) rs)⟩
theorem atI_last {α : Type} {xs : List α} {d : α} (h : 1 ≤ xs.length) : atI xs (-1) = some (xs.getD (xs.length - 1) d) := by
  unfold atI
  have e : L2.ixN xs.length (-1) = some (xs.length - 1) := by
    unfold L2.ixN
    rw [if_neg (by omega), if_pos (by omega)]
    congr 1
    omega
  rw [e]
  show xs[xs.length - 1]? = _
  rw [List.getD_eq_getElem?_getD, List.getElem?_eq_getElem (by omega)]
  rfl
theorem ixN_last {α : Type} {xs : List α} (h : 1 ≤ xs.length) : L2.ixN xs.length (-1) = some (xs.length - 1) := by
  unfold L2.ixN
  rw [if_neg (by omega), if_pos (by omega)]
  congr 1
  omega
theorem getD_mem {α : Type} {xs : List α} {i : Nat} {d : α} (h : i < xs.length) : xs.getD i d ∈ xs := by
  rw [List.getD_eq_getElem?_getD, List.getElem?_eq_getElem h]
  exact List.getElem_mem h
theorem nb_t {b : Bool} (h : (!b) = true) : b = false := by
  cases b
  · rfl
  · cases h
theorem nb_f {b : Bool} (h : (!b) = false) : b = true := by
  cases b
  · cases h
  · rfl
theorem n_setL {α : Type} [Rep α] (K : PySem.W.Frag) {σ : L2.St} {H : Hp} {tA : TA} {u : TS} {D : Ends} {n m : Nat} {P : α → Prop} {s' : V → L2.St} (h : ENs K tA σ H m P) (hm : m ≤ 100000) (s : ∀ v, SetAt σ n v (s' v))
    (k : ∀ (xs : List α) v H1, xs.length = m → (∀ x ∈ xs, P x) → Ex H H1 → Rep.rel K H1 v xs → u D (s' v) H1) : tSeq (tAsg (tLst tA) (gName n)) u D σ H :=
  h H (Ex.refl H) _ fun xs vs H1 hl hp e rs => ⟨by rw [rels_len rs, hl]; exact sz_of hm, fun p hq => by
    show u D (σ.set n (some (.ref p))) (upd H1 p (.lst vs))
    rw [(s _).eq]
    exact k xs (.ref p) _ hl hp (e.trans (Ex.new hq)) ⟨p, vs, rfl, upd_same, rels_mono (Ex.new hq) rs⟩⟩
section
variable {α β γ : Type} [Rep α] [Rep β] [Rep γ] {K : PySem.W.Frag} {σ : L2.St} {H : Hp} {te tb : TE} {tl th : TO} {r : V → Option Int → Option Int → Hp → VK → Prop} {P1 : α → Prop} {P2 : β → Prop} {P : γ → Prop}
theorem en_slV (ha : EN K te σ H P1) (h : ∀ x v H1, Ex H H1 → P1 x → Rep.rel K H1 v x → EN K (tSl r (tC v) tl th) σ H1 P) : EN K (tSl r te tl th) σ H P := fun H1 e Q q =>
  ha H1 e _ fun x v H2 p1 e2 r1 => h x v H2 (e.trans e2) p1 r1 H2 (Ex.refl _) Q fun z v' H4 p e4 r4 => q z v' H4 p (e2.trans e4) r4
theorem en_slL (ha : EN K te σ H P1) (hb : EN K tb σ H P2) (h : ∀ x y v w H1, Ex H H1 → P1 x → P2 y → Rep.rel K H1 v x → Rep.rel K H1 w y → EN K (tSl r (tC v) (tPart (tC w)) th) σ H1 P) : EN K (tSl r te (tPart tb) th) σ H P := fun H1 e Q q =>
  ha H1 e _ fun x v H2 p1 e2 r1 => hb H2 (e.trans e2) _ fun y w H3 p2 e3 r2 => h x y v w H3 ((e.trans e2).trans e3) p1 p2 (Rep.mono e3 r1) r2 H3 (Ex.refl _) Q fun z v' H4 p e4 r4 => q z v' H4 p ((e2.trans e3).trans e4) r4
end
theorem cutS_mem {z : Str} {lo hi : Option Int} {c : Nat} (h : c ∈ (cutS z lo hi).cps.toList) : c ∈ z.cps.toList := by
  rw [cutS_list] at h
  exact List.mem_of_mem_drop (List.mem_of_mem_take h)
theorem tl_app {x y : Str} : (x ++ y).cps.toList = x.cps.toList ++ y.cps.toList := Array.toList_append
theorem paired_ex {α β : Type} {P : α → β → Prop} {as : List α} {bs : List β} (h : Paired P as bs) : ∀ b ∈ bs, ∃ a ∈ as, P a b := by
  induction h with
  | nil => exact fun _ h => nomatch h
  | cons r _ ih =>
    intro b hb
    rcases List.mem_cons.mp hb with z | z
    · subst z; exact ⟨_, List.mem_cons_self .., r⟩
    · obtain ⟨a, h1, h2⟩ := ih b z
      exact ⟨a, List.mem_cons_of_mem _ h1, h2⟩
theorem er_slL {α : Type} [Rep α] {K : PySem.W.Frag} {σ : L2.St} {H : Hp} {te : TE} {tl th : TO} {xs : List α} {lo hi : Option Int} (h : ER K te σ H xs) (hl : EO K tl σ H lo) (hh : EO K th σ H hi) : ER K (tSl (rSlL K) te tl th) σ H (cutL xs lo hi) := fun H1 e Q q =>
  h H1 e _ fun v H2 e2 r => hl H2 (e.trans e2) _ fun H3 e3 => hh H3 ((e.trans e2).trans e3) _ fun H4 e4 => by
    obtain ⟨a, vs, hv, hs, hr⟩ := Rep.mono (e3.trans e4) r
    exact ⟨a, vs, hv, sq_of hs, fun p hp => q (.ref p) _ (((e2.trans e3).trans e4).trans (Ex.new hp)) ⟨p, cutV vs lo hi, rfl, upd_same, rels_mono (Ex.new hp) (cutV_rels hr lo hi)⟩⟩
theorem cutL_to {α : Type} {xs : List α} {n : Nat} : cutL xs none (some (n : Int)) = xs.take n := by
  unfold cutL
  rw [sIx_some (by omega)]
  show (xs.drop 0).take (min (n : Int).toNat xs.length - 0) = _
  rw [List.drop_zero, Nat.sub_zero, show (n : Int).toNat = n by omega]
  exact List.take_eq_take_min.symm
theorem in_bls {b : Bool} {xs : List Bool} : inV (.bl b) (xs.map V.bl) = decide (b ∈ xs) := by
  unfold inV
  induction xs with
  | nil => rfl
  | cons x r ih =>
    rw [List.map_cons, List.any_cons, ih]
    show (x == b || _) = _
    rw [Bool.eq_iff_iff]
    simp only [Bool.or_eq_true, beq_iff_eq, decide_eq_true_eq, List.mem_cons]
    exact or_congr_left ⟨Eq.symm, Eq.symm⟩
theorem flat_bls {xs : List Bool} : (xs.map V.bl).all flatV = true := by
  rw [List.all_map]
  exact List.all_eq_true.mpr fun _ _ => rfl
theorem er_ninB {K : PySem.W.Frag} {σ : L2.St} {H : Hp} {ta tb : TE} {b : Bool} {xs : List Bool} (ha : ER K ta σ H b) (hb : ER K tb σ H xs) : ER K (tOp (rIn K true) ta tb) σ H (!decide (b ∈ xs)) := fun H1 e Q q =>
  ha H1 e _ fun v H2 e2 r => hb H2 (e.trans e2) _ fun w H3 e3 ⟨p, vs, hw, hs, hr⟩ => by
    cases r
    have h1 := rels_bls hr
    subst h1
    exact ⟨p, _, hw, .inl (sq_of hs), rfl, flat_bls, q _ H3 (e2.trans e3) (by rw [if_pos rfl, in_bls]; rfl)⟩
section
variable {α β : Type} [Rep α] [Rep β] {K : PySem.W.Frag} {σ : L2.St} {H : Hp} {te : TE} {tt : TT}
theorem el_lc [Imm β] [ImmX β] {wi : TI} {xs : List α} {vs : List Nat} {gt : TG} (f : α → Bool) (g : α → β) (h : Wk K wi σ H xs) (hz : xs.length ≤ 100000)
    (ht : ∀ x v H1, x ∈ xs → Ex H H1 → Rep.rel K H1 v x → ∀ Q : L2.St → Hp → Prop, (∀ σ2 H2, Ex H1 H2 → wipe σ2 vs = wipe σ vs → ET K tt σ2 H2 (f x) → (f x = true → ER K te σ2 H2 (g x)) → Q σ2 H2) → gt v (wipe σ vs) H1 Q) :
    EL K (tLc wi gt tt te vs) σ H ((xs.filter f).map g) := fun H0 e Q q => by
  refine h H0 e _ fun J H2 G Y e2 w hG hY => ?_
  intro Dl hD
  have hx0 : ∀ i x, xs[i]? = some x → xs.take (i + 1) = xs.take i ++ [x] := fun i x hx => by
    rw [List.take_add_one, hx]
    rfl
  refine lc_it w (fun i H' => Ex H2 H' ∧ ∃ ws, H' Dl = some (.lst ws) ∧ rels K H' ws (((xs.take i).filter f).map g)) ⟨Ex.new hD, [], upd_same, by rw [List.take_zero]; exact .nil⟩ (fun i H' _ p => hG H' p.1.y) (fun i v H' H'' hi p y => ?_) (fun H' p => ?_)
  · obtain ⟨p1, ws, p2, p3⟩ := p
    obtain ⟨e3, x, hx, r⟩ := hY i H' v H'' hi p1.y y
    have hm : x ∈ xs := List.mem_of_getElem? hx
    refine ht x v H'' hm ((e.trans e2).trans (p1.trans e3)) r _ fun σ2 H3 e4 hw t1 t2 => ⟨hw, ?_⟩
    refine t1 H3 (Ex.refl _) _ fun H4 e5 => ?_
    have hl : ws.length ≤ i := by
      rw [rels_len p3, List.length_map]
      exact Nat.le_trans (List.length_filter_le ..) (by rw [List.length_take]; omega)
    have p1' : Ex H2 H4 := ((p1.trans e3).trans e4).trans e5
    have p2' : H4 Dl = some (.lst ws) := e5 _ _ (e4 _ _ (e3 _ _ p2))
    cases hf : f x with
    | true =>
      show te σ2 H4 _
      refine t2 hf H4 e5 _ fun y H5 e6 ry => ⟨ws, e6 _ _ p2', sz_lt (by omega), Ex.mut (p1'.trans e6) hD, ws ++ [y], upd_same, ?_⟩
      have fin : rels K H5 (ws ++ [y]) (((xs.take (i + 1)).filter f).map g) := by
        rw [hx0 i x hx, List.filter_append, List.map_append, List.filter_cons, if_pos hf]
        exact rels_snoc (rels_mono ((((e3.trans e4).trans e5)).trans e6) p3) ry
      exact rels_imm (e6 _ _ p2') fin
    | false =>
      show Ex H2 H4 ∧ _
      refine ⟨p1', ws, p2', ?_⟩
      rw [hx0 i x hx, List.filter_append, List.map_append, List.filter_cons, if_neg (by rw [hf]; decide)]
      show rels K H4 ws (_ ++ [])
      rw [List.append_nil]
      exact rels_mono ((e3.trans e4).trans e5) p3
  · obtain ⟨p1, ws, p2, p3⟩ := p
    rw [List.take_length] at p3
    exact q Dl ws H' (fresh_back e2 hD) (e2.trans p1) p2 (Paired.mapP p3 fun _ _ => ImmX.imm p2)
theorem el_lcY [Imm β] [ImmX β] {wi : TI} {xs : List α} {vs : List Nat} {gt : TG} (g : α → β) (h : Wk K wi σ H xs) (hz : xs.length ≤ 100000)
    (ht : ∀ x v H1, x ∈ xs → Ex H H1 → Rep.rel K H1 v x → ∀ Q : L2.St → Hp → Prop, (∀ σ2 H2, Ex H1 H2 → wipe σ2 vs = wipe σ vs → ER K te σ2 H2 (g x) → Q σ2 H2) → gt v (wipe σ vs) H1 Q) :
    EL K (tLc wi gt tYes te vs) σ H (xs.map g) := by
  have z := el_lc (tt := tYes) (te := te) (vs := vs) (gt := gt) (fun _ => true) g h hz fun x v H1 hx e r Q q => ht x v H1 hx e r Q fun σ2 H2 e2 hw t2 => q σ2 H2 e2 hw (fun H3 _ Q' q' => q' H3 (Ex.refl _)) (fun _ => t2)
  have ef : xs.filter (fun _ => true) = xs := List.filter_eq_self.mpr fun _ _ => rfl
  rw [ef] at z
  exact z
end
theorem etn_isNo {α : Type} [Rep α] [NN α] {K : PySem.W.Frag} {σ : L2.St} {H : Hp} {ta : TE} {P : Option α → Prop} (h : EN K ta σ H P) (hp : ∀ x, P x → x.isNone = false) : ETN K (tTest (tOp rIsN ta (tC .non))) σ H (fun b => b = false) := fun H1 e Q q =>
  h H1 e _ fun x v H2 p e2 r => (et_t (er_isNone (er_c (x := x) r)) : ET K (tTest (tOp rIsN (tC v) (tC .non))) σ H2 x.isNone) H2 (Ex.refl _) Q fun H3 e3 => q _ H3 (hp x p) (e2.trans e3)
end Sf

namespace Sf
open PySem PySem.Spec PyProof.Rows L2 Evl
/-! ### a text backwards -/
def revS (z : Str) : Str := ⟨z.cps.toList.reverse.toArray⟩
theorem revS_tl {z : Str} : (revS z).cps.toList = z.cps.toList.reverse := by simp [revS]
theorem revS_len {z : Str} : (revS z).length = z.length := by rw [lenL, lenL, revS_tl, List.length_reverse]
def tRevS (te ts : TE) : TE := fun σ H Q => te σ H fun x H1 => ts σ H1 fun y H2 => ∃ z : Str, x = .str z ∧ y = .int (-1) ∧ z.length ≤ 100000 ∧ Q (.str (revS z)) H2
theorem picked_revS (z : Str) : (⟨((Builtin.Str.strSliceIndices none none (-1) z.length).filterMap (z.cps[·]?)).toArray⟩ : Str) = revS z := by
  rw [PyProof.Rows.picked_rev, PySem.W.krv_range, List.filterMap_reverse]
  unfold revS
  rw [show (List.range z.length).filterMap (z.cps[·]?) = z.cps.toList from PySem.W.krv_all z.cps]
theorem pe_revS {X : Cx} {e st : Expr} {te ts : TE} {p2 pos : Pos} (he : PE X e te) (hs : PE X st ts) : PE X (.Subscript e (.Slice none none (some st) p2) pos) (tRevS te ts) := by
  refine ⟨fun pins s σ H Q I h => ?_⟩
  refine Subscript_ (thn (he.run pins s σ H _ I h) fun v s1 ⟨x, H1, I1, r1, q1⟩ => ?_)
  refine wpAny_Slice ?_
  rw [evalPart_none]
  refine wpAny_pure (wpAny_pure ?_)
  rw [evalPart_some]
  refine thn (hs.run pins s1 σ H1 _ I1 q1) fun vs s3 ⟨y, H3, I3, ry, z, ex, ey, hz, q3⟩ => ?_
  subst ex
  subst ey
  obtain ⟨t, rfl⟩ := r1
  obtain ⟨tk, rfl⟩ := ry
  have I4 : Inv X pins σ H3 { s3 with heap := s3.heap.push { cls := .type "slice", data := .fields #[.none, .none, .int (-1) tk] } } := I3.kept (t' := s3.toks) fun b ob q => Heap.get?_push_of_some _ q
  refine tail_any (T := "str") (ops := [.ref s3.heap.objs.size, .str z t]) (typeIs_str _ _ _) F.slot_str_getitem.lookup ?_ (by with_unfolding_all rfl)
  refine wpAny_getItem_str_slice (l := none) (u := none) (st := some (-1, tk)) ⟨_, Heap.get?_push_size _ rfl, rfl, rfl⟩ rfl ?_
  have hz2 : (revS z).length ≤ sizeLine := by
    rw [revS_len]
    exact sz_of hz
  rw [← picked_revS] at hz2 q3
  show Made.post (Made.str ⟨((Builtin.Str.strSliceIndices none none (-1) z.length).filterMap (z.cps[·]?)).toArray⟩) (EP X pins σ Q) _
  exact ⟨hz2, .str _, H3, I4.tok _, ⟨_, rfl⟩, q3⟩
section
variable {α β : Type} [Rep α] [Rep β] {K : PySem.W.Frag} {σ : L2.St} {H : Hp} {ta tb te ts tk tv ty : TE} {trs : List (TE × TE)} {D : Ends} {u : TS} {n : Nat}
theorem er_revS {z : Str} (h : ER K te σ H z) (h2 : ER K ts σ H (-1 : Int)) (hz : z.length ≤ 100000) : ER K (tRevS te ts) σ H (revS z) := fun H1 e Q q => h H1 e _ fun v H2 e2 r => h2 H2 (e.trans e2) _ fun w H3 e3 r2 => by
  cases r
  cases r2
  exact ⟨z, rfl, rfl, hz, q _ H3 (e2.trans e3) rfl⟩
/-! ### a written dict of texts, kept in a variable -/
def EPg (K : PySem.W.Frag) (trs : List (TE × TE)) (σ : L2.St) (H : Hp) (ps : List (Str × Str)) : Prop := ∀ H1, Ex H H1 → ∀ Q : List (V × V) → Hp → Prop, (∀ H2, Ex H1 H2 → Q (ps.map fun p => (V.str p.1, V.str p.2)) H2) → tPairs trs σ H1 Q
theorem epg_nil : EPg K [] σ H [] := fun H1 _ _ q => q H1 (Ex.refl _)
theorem epg_cons {s i : Str} {ps : List (Str × Str)} (h : ER K tv σ H i) (hr : EPg K trs σ H ps) : EPg K ((tC (.str s), tv) :: trs) σ H ((s, i) :: ps) := fun H1 e Q q => by
  show tv σ H1 _
  exact h H1 e _ fun v H2 e2 r => by
    cases r
    exact hr H2 (e.trans e2) _ fun H3 e3 => q H3 (e2.trans e3)
def dOf (ps : List (Str × Str)) : List (Key × V) := mergeK [] (ps.map fun p => ((Sum.inr p.1 : Key), V.str p.2))
theorem q_dsp (K : PySem.W.Frag) {ps : List (Str × Str)} {s' : V → L2.St} (h : EPg K trs σ H ps) (hl : ps.length ≤ 15) (s : ∀ v, SetAt σ n v (s' v)) (k : ∀ l H1, H1 l = some (.dK (dOf ps)) → Ex H H1 → u D (s' (.ref l)) H1) : tSeq (tAsg (tDisp trs) (gName n)) u D σ H := by
  show ∀ p, H p = none → _
  intro p hp
  refine h _ (Ex.new hp) _ fun H2 e2 => ⟨e2 p _ upd_same, ps.map (fun p => ((Sum.inr p.1 : Key), V.str p.2)), ?_, by rw [List.length_map]; exact hl, ?_⟩
  · rw [List.map_map]
    rfl
  show u D (σ.set n (some (V.ref p))) _
  rw [(s (.ref p)).eq]
  exact k p _ upd_same (Ex.mut ((Ex.new hp).trans e2) hp)
theorem er_dgetV {l : Addr} {kvs : List (Key × V)} {s z : Str} (hs : σ[n]? = some (some (.ref l))) (m : H l = some (.dK kvs)) (hk : ER K ty σ H s) (hv : valV kvs (Sum.inr s) = some (.str z)) : ER K (tDGet (tVar n) ty) σ H z := fun H1 e Q q => by
  refine ⟨.ref l, hs, ?_⟩
  refine hk H1 e _ fun v H3 e3 r => ?_
  cases r
  exact ⟨l, .str z, rfl, hv ▸ DGet.k (k := Sum.inr s) (e3 l _ (e l _ m)), q _ H3 e3 rfl⟩
theorem er_gS {c : Nat} (h : ER K te σ H (⟨#[c]⟩ : Str)) : ER K te σ H (Sg.mk c) := fun H1 e Q q => h H1 e Q fun v H2 e2 r => q v H2 e2 r
end
/-! ### keys turned -/
def turnK (c : Nat) : Nat := if c = 117 then 100 else if c = 100 then 117 else if c = 85 then 68 else if c = 68 then 85 else if c = 104 then 101 else 104
abbrev turnD : List (Str × Str) := [("u", "d"), ("d", "u"), ("U", "D"), ("D", "U"), ("h", "e"), ("e", "h")]
theorem turn_val {c : Nat} (h : isKey c) : valV (dOf turnD) (Sum.inr (⟨#[c]⟩ : Str)) = some (.str ⟨#[turnK c]⟩) := by
  rcases h with z | z | z | z | z | z <;> (subst z; rfl)
theorem turn_key {c : Nat} (h : isKey c) : isKey (turnK c) := by
  rcases h with z | z | z | z | z | z <;> (subst z; unfold turnK isKey; decide)
def turnS (z : Str) : Str := unsg ((sgs z).map fun s => Sg.mk (turnK s.c))
theorem turnS_tl {z : Str} : (turnS z).cps.toList = z.cps.toList.map turnK := by
  unfold turnS sgs
  rw [unsg_codes, List.map_map, List.map_map]
  rfl
theorem turnS_len {z : Str} : (turnS z).length = z.length := by rw [lenL, lenL, turnS_tl, List.length_map]
theorem turnS_len2 {z : Str} : (unsg ((sgs z).map fun s => Sg.mk (turnK s.c))).length = z.length := turnS_len
theorem sgs_len {z : Str} : (sgs z).length = z.length := by
  rw [lenL]
  simp [sgs]
theorem sgs_mem {s : Sg} {z : Str} (h : s ∈ sgs z) : s.c ∈ z.cps.toList := by
  unfold sgs at h
  obtain ⟨c, hc, rfl⟩ := List.mem_map.mp h
  exact hc
theorem back_ok {z : Str} (h : rowOk z) : rowOk (revS (turnS z)) ∧ (revS (turnS z)).length = z.length := by
  refine ⟨⟨?_, ?_⟩, by rw [revS_len, turnS_len]⟩
  · rw [revS_tl, List.length_reverse, turnS_tl, List.length_map]
    exact h.1
  · intro c hc
    rw [revS_tl, List.mem_reverse, turnS_tl] at hc
    obtain ⟨d, hd, rfl⟩ := List.mem_map.mp hc
    exact turn_key (h.2 d hd)
/-! ### walking a list with drawn items -/
theorem wkn_list {α : Type} [Rep α] {K : PySem.W.Frag} {σ : L2.St} {H : Hp} {tl : TE} {P : List α → Prop} (h : EN K tl σ H P) : WkN K (iList K tl) σ H P := fun H1 e R k => h H1 e _ fun xs v H2 px e2 ⟨a, vs, hv, hs, hr⟩ => ⟨a, hv, ⟨vs, sq_of hs⟩, by
  refine k xs _ H2 _ _ px e2 (rels_len hr ▸ walk_list (xs := vs)) (fun H3 e3 => ey_l e3 (sq_of hs)) fun i Ha v Hb hi ea y => ?_
  obtain ⟨rfl, hy⟩ := y
  obtain ⟨x, h1, h2⟩ := rels_get hr hy
  exact ⟨Ex.refl _, x, h1, Rep.moY ea h2⟩⟩
end Sf

namespace Sf
open PySem PySem.Spec PyProof.Rows L2 Evl
section
variable {α β : Type} [Rep α] [Rep β] {K : PySem.W.Frag} {σ : L2.St} {H : Hp} {ta tb tc te ts : TE} {tl th : TO} {lo hi : Option Int} {i j c : Int}
theorem hu65 {k : Nat} {A : Around} (r : Room k A) : A.units + 65 < cLine := by have := r.un; omega
/-! ### data in a list of data -/
theorem any_eqv [Enc α] [DecidableEq α] [EqT α] {x : α} : ∀ {xs : List α}, ((xs.map Enc.enc).any fun z => PyData.eqv z (Enc.enc x)) = decide (x ∈ xs)
  | [] => by simp
  | y :: r => by
    rw [List.map_cons, List.any_cons, EqT.eqv, any_eqv (xs := r), Bool.eq_iff_iff]
    simp only [Bool.or_eq_true, decide_eq_true_eq, List.mem_cons]
    constructor
    · rintro (h | h)
      · exact .inl h.symm
      · exact .inr h
    · rintro (h | h)
      · exact .inl h.symm
      · exact .inr h
theorem shaped_one [Enc α] [DecidableEq α] [EqT α] {x : α} (gx : EqT.good x) (hd : EqT.dep α ≤ 63) : SeqAt.shaped (Enc.enc x) = true := by
  simp only [SeqAt.shaped, EqT.can gx, Bool.true_and, decide_eq_true_eq]
  exact Nat.le_trans (EqT.dle x) (Nat.le_trans hd (by decide))
theorem shaped_all [Enc α] [DecidableEq α] [EqT α] {xs : List α} (gy : ∀ y ∈ xs, EqT.good y) (hd : EqT.dep α ≤ 63) : SeqAt.shaped (.list (xs.map Enc.enc)) = true := by
  have h := shaped_one (α := List α) (x := xs) gy
  have h1 := EqT.can (α := List α) (x := xs) gy
  have h2 := EqT.dle (α := List α) xs
  have e : (Enc.enc xs : PyData) = .list (xs.map Enc.enc) := rfl
  rw [e] at h1 h2
  simp only [SeqAt.shaped, h1, Bool.true_and, decide_eq_true_eq]
  have e2 : EqT.dep (List α) = EqT.dep α + 1 := rfl
  omega
theorem er_inD [Enc α] [DecidableEq α] [EqT α] {x : α} {xs : List α} (ha : ER K ta σ H x) (hb : ER K tb σ H xs) (gx : EqT.good x) (gy : ∀ y ∈ xs, EqT.good y) (hd : EqT.dep α ≤ 63) : ER K (tOp (rInD K) ta tb) σ H (decide (x ∈ xs)) := fun H1 e Q q =>
  ha H1 e _ fun v H2 e2 r => hb H2 (e.trans e2) _ fun w H3 e3 r2 => ⟨Enc.enc x, xs.map Enc.enc, Enc.dp (Rep.mono e3 r), Enc.dp r2, shaped_one gx hd, shaped_all gy hd, q _ H3 (e2.trans e3) (by rw [any_eqv]; rfl)⟩
theorem er_notInD [Enc α] [DecidableEq α] [EqT α] {x : α} {xs : List α} (ha : ER K ta σ H x) (hb : ER K tb σ H xs) (gx : EqT.good x) (gy : ∀ y ∈ xs, EqT.good y) (hd : EqT.dep α ≤ 63) : ER K (tOp (rNotInD K) ta tb) σ H (!decide (x ∈ xs)) := fun H1 e Q q =>
  ha H1 e _ fun v H2 e2 r => hb H2 (e.trans e2) _ fun w H3 e3 r2 => ⟨Enc.enc x, xs.map Enc.enc, Enc.dp (Rep.mono e3 r), Enc.dp r2, shaped_one gx hd, shaped_all gy hd, q _ H3 (e2.trans e3) (by rw [any_eqv]; rfl)⟩
/-! ### range with a step, walked -/
theorem rgC_get {lo c : Int} {n k : Nat} (h : k < n) : (rgC lo c n)[k]? = some (lo + (k : Int) * c) := by
  unfold rgC
  rw [List.getElem?_map, List.getElem?_range h]
  rfl
theorem rgC_len {lo c : Int} {n : Nat} : (rgC lo c n).length = n := by simp [rgC]
theorem wk_rng3 (h : ER K ta σ H i) (h2 : ER K tb σ H j) (h3 : ER K tc σ H c) (hi : -(2 ^ 60) ≤ i ∧ i < 2 ^ 60) (hj : -(2 ^ 60) ≤ j ∧ j < 2 ^ 60) (hc : 0 < c) (hc2 : c < 1073741824) :
    Wk K (iRng3 (tCons ta (tCons tb (tCons tc tNil)))) σ H (rgC i c (if i < j then ((j - i - 1) / c + 1).toNat else 0)) := fun H1 e R k => h H1 e _ fun v H2 e2 r => h2 H2 (e.trans e2) _ fun v3 H3 e3 r3 => h3 H3 ((e.trans e2).trans e3) _ fun v4 H4 e4 r4 => by
  cases r
  cases r3
  cases r4
  refine ⟨i, j, c, _, rfl, rgC_ok hi hj hc hc2, k _ H4 _ _ ((e2.trans e3).trans e4) (by rw [rgC_len]; exact walk_rangeC) (fun _ _ => trivial) fun m Ha v Hb hm ea y => ?_⟩
  obtain ⟨rfl, rfl⟩ := y
  rw [rgC_len] at hm
  exact ⟨Ex.refl _, _, rgC_get hm, rfl⟩
/-! ### parts of tuples -/
theorem er_slTE {xs : Tpl α} (h : ER K te σ H xs) (hl : EO K tl σ H lo) (hh : EO K th σ H hi) (hn : ¬ (HT.sIx xs.l.length 0 lo = 0 ∧ HT.sIx xs.l.length xs.l.length hi = xs.l.length)) : ER K (tSl (rSlT K) te tl th) σ H (Tpl.mk (cutL xs.l lo hi)) := fun H1 e Q q =>
  h H1 e _ fun v H2 e2 ⟨a, vs, hv, hs, hr⟩ => hl H2 (e.trans e2) _ fun H3 e3 => hh H3 ((e.trans e2).trans e3) _ fun H4 e4 => ⟨a, vs, hv, ex_t (e3.trans e4) hs, by rw [rels_len hr]; exact hn, fun p hp => by
    have n := Ex.new (o := .tup (cutV vs lo hi)) hp
    exact q _ _ (((e2.trans e3).trans e4).trans n) ⟨p, _, rfl, st_of upd_same, rels_mono ((e3.trans e4).trans n) (cutV_rels hr lo hi)⟩⟩
theorem cutL_mem {xs : List α} {lo hi : Option Int} {x : α} (h : x ∈ cutL xs lo hi) : x ∈ xs := List.mem_of_mem_drop (List.mem_of_mem_take h)
theorem cutL_le {xs : List α} {lo hi : Option Int} : (cutL xs lo hi).length ≤ xs.length := by
  unfold cutL
  rw [List.length_take, List.length_drop]
  omega
theorem init_part {n : Nat} (h : 1 ≤ n) : ¬ (HT.sIx n 0 none = 0 ∧ HT.sIx n n (some (-1)) = n) := by
  unfold HT.sIx
  simp only [true_and]
  split <;> omega
end
end Sf

namespace Sf
open PySem PySem.Spec PyProof.Rows L2 Evl
/-! ### a text many times -/
def repS (z : Str) (k : Int) : Str := ⟨(List.replicate k.toNat z.cps.toList).flatten.toArray⟩
theorem repS_tl {z : Str} {k : Int} : (repS z k).cps.toList = (List.replicate k.toNat z.cps.toList).flatten := by simp [repS]
theorem repS_len {z : Str} {k : Int} : (repS z k).length = k.toNat * z.length := by
  rw [lenL, lenL, repS_tl, List.length_flatten, List.map_replicate, List.sum_replicate_nat]
theorem foldl_repS (l : List Nat) : ∀ (k : Nat) (acc : List Nat), List.foldl (fun x1 x2 => x1 ++ x2) acc.toArray (List.replicate k l.toArray) = (acc ++ (List.replicate k l).flatten).toArray
  | 0, acc => by simp
  | k + 1, acc => by
    have e : acc.toArray ++ l.toArray = (acc ++ l).toArray := by simp
    have e2 : (acc ++ l) ++ (List.replicate k l).flatten = acc ++ (List.replicate (k + 1) l).flatten := by
      rw [List.replicate_succ, List.flatten_cons, List.append_assoc]
    rw [List.replicate_succ, List.foldl_cons, e, foldl_repS l k (acc ++ l), e2]
def rRepS : R2 := fun x y H Q => ∃ (z : Str) (k : Int), x = .str z ∧ y = .int k ∧ -100000 ≤ k ∧ k ≤ 100000 ∧ z.length ≤ 100000 ∧ k.toNat * z.length ≤ 100000 ∧ Q (.str (repS z k)) H
theorem str_ext {a b : Str} (h : a.cps.toList = b.cps.toList) : a = b := by
  obtain ⟨⟨a⟩⟩ := a
  obtain ⟨⟨b⟩⟩ := b
  have h' : a = b := h
  rw [h']
theorem repS_arr {z : Str} {k : Int} : (⟨(List.replicate k.toNat z.cps).foldl (· ++ ·) #[]⟩ : Str) = repS z k := by
  have h := foldl_repS z.cps.toList k.toNat []
  rw [List.nil_append] at h
  obtain ⟨⟨l⟩⟩ := z
  unfold repS
  exact congrArg Str.mk h
theorem op_repS {X : Cx} : OpR X (binaryOp .Mult) rRepS := by
  intro pins s σ H x y v u Q I rx ry h
  obtain ⟨z, k, rfl, rfl, k0, k1, hz, hl, q⟩ := h
  obtain ⟨t, rfl⟩ := rx
  obtain ⟨t', rfl⟩ := ry
  have hsz : (repS z k).length ≤ sizeLine := by
    rw [repS_len]
    exact sz_of hl
  refine PySem.P.mul_str (by
    have h1 : ¬ k < -(2 ^ 63 : Int) := by omega
    have h2 : ¬ k ≥ 2 ^ 63 := by omega
    rw [decide_eq_false h1, decide_eq_false h2]
    rfl) (fun h1 _ => ?_) (fun _ _ => ?_) ?_
  · have h3 : (100000 : Int) ≤ (2 ^ 63 - 1) / k := (Int.le_ediv_iff_mul_le (by omega)).mpr (by omega)
    omega
  · show decide (z.length * k.toNat > sizeLine) = false
    rw [decide_eq_false_iff_not, Nat.mul_comm]
    have : k.toNat * z.length ≤ sizeLine := sz_of hl
    omega
  · by_cases h1 : k < 1
    · rw [if_pos h1]
      have e : repS z k = Str.empty := by
        refine str_ext ?_
        rw [repS_tl, show k.toNat = 0 by omega]
        rfl
      rw [e] at q
      exact ⟨by decide, .str Str.empty, H, I.tok _, ⟨_, rfl⟩, q⟩
    · rw [if_neg h1]
      by_cases h2 : (k == 1 || z.length == 0) = true
      · rw [if_pos h2]
        have e : repS z k = z := by
          refine str_ext ?_
          rw [repS_tl]
          rw [Bool.or_eq_true, beq_iff_eq, beq_iff_eq] at h2
          rcases h2 with h2 | h2
          · rw [h2]
            simp
          · have h3 : z.cps.toList = [] := by
              rw [lenL] at h2
              exact List.length_eq_zero_iff.mp h2
            rw [h3]
            simp
        rw [e] at q
        exact ⟨.str z, H, I, ⟨t, rfl⟩, q⟩
      · rw [if_neg h2]
        rw [← repS_arr] at q hsz
        exact ⟨hsz, .str _, H, I.tok _, ⟨_, rfl⟩, q⟩
section
variable {α β : Type} [Rep α] [Rep β] {K : PySem.W.Frag} {σ : L2.St} {H : Hp} {te tl ta tb : TE} {tt : TT} {i : Int}
theorem er_repS {z : Str} (h : ER K ta σ H z) (h2 : ER K tb σ H i) (hi : -100000 ≤ i ∧ i ≤ 100000) (hz : z.length ≤ 100000) (hl : i.toNat * z.length ≤ 100000) : ER K (tOp rRepS ta tb) σ H (repS z i) := fun H1 e Q q => h H1 e _ fun v H2 e2 r => h2 H2 (e.trans e2) _ fun w H3 e3 r2 => by
  cases r
  cases r2
  exact ⟨z, i, rfl, rfl, hi.1, hi.2, hz, hl, q _ H3 (e2.trans e3) rfl⟩
/-! ### ''.join of texts -/
def joinS (xs : List Str) : Str := ⟨((xs.map fun z => z.cps.toList).flatten).toArray⟩
theorem joinS_tl {xs : List Str} : (joinS xs).cps.toList = (xs.map fun z => z.cps.toList).flatten := by simp [joinS]
theorem str_vs {vs : List V} {xs : List Str} (h : rels K H vs xs) : vs = xs.map V.str := by
  induction h with
  | nil => rfl
  | cons r _ ih =>
    cases r
    rw [ih]
    rfl
theorem er_joinS {xs : List Str} (h : ER K te σ H xs) (hl : (xs.map (·.length)).sum ≤ 100000) : ER K (tM1 (rJoinQ K) (tC (.str "")) te) σ H (joinS xs) := fun H1 e Q q => ⟨⟨_, rfl⟩, h H1 e _ fun v H2 e2 ⟨a, vs, hv, hs, hr⟩ => by
  subst hv
  have hvs := str_vs hr
  subst hvs
  refine ⟨_, a, _, rfl, rfl, .inl (sq_of hs), ?_, q _ H2 e2 ?_⟩
  · show _ + xs.length * 0 ≤ _
    omega
  · show V.str _ = V.str _
    congr 1
    exact str_ext ((tl_joinE xs).trans joinS_tl.symm)⟩
/-! ### lists in lists: what a change of another list keeps -/
class ImmN (α : Type) [Rep α] : Prop where
  imm : ∀ {K : PySem.W.Frag} {H : Hp} {v : V} {x : α} {l : Addr} {o : HO} {ws : List V}, H l = some (.lst ws) → v ≠ .ref l → Rep.rel K H v x → Rep.rel K (upd H l o) v x
  frs : ∀ {K : PySem.W.Frag} {H : Hp} {v : V} {x : α} {l : Addr}, H l = none → Rep.rel K H v x → v ≠ .ref l
instance [ImmX α] : ImmN (List α) := ⟨fun {K H v x l o ws} hl hn ⟨a, vs, hv, hs, hr⟩ => by
  subst hv
  have ha : a ≠ l := fun z => hn (by rw [z])
  refine ⟨a, vs, rfl, by rw [upd_ne ha]; exact hs, ?_⟩
  exact Paired.mapP hr fun _ _ h => ImmX.imm hl h, fun {K H v x l} hl ⟨a, vs, hv, hs, hr⟩ z => by
  subst hv
  cases z
  rw [hl] at hs
  cases hs⟩
instance [ImmN α] : ImmN (Option α) := ⟨fun {K H v x l o ws} hl hn h => by
  cases x with
  | none => exact h
  | some y => exact ImmN.imm (x := y) hl hn h, fun {K H v x l} hl h => by
  cases x with
  | none =>
    have h' : v = .non := h
    rw [h']
    intro z
    cases z
  | some y => exact ImmN.frs (x := y) hl h⟩
def relsN (K : PySem.W.Frag) (H : Hp) (D : Addr) : List V → List α → Prop := Paired (fun v x => Rep.rel K H v x ∧ v ≠ .ref D)
theorem relsN_rels {D : Addr} {vs : List V} {xs : List α} (h : relsN K H D vs xs) : rels K H vs xs := Paired.mapP h fun _ _ h => h.1
theorem relsN_mono {H' : Hp} {D : Addr} {vs : List V} {xs : List α} (e : Ex H H') (h : relsN K H D vs xs) : relsN K H' D vs xs := Paired.mapP h fun _ _ h => ⟨Rep.mono e h.1, h.2⟩
theorem relsN_upd [ImmN α] {D : Addr} {ws ws2 : List V} {vs : List V} {xs : List α} (hl : H D = some (.lst ws)) (h : relsN K H D vs xs) : relsN K (upd H D (.lst ws2)) D vs xs := Paired.mapP h fun _ _ h => ⟨ImmN.imm hl h.2 h.1, h.2⟩
theorem relsN_snoc {D : Addr} {vs : List V} {xs : List α} {v : V} {x : α} (h : relsN K H D vs xs) (r : Rep.rel K H v x) (hn : v ≠ .ref D) : relsN K H D (vs ++ [v]) (xs ++ [x]) := Paired.snoc h ⟨r, hn⟩
/-- new lists in a new list -/
theorem er_lcL [ImmX β] {wi : TI} {xs : List α} {vs : List Nat} {gt : TG} (g : α → List β) (h : Wk K wi σ H xs) (hz : xs.length ≤ 100000)
    (ht : ∀ x v H1, x ∈ xs → Ex H H1 → Rep.rel K H1 v x → ∀ Q : L2.St → Hp → Prop, (∀ σ2 H2, Ex H1 H2 → wipe σ2 vs = wipe σ vs → EL K te σ2 H2 (g x) → Q σ2 H2) → gt v (wipe σ vs) H1 Q) :
    ER K (tLc wi gt tYes te vs) σ H (xs.map g) := fun H0 e Q q => by
  refine h H0 e _ fun J H2 G Y e2 w hG hY => ?_
  intro Dl hD
  have hx0 : ∀ i x, xs[i]? = some x → xs.take (i + 1) = xs.take i ++ [x] := fun i x hx => by
    rw [List.take_add_one, hx]
    rfl
  refine lc_it w (fun i H' => Ex H2 H' ∧ ∃ ws, H' Dl = some (.lst ws) ∧ relsN K H' Dl ws ((xs.take i).map g)) ⟨Ex.new hD, [], upd_same, by rw [List.take_zero]; exact .nil⟩ (fun i H' _ p => hG H' p.1.y) (fun i v H' H'' hi p y => ?_) (fun H' p => ?_)
  · obtain ⟨p1, ws, p2, p3⟩ := p
    obtain ⟨e3, x, hx, r⟩ := hY i H' v H'' hi p1.y y
    have hm : x ∈ xs := List.mem_of_getElem? hx
    refine ht x v H'' hm ((e.trans e2).trans (p1.trans e3)) r _ fun σ2 H3 e4 hw t1 => ⟨hw, ?_⟩
    show te σ2 H3 _
    have hl : ws.length ≤ i := by
      rw [rels_len (relsN_rels p3), List.length_map, List.length_take]
      omega
    refine t1 H3 (Ex.refl _) _ fun l ws2 H5 hn e6 hls rs => ?_
    have p2' : H3 Dl = some (.lst ws) := e4 _ _ (e3 _ _ p2)
    have hne : l ≠ Dl := fun z => by
      rw [z, p2'] at hn
      cases hn
    have rs2 : rels K H5 ws2 (g x) := by
      have y1 : Ey (upd H5 l (MutO l ws2)) H5 := fun a o h => by
        by_cases ha : a = l
        · subst ha
          rw [upd_same] at h
          cases h
          exact .inl (.m _)
        · rw [upd_ne ha] at h
          exact .inr h
      exact rels_moY y1 rs
    refine ⟨ws, e6 _ _ p2', sz_lt (by omega), Ex.mut (((p1.trans e3).trans e4).trans e6) hD, ws ++ [V.ref l], upd_same, ?_⟩
    have fin : relsN K H5 Dl (ws ++ [V.ref l]) ((xs.take (i + 1)).map g) := by
      rw [hx0 i x hx, List.map_append]
      exact relsN_snoc (relsN_mono ((e3.trans e4).trans e6) p3) ⟨l, ws2, rfl, hls, rs2⟩ (fun z => hne (by cases z; rfl))
    exact relsN_upd (e6 _ _ p2') fin
  · obtain ⟨p1, ws, p2, p3⟩ := p
    rw [List.take_length] at p3
    exact q (.ref Dl) H' (e2.trans p1) ⟨Dl, ws, rfl, p2, relsN_rels p3⟩
/-- those items of a list that a test picks, themselves -/
theorem er_lcF [ImmN α] {xs : List α} {vs : List Nat} {gt : TG} (f : α → Bool) (h : ER K tl σ H xs) (hz : xs.length ≤ 100000)
    (ht : ∀ x v H1, x ∈ xs → Ex H H1 → Rep.rel K H1 v x → ∀ Q : L2.St → Hp → Prop, (∀ σ2 H2, Ex H1 H2 → wipe σ2 vs = wipe σ vs → ET K tt σ2 H2 (f x) → (∀ H3, Ex H2 H3 → ∀ Q' : VK, Q' v H3 → te σ2 H3 Q') → Q σ2 H2) → gt v (wipe σ vs) H1 Q) :
    ER K (tLc (iList K tl) gt tt te vs) σ H (xs.filter f) := fun H0 e Q q => by
  refine h H0 e _ fun v0 H2 e2 ⟨a, vs0, hv0, hs0, hr0⟩ => ⟨a, hv0, ⟨vs0, sq_of hs0⟩, ?_⟩
  intro Dl hD
  have hx0 : ∀ i x, xs[i]? = some x → xs.take (i + 1) = xs.take i ++ [x] := fun i x hx => by
    rw [List.take_add_one, hx]
    rfl
  have hlen := rels_len hr0
  refine lc_it (rels_len hr0 ▸ walk_list (xs := vs0)) (fun i H' => Ex H2 H' ∧ ∃ ws, H' Dl = some (.lst ws) ∧ relsN K H' Dl ws ((xs.take i).filter f)) ⟨Ex.new hD, [], upd_same, by rw [List.take_zero]; exact .nil⟩ (fun i H' _ p => ex_l p.1 (sq_of hs0)) (fun i v H' H'' hi p y => ?_) (fun H' p => ?_)
  · obtain ⟨p1, ws, p2, p3⟩ := p
    obtain ⟨rfl, hy⟩ := y
    obtain ⟨x, hx, r0⟩ := rels_get hr0 hy
    have hm : x ∈ xs := List.mem_of_getElem? hx
    have hvn : v ≠ .ref Dl := ImmN.frs hD r0
    refine ht x v H'' hm ((e.trans e2).trans p1) (Rep.mono p1 r0) _ fun σ2 H3 e4 hw t1 t2 => ⟨hw, ?_⟩
    refine t1 H3 (Ex.refl _) _ fun H4 e5 => ?_
    have hl : ws.length ≤ i := by
      rw [rels_len (relsN_rels p3)]
      exact Nat.le_trans (List.length_filter_le ..) (by rw [List.length_take]; omega)
    have p1' : Ex H2 H4 := (p1.trans e4).trans e5
    have p2' : H4 Dl = some (.lst ws) := e5 _ _ (e4 _ _ p2)
    cases hf : f x with
    | true =>
      show te σ2 H4 _
      refine t2 H4 e5 _ ⟨ws, p2', sz_lt (by omega), Ex.mut p1' hD, ws ++ [v], upd_same, ?_⟩
      have fin : relsN K H4 Dl (ws ++ [v]) ((xs.take (i + 1)).filter f) := by
        rw [hx0 i x hx, List.filter_append, List.filter_cons, if_pos hf]
        exact relsN_snoc (relsN_mono (e4.trans e5) p3) (Rep.mono p1' r0) hvn
      exact relsN_upd p2' fin
    | false =>
      show Ex H2 H4 ∧ _
      refine ⟨p1', ws, p2', ?_⟩
      rw [hx0 i x hx, List.filter_append, List.filter_cons, if_neg (by rw [hf]; decide)]
      show relsN K H4 Dl ws (_ ++ [])
      rw [List.append_nil]
      exact relsN_mono (e4.trans e5) p3
  · obtain ⟨p1, ws, p2, p3⟩ := p
    rw [List.take_length] at p3
    exact q (.ref Dl) H' (e2.trans p1) ⟨Dl, ws, rfl, p2, relsN_rels p3⟩
theorem rels_somes {d : α} : ∀ {ws : List V} {xs : List (Option α)}, rels K H ws xs → (∀ x ∈ xs, x.isNone = false) → rels K H ws (xs.map fun x => x.getD d)
  | _, [], h, _ => by cases h; exact .nil
  | _, none :: xs, h, hs => nomatch (hs none (List.mem_cons_self ..))
  | _, some y :: xs, h, hs => by
    cases h with
    | cons r t => exact .cons r (rels_somes t fun z hz => hs z (List.mem_cons_of_mem _ hz))
/-- a list of options that are all something -/
theorem er_somes {xs : List (Option α)} {d : α} (h : ER K te σ H xs) (hs : ∀ x ∈ xs, x.isNone = false) : ER K te σ H (xs.map fun x => x.getD d) := fun H1 e Q q => h H1 e Q fun v H2 e2 ⟨a, vs, hv, hl, hr⟩ => q v H2 e2 ⟨a, vs, hv, hl, rels_somes hr hs⟩
end
end Sf

namespace Sf
open PySem PySem.Spec PyProof.Rows L2 Evl
/-- the pair behind a new value at a side -/
def settle (tie : Str) (p : Int × Int) (side : Str) (new : Int) : Int × Int :=
  if (if side = "left" then new else p.1) ≤ (if side = "left" then p.2 else new) then ((if side = "left" then new else p.1), (if side = "left" then p.2 else new))
  else if tie = "push" then (new, new) else if tie = "refuse" then p else if side = "left" then (p.2, p.2) else (p.1, p.1)
def sideOf (p : Int × Int) (side : Str) : Int := if side = "left" then p.1 else p.2
/-- the pair behind a press -/
def pressTied (f : Fld) (tie : Str) (p : Int × Int) (side : Str) (c : Nat) : Int × Int := settle tie p side (pressKey f (sideOf p side) c)
abbrev Trip := Tri (Int × Int) Str Sg
def partTies (f : Fld) (a b : Str) : Option Trip :=
  if a = b then none else if a = "push" ∨ b = "push" then some (Tri.mk (f.low, f.low) "left" (Sg.mk 101)) else if f.high - f.low > 1 then some (Tri.mk (f.low, f.low + 1) "left" (Sg.mk 101)) else none
def isTie (t : Str) : Prop := t = "push" ∨ t = "refuse" ∨ t = "stop"
theorem tie_word {t : Str} (h : isTie t) : isWord (Enc.enc t) (Tpl.mk ["push", "refuse", "stop"]) = true := by
  show decide (t ∈ (["push", "refuse", "stop"] : List Str)) = true
  rw [decide_eq_true_eq]
  simp only [List.mem_cons, List.not_mem_nil, or_false]
  exact h
theorem tie_of {t : Str} (h : t ∈ (["push", "refuse", "stop"] : List Str)) : isTie t := by
  simp only [List.mem_cons, List.not_mem_nil, or_false] at h
  exact h
theorem opt_some {α : Type} {x : Option α} (d : α) (h : (!x.isNone) = true) : x = some (x.getD d) := by
  cases x with
  | none => cases h
  | some y => rfl
def lawUnlike (f : Fld) (a b : Str) (t : Trip) : Bool :=
  if (!decide (t.b ∈ (["left", "right"] : List Str)) || !(decide (f.low ≤ t.a.1) && (decide (t.a.1 ≤ t.a.2) && decide (t.a.2 ≤ f.high)))) = true then false
  else !decide (pressTied f a t.a t.b t.c.c = pressTied f b t.a t.b t.c.c)
section
variable {f : Fld} {t side : Str} {p : Int × Int} {k : Sg} {n left right : Int}
theorem st_ok (dn : n = pressKey f (sideOf p side) k.c) : pressTied f t p side k.c = settle t p side n := by
  rw [dn]
  rfl
theorem st1 (dn : n = pressKey f (sideOf p side) k.c) (hl : left = if side = "left" then n else p.1) (hr : right = if side = "left" then p.2 else n) (h : decide (left ≤ right) = true) : (left, right) = pressTied f t p side k.c := by
  rw [st_ok dn]
  unfold settle
  rw [← hl, ← hr, if_pos (of_decide_eq_true h)]
theorem st2 (dn : n = pressKey f (sideOf p side) k.c) (hl : left = if side = "left" then n else p.1) (hr : right = if side = "left" then p.2 else n) (h : decide (left ≤ right) = false) (h2 : decide (t = "refuse") = true) : p = pressTied f t p side k.c := by
  rw [st_ok dn]
  unfold settle
  have e := of_decide_eq_true h2
  subst e
  rw [← hl, ← hr, if_neg (of_decide_eq_false h), if_neg (by decide), if_pos rfl]
theorem st3 (dn : n = pressKey f (sideOf p side) k.c) (hl : left = if side = "left" then n else p.1) (hr : right = if side = "left" then p.2 else n) (h : decide (left ≤ right) = false) (h2 : decide (t = "push") = true) : (if (decide (side = ("left" : Str))) = true then (left, left) else (right, right)) = pressTied f t p side k.c := by
  rw [st_ok dn]
  unfold settle
  have e := of_decide_eq_true h2
  rw [← hl, ← hr, if_neg (of_decide_eq_false h), if_pos e]
  by_cases z : side = "left"
  · rw [if_pos (decide_eq_true z), hl, if_pos z]
  · rw [if_neg (by rw [decide_eq_true_eq]; exact z), hr, if_neg z]
theorem st4 (dn : n = pressKey f (sideOf p side) k.c) (hl : left = if side = "left" then n else p.1) (hr : right = if side = "left" then p.2 else n) (h : decide (left ≤ right) = false) (h2 : decide (t = "push") = false) (h3 : decide (t = "refuse") = false) : (if (decide (side = ("left" : Str))) = true then (p.2, p.2) else (p.1, p.1)) = pressTied f t p side k.c := by
  rw [st_ok dn]
  unfold settle
  rw [← hl, ← hr, if_neg (of_decide_eq_false h), if_neg (of_decide_eq_false h2), if_neg (of_decide_eq_false h3)]
  by_cases z : side = "left"
  · rw [if_pos (decide_eq_true z), if_pos z]
  · rw [if_neg (by rw [decide_eq_true_eq]; exact z), if_neg z]
end
theorem pt2 {f : Fld} {a b : Str} (h : decide (a = b) = false) (h2 : decide (("push" : Str) ∈ (Tpl.mk ([a, b] : List Str)).l) = true) : some (Tri.mk (f.low, f.low) ("left" : Str) (Sg.mk 101)) = partTies f a b := by
  unfold partTies
  have h3 : ("push" : Str) ∈ ([a, b] : List Str) := of_decide_eq_true h2
  simp only [List.mem_cons, List.not_mem_nil, or_false] at h3
  rw [if_neg (of_decide_eq_false h), if_pos (h3.elim (fun z => .inl z.symm) (fun z => .inr z.symm))]
theorem pt3 {f : Fld} {a b : Str} (h : decide (a = b) = false) (h2 : decide (("push" : Str) ∈ (Tpl.mk ([a, b] : List Str)).l) = false) :
    (if decide (1 < f.high - f.low) = true then some (Tri.mk (f.low, f.low + 1) ("left" : Str) (Sg.mk 101)) else (none : Option Trip)) = partTies f a b := by
  unfold partTies
  have h3 : ¬ ("push" : Str) ∈ ([a, b] : List Str) := of_decide_eq_false h2
  simp only [List.mem_cons, List.not_mem_nil, or_false] at h3
  have h4 : ¬ (a = "push" ∨ b = "push") := fun z => h3 (z.elim (fun z => .inl z.symm) (fun z => .inr z.symm))
  rw [if_neg (of_decide_eq_false h), if_neg h4]
  by_cases z : 1 < f.high - f.low
  · have z2 : f.high - f.low > 1 := z
    rw [if_pos (decide_eq_true z), if_pos z2]
  · have z2 : ¬ f.high - f.low > 1 := z
    rw [if_neg (by rw [decide_eq_true_eq]; exact z), if_neg z2]
instance (t : Str) : Decidable (isTie t) := by
  unfold isTie
  infer_instance
theorem press_he {f : Fld} {v : Int} : pressKey f v 101 = f.high := rfl
theorem unlike_of {f : Fld} {a b : Str} {p : Int × Int} {s : Str} {k : Sg} (h1 : s ∈ (["left", "right"] : List Str)) (h2 : f.low ≤ p.1 ∧ p.1 ≤ p.2 ∧ p.2 ≤ f.high) (h3 : pressTied f a p s k.c ≠ pressTied f b p s k.c) : lawUnlike f a b (Tri.mk p s k) = true := by
  unfold lawUnlike
  rw [if_neg]
  · rw [decide_eq_false h3]
    rfl
  · simp only [decide_eq_true h1, decide_eq_true h2.1, decide_eq_true h2.2.1, decide_eq_true h2.2.2]
    decide
theorem like_of {f : Fld} {a b : Str} {p : Int × Int} {s : Str} {k : Sg} (h3 : pressTied f a p s k.c = pressTied f b p s k.c) : lawUnlike f a b (Tri.mk p s k) = false := by
  unfold lawUnlike
  split
  · rfl
  · rw [decide_eq_true h3]
    rfl
theorem part_key {f : Fld} {a b : Str} {d : Trip} (h : (!(partTies f a b).isNone) = true) : isKey ((partTies f a b).getD d).c.c := by
  unfold partTies at h ⊢
  split
  · next e =>
    rw [if_pos e] at h
    cases h
  · next e =>
    rw [if_neg e] at h
    split
    · exact .inr (.inr (.inr (.inr (.inr rfl))))
    · next e2 =>
      rw [if_neg e2] at h
      split
      · exact .inr (.inr (.inr (.inr (.inr rfl))))
      · next e3 =>
        rw [if_neg e3] at h
        cases h
/-- left, home to the end, from a pair not above -/
theorem left_end {f : Fld} {t : Str} {x y : Int} (h : y < f.high) : pressTied f t (x, y) "left" 101 = if t = "push" then (f.high, f.high) else if t = "refuse" then (x, y) else (y, y) := by
  unfold pressTied settle
  have e : sideOf (x, y) "left" = x := rfl
  rw [press_he]
  have n1 : ¬ (if ("left" : Str) = "left" then f.high else x) ≤ (if ("left" : Str) = "left" then y else f.high) := by
    rw [if_pos rfl, if_pos rfl]
    omega
  rw [if_neg n1, if_pos (show ("left" : Str) = "left" from rfl)]
theorem part_unlike {f : Fld} {a b : Str} {t : Trip} (hf : FL f) (ha : isTie a) (hb : isTie b) (h : partTies f a b = some t) : lawUnlike f a b t = true := by
  obtain ⟨l0, lh, h1, _⟩ := hf
  unfold partTies at h
  split at h
  · cases h
  · next e =>
    split at h
    · next e2 =>
      cases h
      refine unlike_of (by decide) ⟨Int.le_refl _, Int.le_refl _, by show f.low ≤ f.high; omega⟩ ?_
      show pressTied f a (f.low, f.low) "left" 101 ≠ pressTied f b (f.low, f.low) "left" 101
      rw [left_end lh, left_end lh]
      have q : ∀ c : Str, c ≠ "push" → (if c = "push" then (f.high, f.high) else if c = "refuse" then (f.low, f.low) else (f.low, f.low)) = (f.low, f.low) := by
        intro c hc
        rw [if_neg hc]
        split <;> rfl
      rcases e2 with z | z
      · rw [if_pos z, q b (fun y => e (z.trans y.symm))]
        intro y
        have := congrArg Prod.fst y
        dsimp only at this
        omega
      · rw [if_pos z, q a (fun y => e (y.trans z.symm))]
        intro y
        have := congrArg Prod.fst y
        dsimp only at this
        omega
    · next e2 =>
      split at h
      · next e3 =>
        cases h
        refine unlike_of (by decide) ⟨Int.le_refl _, by show f.low ≤ f.low + 1; omega, by show f.low + 1 ≤ f.high; omega⟩ ?_
        show pressTied f a (f.low, f.low + 1) "left" 101 ≠ pressTied f b (f.low, f.low + 1) "left" 101
        have n1 : ¬ a = "push" := fun z => e2 (.inl z)
        have n2 : ¬ b = "push" := fun z => e2 (.inr z)
        rw [left_end (by omega), left_end (by omega), if_neg n1, if_neg n2]
        intro y
        by_cases za : a = "refuse"
        · have zb : ¬ b = "refuse" := fun z => e (za.trans z.symm)
          rw [if_pos za, if_neg zb] at y
          have := congrArg Prod.fst y
          dsimp only at this
          omega
        · have za2 : a = "stop" := by
            rcases ha with z | z | z
            · exact absurd z n1
            · exact absurd z za
            · exact z
          have zb : b = "refuse" := by
            rcases hb with z | z | z
            · exact absurd z n2
            · exact z
            · exact absurd (za2.trans z.symm) e
          rw [if_neg za, if_pos zb] at y
          have := congrArg Prod.fst y
          dsimp only at this
          omega
      · cases h
theorem part_like {f : Fld} {a b s : Str} {l r : Int} {k : Sg} (hf : FL f) (ha : isTie a) (hb : isTie b) (h : (partTies f a b).isNone = true) (hs : s = "left" ∨ s = "right") (hk : isKey k.c) (h1 : f.low ≤ l) (h2 : l ≤ r) (h3 : r ≤ f.high) : lawUnlike f a b (Tri.mk (l, r) s k) = false := by
  apply like_of
  unfold partTies at h
  split at h
  · next e => rw [e]
  · next e =>
    split at h
    · cases h
    · next e2 =>
      split at h
      · cases h
      · next e3 =>
        have n1 : ¬ a = "push" := fun z => e2 (.inl z)
        have n2 : ¬ b = "push" := fun z => e2 (.inr z)
        unfold pressTied
        have hp : f.low ≤ sideOf (l, r) s ∧ sideOf (l, r) s ≤ f.high := by
          rcases hs with z | z <;> subst z
          · show f.low ≤ l ∧ l ≤ f.high
            omega
          · show f.low ≤ r ∧ r ≤ f.high
            omega
        have hn := pressKey_in hf hp hk
        generalize pressKey f (sideOf (l, r) s) k.c = n at hn
        unfold settle
        rcases hs with z | z
        · subst z
          simp only [if_true]
          by_cases q : n ≤ r
          · rw [if_pos q, if_pos q]
          · rw [if_neg q, if_neg q, if_neg n1, if_neg n2]
            have e4 : (r, r) = (l, r) := by
              have : l = r := by omega
              rw [this]
            simp only [e4]
            split <;> split <;> rfl
        · subst z
          have d : ¬ ("right" : Str) = "left" := by decide
          simp only [if_neg d]
          by_cases q : l ≤ n
          · rw [if_pos q, if_pos q]
          · rw [if_neg q, if_neg q, if_neg n1, if_neg n2]
            have e4 : (l, l) = (l, r) := by
              have : l = r := by omega
              rw [this]
            simp only [e4]
            split <;> split <;> rfl
theorem k16_fok {f : Fld} (h : FOk f) : FOk (Fld.mk f.low (f.low + 1) 1 f.base f.off f.ends f.big) := by
  obtain ⟨l0, lh, h1, s0, s1, b0, b1, off, ends, g0, g1, on⟩ := h
  refine ⟨l0, by show f.low < f.low + 1; omega, by show f.low + 1 ≤ _; omega, by show (1 : Int) ≤ 1; omega, by show (1 : Int) ≤ _; omega, b0, b1, off, ends, g0, g1, ?_⟩
  show f.base - (f.base - f.low) / 1 * 1 ≤ f.base + (f.low + 1 - f.base) / 1 * 1
  rw [Int.ediv_one, Int.ediv_one]
  omega
theorem part_wide {f : Fld} (hf : FL f) : (partTies f "stop" "refuse").isNone = decide (f.high - f.low = 1) := by
  obtain ⟨l0, lh, h1, _⟩ := hf
  unfold partTies
  rw [if_neg (by decide), if_neg (by decide)]
  by_cases z : f.high - f.low > 1
  · rw [if_pos z, decide_eq_false (by omega)]
    rfl
  · rw [if_neg z, decide_eq_true (by omega)]
    rfl
theorem part_push {f : Fld} : (partTies f "push" "stop").isNone = false := by
  unfold partTies
  rw [if_neg (by decide), if_pos (by decide)]
  rfl
def tiedRow (f : Fld) (t : Str) (p : Int × Int) (ds : List (Str × Sg)) : Int × Int := ds.foldl (fun q d => pressTied f t q d.1 d.2.c) p
theorem tiedRow_snoc {f : Fld} {t : Str} {p : Int × Int} {ds : List (Str × Sg)} {d : Str × Sg} : tiedRow f t p (ds ++ [d]) = pressTied f t (tiedRow f t p ds) d.1 d.2.c := by
  unfold tiedRow
  rw [List.foldl_append]
  rfl
theorem side_word {s : Str} (h : s = "left" ∨ s = "right") : isWord (Enc.enc s) (Tpl.mk ["left", "right"]) = true := by
  show decide (s ∈ (["left", "right"] : List Str)) = true
  rw [decide_eq_true_eq]
  simp only [List.mem_cons, List.not_mem_nil, or_false]
  exact h
theorem side_at {s : Str} {p : Int × Int} (h : s = "left" ∨ s = "right") : atI [p.1, p.2] (if decide (s = ("right" : Str)) = true then (1 : Int) else 0) = some (sideOf p s) := by
  rcases h with z | z <;> (subst z; rfl)
section
variable {t side : Str} {p one : Int × Int} {n : Int}
theorem sd0 (d : one = if decide (side = ("left" : Str)) = true then (n, p.2) else (p.1, n)) : one.1 = (if side = "left" then n else p.1) ∧ one.2 = (if side = "left" then p.2 else n) := by
  subst d
  by_cases z : side = "left"
  · rw [if_pos (decide_eq_true z), if_pos z, if_pos z]
    exact ⟨rfl, rfl⟩
  · rw [if_neg (by rw [decide_eq_true_eq]; exact z), if_neg z, if_neg z]
    exact ⟨rfl, rfl⟩
theorem sd1 (d : one = if decide (side = ("left" : Str)) = true then (n, p.2) else (p.1, n)) (h : decide (one.1 ≤ one.2) = true) : (one.1, one.2) = settle t p side n := by
  unfold settle
  rw [← (sd0 d).1, ← (sd0 d).2, if_pos (of_decide_eq_true h)]
theorem sd2 (d : one = if decide (side = ("left" : Str)) = true then (n, p.2) else (p.1, n)) (h : decide (one.1 ≤ one.2) = false) (h2 : decide (t = ("push" : Str)) = true) : (n, n) = settle t p side n := by
  unfold settle
  rw [← (sd0 d).1, ← (sd0 d).2, if_neg (of_decide_eq_false h), if_pos (of_decide_eq_true h2)]
theorem sd3 (d : one = if decide (side = ("left" : Str)) = true then (n, p.2) else (p.1, n)) (h : decide (one.1 ≤ one.2) = false) (h2 : decide (t = ("push" : Str)) = false) (h3 : decide (t = ("refuse" : Str)) = true) : p = settle t p side n := by
  unfold settle
  rw [← (sd0 d).1, ← (sd0 d).2, if_neg (of_decide_eq_false h), if_neg (of_decide_eq_false h2), if_pos (of_decide_eq_true h3)]
theorem sd4 (d : one = if decide (side = ("left" : Str)) = true then (n, p.2) else (p.1, n)) (h : decide (one.1 ≤ one.2) = false) (h2 : decide (t = ("push" : Str)) = false) (h3 : decide (t = ("refuse" : Str)) = false) :
    (if decide (side = ("left" : Str)) = true then (p.2, p.2) else (p.1, p.1)) = settle t p side n := by
  unfold settle
  rw [← (sd0 d).1, ← (sd0 d).2, if_neg (of_decide_eq_false h), if_neg (of_decide_eq_false h2), if_neg (of_decide_eq_false h3)]
  by_cases z : side = "left"
  · rw [if_pos (decide_eq_true z), if_pos z]
  · rw [if_neg (by rw [decide_eq_true_eq]; exact z), if_neg z]
end
theorem pressTied_in {f : Fld} {t s : Str} {p : Int × Int} {c : Nat} (hf : FL f) (hp : f.low ≤ p.1 ∧ p.1 ≤ p.2 ∧ p.2 ≤ f.high) (hs : s = "left" ∨ s = "right") (hk : isKey c) :
    f.low ≤ (pressTied f t p s c).1 ∧ (pressTied f t p s c).1 ≤ (pressTied f t p s c).2 ∧ (pressTied f t p s c).2 ≤ f.high := by
  unfold pressTied
  have hv : f.low ≤ sideOf p s ∧ sideOf p s ≤ f.high := by
    rcases hs with z | z <;> subst z
    · show f.low ≤ p.1 ∧ p.1 ≤ f.high
      omega
    · show f.low ≤ p.2 ∧ p.2 ≤ f.high
      omega
  have hn := pressKey_in hf hv hk
  generalize pressKey f (sideOf p s) c = n at hn
  unfold settle
  rcases hs with z | z
  · subst z
    simp only [if_true]
    repeat' split
    all_goals first | omega | (dsimp only; omega)
  · subst z
    have d : ¬ ("right" : Str) = "left" := by decide
    simp only [if_neg d]
    repeat' split
    all_goals first | omega | (dsimp only; omega)
/-- nothing meets: the left side -/
theorem tie_left {f : Fld} {t : Str} {x y : Int} {c : Nat} (h : pressKey f x c ≤ y) : pressTied f t (x, y) "left" c = (pressKey f x c, y) := by
  unfold pressTied settle
  have e : sideOf (x, y) "left" = x := rfl
  rw [e]
  simp only [if_true]
  rw [if_pos h]
theorem tie_right {f : Fld} {t : Str} {x y : Int} {c : Nat} (h : x ≤ pressKey f y c) : pressTied f t (x, y) "right" c = (x, pressKey f y c) := by
  have d : ¬ ("right" : Str) = "left" := by decide
  unfold pressTied settle
  have e : sideOf (x, y) "right" = y := by
    unfold sideOf
    rw [if_neg d]
  rw [e]
  simp only [if_neg d]
  rw [if_pos h]
/-- how far a key moves if it does not go round -/
theorem key_far {f : Fld} {v : Int} {c : Nat} (hs : 1 ≤ f.step) (hb : 2 ≤ f.big) (hv : f.low ≤ v ∧ v ≤ f.high) (hm : isMove c) (hr : ¬ f.ends = "round") :
    (v + f.step * (f.big + 1) ≤ f.high → pressKey f v c ≤ v + f.step * (f.big + 1)) ∧ (f.low ≤ v - f.step * (f.big + 1) → v - f.step * (f.big + 1) ≤ pressKey f v c) := by
  have fa := aim_far (v := v) hs hb hm
  have hp : 0 ≤ f.step * (f.big + 1) := Int.mul_nonneg (by omega) (by omega)
  rcases press_ways hs hb hv hm with ⟨a1, a2, e⟩ | ⟨u, a2, e⟩ | ⟨u, a2, e⟩
  · by_cases u : isUp c
    · have := fa.1 u
      omega
    · have := fa.2 u
      omega
  · have := fa.1 u
    rw [if_neg hr] at e
    split at e <;> omega
  · have := fa.2 u
    rw [if_neg hr] at e
    split at e <;> omega
theorem k36_apart {f : Fld} {t : Str} {l r : Int} {one two : Sg} (hs : 1 ≤ f.step) (hb : 2 ≤ f.big) (hl : f.low ≤ l ∧ l ≤ f.high) (hr : f.low ≤ r ∧ r ≤ f.high) (h1 : isMove one.c) (h2 : isMove two.c) (hd : ¬ r - l ≤ 2 * f.step * (f.big + 2)) (ho : ¬ f.ends = "round") :
    tiedRow f t (l, r) [("left", one), ("right", two)] = (pressKey f l one.c, pressKey f r two.c) ∧ tiedRow f t (l, r) [("right", two), ("left", one)] = (pressKey f l one.c, pressKey f r two.c) := by
  have e : 2 * f.step * (f.big + 2) = 2 * (f.step * (f.big + 1)) + 2 * f.step := by
    rw [Int.mul_assoc, Int.mul_add, Int.mul_add, Int.mul_add, Int.mul_add]
    omega
  have hp : 0 ≤ f.step * (f.big + 1) := Int.mul_nonneg (by omega) (by omega)
  have k1 := (key_far hs hb hl h1 ho).1 (by omega)
  have k2 := (key_far hs hb hr h2 ho).2 (by omega)
  constructor
  · show pressTied f t (pressTied f t (l, r) "left" one.c) "right" two.c = _
    rw [tie_left (by omega), tie_right (by omega)]
  · show pressTied f t (pressTied f t (l, r) "right" two.c) "left" one.c = _
    rw [tie_right (by omega), tie_left (by omega)]
theorem k36_key {s : Str} {x : Str × Sg} (h : s = "left" ∨ s = "right") (p : x.1 = s ∧ x.2 ∈ sgs "udUDhe") : (x.1 = "left" ∨ x.1 = "right") ∧ isKey x.2.c := by
  rw [p.1]
  exact ⟨h, sgs_keys.mp p.2⟩
theorem k36_in {f : Fld} {t : Str} {p q : Int × Int} {x : Str × Sg} (d : q = tiedRow f t p [x]) (hf : FL f) (hp : f.low ≤ p.1 ∧ p.1 ≤ p.2 ∧ p.2 ≤ f.high) (k : (x.1 = "left" ∨ x.1 = "right") ∧ isKey x.2.c) : f.low ≤ q.1 ∧ q.1 ≤ q.2 ∧ q.2 ≤ f.high := by
  rw [d]
  exact pressTied_in hf hp k.1 k.2
theorem press_ho {f : Fld} {v : Int} : pressKey f v 104 = f.low := rfl
theorem side_l {x y : Int} : sideOf (x, y) "left" = x := rfl
theorem side_r {x y : Int} : sideOf (x, y) "right" = y := by
  unfold sideOf
  rw [if_neg (by decide)]
theorem settle_l {t : Str} {x y n : Int} : settle t (x, y) "left" n = if n ≤ y then (n, y) else if t = "push" then (n, n) else if t = "refuse" then (x, y) else (y, y) := by
  unfold settle
  simp only [if_true]
theorem settle_r {t : Str} {x y n : Int} : settle t (x, y) "right" n = if x ≤ n then (x, n) else if t = "push" then (n, n) else if t = "refuse" then (x, y) else (x, x) := by
  unfold settle
  have d : ¬ ("right" : Str) = "left" := by decide
  simp only [if_neg d]
theorem k36_push {f : Fld} {v : Int} (hl : f.low < f.high) (hv : f.low ≤ v ∧ v ≤ f.high) : tiedRow f "push" (v, v) [("left", Sg.mk 101), ("right", Sg.mk 104)] = (f.low, f.low) := by
  show pressTied f "push" (pressTied f "push" (v, v) "left" 101) "right" 104 = _
  have e : pressTied f "push" (v, v) "left" 101 = (f.high, f.high) := by
    unfold pressTied
    rw [press_he, settle_l]
    split
    · have : v = f.high := by omega
      rw [this]
    · rw [if_pos rfl]
  rw [e]
  unfold pressTied
  rw [press_ho, settle_r, if_neg (by omega), if_pos rfl]
theorem k36_stop {f : Fld} {v : Int} (hl : f.low < f.high) (hv : f.low ≤ v ∧ v ≤ f.high) : tiedRow f "stop" (v, v) [("left", Sg.mk 101), ("right", Sg.mk 104)] = (v, v) := by
  show pressTied f "stop" (pressTied f "stop" (v, v) "left" 101) "right" 104 = _
  have e : pressTied f "stop" (v, v) "left" 101 = (v, v) := by
    unfold pressTied
    rw [press_he, settle_l]
    split
    · have : v = f.high := by omega
      rw [this]
    · rw [if_neg (by decide), if_neg (by decide)]
  rw [e]
  unfold pressTied
  rw [press_ho, settle_r]
  split
  · have : v = f.low := by omega
    rw [this]
  · rw [if_neg (by decide), if_neg (by decide)]
theorem k36_refuse {f : Fld} {v : Int} (hl : f.low < f.high) (hv : f.low ≤ v ∧ v ≤ f.high) : tiedRow f "refuse" (v, v) [("left", Sg.mk 104), ("right", Sg.mk 101)] = (f.low, f.high) := by
  show pressTied f "refuse" (pressTied f "refuse" (v, v) "left" 104) "right" 101 = _
  have e : pressTied f "refuse" (v, v) "left" 104 = (f.low, v) := by
    unfold pressTied
    rw [press_ho, settle_l, if_pos hv.1]
  rw [e]
  unfold pressTied
  rw [press_he, settle_r, if_pos (by omega)]
end Sf
namespace Sf
open PySem PySem.Spec PyProof.Rows L2 Evl
theorem two_getD {α : Type} {l : List α} {d : α} (h : (l.length : Int) = 2) : l = [l.getD 0 d, l.getD 1 d] := by
  match l, h with
  | [a, b], _ => rfl
  | [], h => cases h
  | [_], h => cases h
  | _ :: _ :: _ :: _, h =>
    simp only [List.length_cons] at h
    omega
theorem k15_tie {t : Str} (h : t ∈ (["push", "stop", "refuse"] : List Str)) : isTie t := by
  simp only [List.mem_cons, List.not_mem_nil, or_false] at h
  rcases h with z | z | z
  · exact .inl z
  · exact .inr (.inr z)
  · exact .inr (.inl z)
end Sf

namespace Sf
open PySem PySem.Spec PyProof.Rows L2 Evl
def isOn (f : Fld) (v : Int) : Bool := decide ((v - f.base) % f.step = 0)
/-- the last place up to which all hold -/
def lastT (p : Nat → Bool) : Nat → Nat
  | 0 => 0
  | n + 1 => if p n = true then n + 1 else lastT p n
theorem lastT_le {p : Nat → Bool} : ∀ n, lastT p n ≤ n
  | 0 => Nat.le_refl _
  | n + 1 => by
    unfold lastT
    split
    · omega
    · have := lastT_le (p := p) n
      omega
theorem lastT_hi {p : Nat → Bool} : ∀ n i, lastT p n ≤ i → i < n → p i = false
  | 0, i, _, h => by omega
  | n + 1, i, h1, h2 => by
    unfold lastT at h1
    split at h1
    · omega
    · next h =>
      by_cases e : i = n
      · subst e
        exact no_of h
      · exact lastT_hi n i h1 (by omega)
theorem lastT_lo {p : Nat → Bool} (hp : ∀ i, p (i + 1) = true → p i = true) : ∀ n i, i < lastT p n → p i = true
  | 0, i, h => by
    unfold lastT at h
    omega
  | n + 1, i, h => by
    unfold lastT at h
    split at h
    · next h1 =>
      have g : ∀ k, k ≤ n → p (n - k) = true := by
        intro k
        induction k with
        | zero => exact fun _ => h1
        | succ k ih =>
          intro hk
          apply hp
          have := ih (by omega)
          rw [show n - (k + 1) + 1 = n - k by omega]
          exact this
      have := g (n - i) (by omega)
      rw [show n - (n - i) = i by omega] at this
      exact this
    · exact lastT_lo hp n i h
theorem slide_div {s p : Int} (s0 : 1 ≤ s) (s1 : s ≤ 1000000000000) (p0 : 1 ≤ p) (p1 : p ≤ 4000000000000) : 0 < 2 * s * p ∧ 2 * s * p < 1267650600228229401496703205376 := by
  have h1 : 0 < 2 * s * p := Int.mul_pos (by omega) (by omega)
  have h2 : 2 * s * p ≤ 2 * s * 4000000000000 := Int.mul_le_mul_of_nonneg_left p1 (by omega)
  omega
def rawAt (f : Fld) (w d : Int) : Int := f.base + (2 * ((f.low - f.base) * (w - 1) + (f.high - f.low) * d) + f.step * (w - 1)) / (2 * f.step * (w - 1)) * f.step
def valueAt (f : Fld) (w d : Int) : Int := max (gridOf f).1 (min (gridOf f).2 (rawAt f w d))
theorem raw_mono {f : Fld} {w d d' : Int} (hf : FL f) (hw : 2 ≤ w) (h : d ≤ d') : rawAt f w d ≤ rawAt f w d' := by
  obtain ⟨l0, lh, h1, s0, s1, b0, b1⟩ := hf
  unfold rawAt
  have h2 : (f.high - f.low) * d ≤ (f.high - f.low) * d' := Int.mul_le_mul_of_nonneg_left h (by omega)
  have hp : 0 < 2 * f.step * (w - 1) := Int.mul_pos (by omega) (by omega)
  have h3 := Int.ediv_le_ediv hp (show 2 * ((f.low - f.base) * (w - 1) + (f.high - f.low) * d) + f.step * (w - 1) ≤ 2 * ((f.low - f.base) * (w - 1) + (f.high - f.low) * d') + f.step * (w - 1) by omega)
  have h4 := Int.mul_le_mul_of_nonneg_right h3 (show 0 ≤ f.step by omega)
  omega
theorem value_mono {f : Fld} {w d d' : Int} (hf : FL f) (hw : 2 ≤ w) (h : d ≤ d') : valueAt f w d ≤ valueAt f w d' := by
  have := raw_mono (d := d) (d' := d') hf hw h
  unfold valueAt
  omega
def firstDot (f : Fld) (w v : Int) : Int := (lastT (fun i => decide (valueAt f w (i : Nat) < v)) w.toNat : Nat)
theorem firstDot_le {f : Fld} {w v : Int} (hw : 0 ≤ w) : 0 ≤ firstDot f w v ∧ firstDot f w v ≤ w := by
  have := lastT_le (p := fun i => decide (valueAt f w (i : Nat) < v)) w.toNat
  unfold firstDot
  omega
theorem firstDot_lo {f : Fld} {w v : Int} (hf : FL f) (hw : 2 ≤ w) : ∀ d, 0 ≤ d → d < firstDot f w v → valueAt f w d < v := by
  intro d h0 h1
  have h2 := lastT_lo (p := fun i => decide (valueAt f w (i : Nat) < v)) (fun i hi => by
    simp only [decide_eq_true_eq] at hi ⊢
    have := value_mono (d := ((i : Nat) : Int)) (d' := ((i + 1 : Nat) : Int)) hf hw (by omega)
    omega) w.toNat d.toNat (by
    unfold firstDot at h1
    omega)
  simp only [decide_eq_true_eq] at h2
  rw [show ((d.toNat : Nat) : Int) = d by omega] at h2
  exact h2
theorem firstDot_hi {f : Fld} {w v : Int} : ∀ d, firstDot f w v ≤ d → d < w → v ≤ valueAt f w d := by
  intro d h0 h1
  have hd : 0 ≤ d := by
    unfold firstDot at h0
    omega
  have h2 := lastT_hi (p := fun i => decide (valueAt f w (i : Nat) < v)) w.toNat d.toNat (by
    unfold firstDot at h0
    omega) (by omega)
  simp only [decide_eq_false_iff_not] at h2
  rw [show ((d.toNat : Nat) : Int) = d by omega] at h2
  omega
theorem firstDot_eq {f : Fld} {w v D : Int} (hf : FL f) (hw : 2 ≤ w) (h0 : 0 ≤ D) (h1 : D ≤ w) (hlo : ∀ d, 0 ≤ d → d < D → valueAt f w d < v) (hhi : ∀ d, D ≤ d → d < w → v ≤ valueAt f w d) : firstDot f w v = D := by
  have a := firstDot_le (f := f) (w := w) (v := v) (by omega)
  by_cases h : firstDot f w v < D
  · have b := hlo _ a.1 h
    have c := firstDot_hi (f := f) (w := w) (v := v) _ (Int.le_refl _) (by omega)
    omega
  · by_cases h2 : D < firstDot f w v
    · have b := firstDot_lo (v := v) hf hw D h0 h2
      have c := hhi D (Int.le_refl _) (by omega)
      omega
    · omega
def rangeOf (f : Fld) (w v : Int) : Option (Int × Int) :=
  if (decide (firstDot f w v = w) || !decide (valueAt f w (firstDot f w v) = v)) = true then none else some (firstDot f w v, firstDot f w (v + 1) - 1)
def dotsFor (f : Fld) (w v : Int) : Option (Int × Int) := if isOn f v = true then rangeOf f w v else none
def everyOf (f : Fld) : Int := ((gridOf f).2 - (gridOf f).1) / f.step + 1
def countOf (f : Fld) (w : Int) : Int :=
  if (decide (everyOf f = 1) || decide (f.high - f.low ≤ f.step * (w - 1))) = true then everyOf f else firstDot f w (gridOf f).2 - firstDot f w ((gridOf f).1 + 1) + 2
abbrev WOk (w : Int) : Prop := 2 ≤ w ∧ w ≤ 1000000
abbrev WOx (w : Int) : Prop := 2 ≤ w ∧ w ≤ 4000000000000
theorem wok_x {w : Int} (h : WOk w) : WOx w := ⟨h.1, Int.le_trans h.2 (by decide)⟩
/-- the first value that is missed, by halving -/
def missGo (f : Fld) (w first start : Int) : Nat → Int → Int → Int
  | 0, lo, _ => lo
  | n + 1, lo, hi => if lo < hi then (if first + ((lo + hi) / 2 + 1) * f.step < valueAt f w (start + (lo + hi) / 2) then missGo f w first start n lo ((lo + hi) / 2) else missGo f w first start n ((lo + hi) / 2 + 1) hi) else lo
def enoughGo (f : Fld) : Nat → Int → Int
  | 0, w => w
  | n + 1, w => if countOf f w < everyOf f then enoughGo f n (w + 1) else w
end Sf

namespace Sf
open PySem PySem.Spec PyProof.Rows L2 Evl
/-! ### enumerate(text) -/
def IteS (x : Str) : It where
  go := fun i _ => i < x.cps.size
  yld := fun i H v H' => ∃ T c, v = .ref T ∧ H T = none ∧ H' = upd H T (.tup [.int (i : Nat), .str ⟨#[c]⟩]) ∧ x.cps[i]? = some c
  stop := fun i _ => x.cps.size ≤ i
theorem turn_enumS {P : Program} {w : World} {K : PySem.W.Frag} {elts : List Expr} {kk : Nat} {tpos : Pos} (e it : Addr) (x : Str) (t : Tok) : Turn P w K (.Tuple elts kk tpos) (IteS x) [e, it] e (fun i h => (∃ old, IsEnum h e it ((i : Nat) : Int) old) ∧ h.IsStrIter it (strIterType x) x t i ∧ e ≠ it ∧ i ≤ x.cps.size) := by
  refine ⟨by simp, ?_, ?_, ?_, ?_, ?_⟩
  · rintro i h ⟨⟨old, he⟩, ⟨o, ho, hc, hd⟩, _⟩ b hb
    rcases List.mem_cons.mp hb with z | z
    · rw [z]
      exact ⟨_, he, fun v q => nomatch q⟩
    · rw [List.mem_singleton.mp z]
      exact ⟨o, ho, fun v q => by rw [hd] at q; cases q⟩
  · rintro i h h' ⟨⟨old, he⟩, hi, hne⟩ k
    exact ⟨⟨old, k e (by simp) _ he⟩, (let ⟨o, ho, r⟩ := hi; ⟨o, k it (by simp) o ho, r⟩), hne⟩
  · intro X hP hw hK hc i pins s σ H E I hf ⟨⟨old, he⟩, hit, hne, hle⟩ hlt
    subst hP hw hK
    have elt : e < s.heap.objs.size := Heap.lt_size he
    have ilt : it < s.heap.objs.size := by
      obtain ⟨_, q, _⟩ := hit
      exact Heap.lt_size q
    refine wpAny_pyNext_enum_itemD (Draws.text (by simpa using I.ok.hd hc) it x t) he hit hlt hne (by simp [hne]) fun y h' tk hy ho hst hT hsz hk => ?_
    obtain ⟨c, u, hcx, rfl⟩ := hy
    refine ⟨_, rfl, wpAny_letOwnedTupleGo_enum (s := { s with heap := h', toks := tk + 1 }) ho fun h2 he2 sb => ?_⟩
    have hT2 : h2.get? s.heap.objs.size = some { cls := .type "tuple", data := .seq #[.int i tk, .str ⟨#[c]⟩ u] } := (sb.2 _ (Nat.ne_of_gt elt)).trans hT
    have new : ObjOk X.prog X.w (upd H s.heap.objs.size (.tup [.int (i : Nat), .str ⟨#[c]⟩])) h2 s.heap.objs.size (.tup [.int (i : Nat), .str ⟨#[c]⟩]) :=
      ⟨by show 2 ≤ sizeLine; decide, [.int i tk, .str ⟨#[c]⟩ u], .cons ⟨_, rfl⟩ (.cons ⟨_, rfl⟩ .nil), ⟨_, hT2, rfl, _, rfl⟩⟩
    have I1 : Inv X pins σ (upd H s.heap.objs.size (.tup [.int (i : Nat), .str ⟨#[c]⟩])) { s with heap := h2, toks := tk + 1 } :=
      I.turnedNew (ch := [e, it]) (fun b ob hb q => (sb.2 b (fun z => hb (by rw [z]; exact List.mem_cons_self ..))).trans (hk b ob (fun z => hb (by rw [z]; exact List.mem_cons_self ..)) (fun z => hb (by rw [z]; exact List.mem_cons_of_mem _ (List.mem_cons_self ..))) q)) hf (Nat.le_refl _) new
    refine ⟨.ref s.heap.objs.size, _, I1, rfl, ⟨_, c, rfl, I.hok.fresh (Nat.le_refl _), rfl, hcx⟩, ⟨⟨_, by rw [show ((i + 1 : Nat) : Int) = (i : Int) + 1 by omega]; exact he2⟩, (let ⟨o, ho, r⟩ := hst; ⟨o, (sb.2 it (Ne.symm hne)).trans ho, r⟩), hne, hlt⟩, fun b hb => ?_⟩
    have lb : b < s.heap.objs.size := by
      rcases List.mem_cons.mp hb with z | z
      · rw [z]; exact elt
      · rw [List.mem_singleton.mp z]; exact ilt
    rw [upd_ne (Nat.ne_of_lt lb)]
    exact (hf b hb).1
  · intro X hP hw hK hc i pins s σ H E I hf ⟨⟨old, he⟩, hit, hne, hle⟩ hlt
    subst hP hw hK
    have ei : i = x.cps.size := Nat.le_antisymm hle hlt
    subst ei
    obtain ⟨f0, f1, f2, f3, f4, f5⟩ := hf it (by simp)
    exact wpAny_pyNext_enum_endD (Draws.text (by simpa using I.ok.hd hc) it x t) he hit fun h' eb => ⟨rfl, I.turned (t' := s.toks) (fun b o hb q => eb b o hb q) f0 f1 f3 f4 f5⟩
  · intro A i s Q E ⟨⟨old, he⟩, _⟩ h
    exact wpAny_pyIter_enum he h
def iEnumS (ta : TA) : TI := fun σ H R => ta σ H fun vs H1 => ∃ x : Str, vs = [.str x] ∧ R (IteS x) H1
theorem pi_enumS {X : Cx} {e : Expr} {ta : TA} {p pos tpos : Pos} {elts : List Expr} {kk : Nat} (hg : Gl X "enumerate") (hm : X.mg "enumerate" = none) (ha : PA X [e] ta) (hs : starEach [e] X.env = [(false, eval e X.env)] := by rfl) :
    PI X (.Tuple elts kk tpos) (.Call (.Name "enumerate" p) [e] [] pos) (iEnumS ta) := by
  refine ⟨fun pins s σ H R I h => Call_ (ld_blt I hg hm boot_enumerate (PyProof.Rows.callWith_type1 (thn (ha.run pos pins s σ H _ I h) fun us s1 ⟨vs, H1, I1, r1, x, ex, q⟩ => ?_) hs rfl))⟩
  subst ex
  obtain ⟨u, eu, ru⟩ := r1.one
  subst eu
  obtain ⟨t, rfl⟩ := ru
  refine enum1_call (begins_text x t) trivial fun h' he hit hk => wpAny_pyIter_enum he ?_
  have I2 : Inv X pins σ H1 { s1 with heap := h' } := I1.kept (t' := s1.toks) hk
  refine ⟨s1.heap.objs.size + 1, [s1.heap.objs.size + 1, s1.heap.objs.size], _, _, H1, rfl, I2, turn_enumS (s1.heap.objs.size + 1) s1.heap.objs.size x t, ⟨⟨.none, he⟩, ⟨_, hit, rfl, rfl⟩, Nat.succ_ne_self _, Nat.zero_le _⟩, fun b hb => ?_, q⟩
  have hle : s1.heap.objs.size ≤ b := by
    rcases List.mem_cons.mp hb with z | z
    · rw [z]; exact Nat.le_succ _
    · rw [List.mem_singleton.mp z]; exact Nat.le_refl _
  exact I1.fpOk hle (I1.hok.fresh hle)
theorem wk_enumS {K : PySem.W.Frag} {σ : L2.St} {H : Hp} {ta : TE} {z : Str} (h : ER K ta σ H z) : Wk K (iEnumS (tCons ta tNil)) σ H (enum (sgs z)) := fun H1 e R k => h H1 e _ fun v H2 e2 r => by
  cases r
  have hl : (enum (sgs z)).length = z.cps.size := by simp [enum, sgs]
  refine ⟨z, rfl, k _ H2 (fun _ => True) (fun i H v H' => ∃ T c, v = .ref T ∧ H T = none ∧ H' = upd H T (.tup [.int (i : Nat), .str ⟨#[c]⟩]) ∧ z.cps[i]? = some c) e2 ⟨fun i H hi g => (by show i < z.cps.size; omega), fun H g => (by show z.cps.size ≤ _; omega), fun i H x H' hi g y => y⟩ (fun _ _ => trivial) fun i Ha v Hb hi ea y => ?_⟩
  obtain ⟨T, c, rfl, hT, rfl, h2⟩ := y
  have n := Ex.new (o := .tup [.int (i : Nat), .str ⟨#[c]⟩]) hT
  have hx : (sgs z)[i]? = some (Sg.mk c) := by simp only [sgs, List.getElem?_map, Array.getElem?_toList, h2, Option.map_some]
  exact ⟨n, _, enum_get hx, T, _, _, rfl, st_of upd_same, rfl, rfl⟩
end Sf

namespace Sf
open PySem PySem.Spec PyProof.Rows L2 Evl
section
variable {α : Type} [Rep α] {K : PySem.W.Frag} {σ : L2.St} {H : Hp} {te ta tb : TE}
/-! ### tuples put together of drawn things -/
def EVN (K : PySem.W.Frag) (te : TE) (σ : L2.St) (H : Hp) (P : List V → Prop) : Prop := ∀ H1, Ex H H1 → ∀ Q : VK, (∀ vs p H2, P vs → Ex H1 H2 → SqT K H2 p vs → Q (.ref p) H2) → te σ H1 Q
theorem evn_is {vs : List V} (h : EV K te σ H vs) : EVN K te σ H (fun ws => ws = vs) := fun H1 e Q q => h H1 e Q fun p H2 e2 hs => q vs p H2 rfl e2 hs
theorem evn_I {P : Int → Prop} (h : EN K te σ H P) : EVN K (tTup (tCons te tNil)) σ H (fun ws => ∃ x, P x ∧ ws = [V.int x]) := fun H1 e Q q =>
  h H1 e _ fun x v H2 p e2 r => by
    cases r
    exact ⟨sz_of (Nat.le_of_ble_eq_true rfl), fun a ha => q [V.int x] a _ ⟨x, p, rfl⟩ (e2.trans (Ex.new ha)) (st_of upd_same)⟩
theorem evn_S {P : Str → Prop} (h : EN K te σ H P) : EVN K (tTup (tCons te tNil)) σ H (fun ws => ∃ x, P x ∧ ws = [V.str x]) := fun H1 e Q q =>
  h H1 e _ fun x v H2 p e2 r => by
    cases r
    exact ⟨sz_of (Nat.le_of_ble_eq_true rfl), fun a ha => q [V.str x] a _ ⟨x, p, rfl⟩ (e2.trans (Ex.new ha)) (st_of upd_same)⟩
theorem evn_cat {PA PB : List V → Prop} (h : EVN K ta σ H PA) (h2 : EVN K tb σ H PB) (hA : ∀ vs, PA vs → vs ≠ [] ∧ vs.length ≤ 10) (hB : ∀ vs, PB vs → vs ≠ [] ∧ vs.length ≤ 10) : EVN K (tOp (rCatT K) ta tb) σ H (fun ws => ∃ x, PA x ∧ ∃ y, PB y ∧ ws = x ++ y) := fun H1 e Q q =>
  h H1 e _ fun vs a H2 pa e2 hs => h2 H2 (e.trans e2) _ fun ws b H3 pb e3 hs2 => by
    have hl : vs.length + ws.length ≤ 100000 := by have := (hA vs pa).2; have := (hB ws pb).2; omega
    refine ⟨a, b, vs, ws, rfl, rfl, ex_t e3 hs, hs2, (hA vs pa).1, sz_of hl, ?_⟩
    first
      | exact ⟨fun z => absurd z (hB ws pb).1, fun _ p hp => q (vs ++ ws) p _ ⟨vs, pa, ws, pb, rfl⟩ ((e2.trans e3).trans (Ex.new hp)) (st_of upd_same)⟩
      | exact ⟨fun z => absurd z (hB ws pb).1, fun p hp => q (vs ++ ws) p _ ⟨vs, pa, ws, pb, rfl⟩ ((e2.trans e3).trans (Ex.new hp)) (st_of upd_same)⟩
theorem en_ofVN {P : List V → Prop} {P' : Fld → Prop} (h : EVN K te σ H P) (hv : ∀ vs, P vs → ∃ f : Fld, P' f ∧ vs = f.vs) : EN K te σ H P' := fun H1 e Q q => h H1 e Q fun vs p H2 pv e2 hs => by
  obtain ⟨f, h1, h2⟩ := hv vs pv
  exact q f (.ref p) H2 h1 e2 ⟨p, rfl, by rw [← h2]; exact hs⟩
theorem rels_intX (H : Hp) : ∀ l : List Int, rels K H (l.map V.int) l
  | [] => .nil
  | _ :: l => .cons rfl (rels_intX H l)
theorem en_ofVT {P : List V → Prop} {P' : Tpl Int → Prop} (h : EVN K te σ H P) (hv : ∀ vs, P vs → ∃ f : Tpl Int, P' f ∧ vs = f.l.map V.int) : EN K te σ H P' := fun H1 e Q q => h H1 e Q fun vs p H2 pv e2 hs => by
  obtain ⟨f, h1, h2⟩ := hv vs pv
  exact q f (.ref p) H2 h1 e2 ⟨p, f.l.map V.int, rfl, by rw [← h2]; exact hs, rels_intX H2 f.l⟩
theorem rels_ints2 {H : Hp} : ∀ {vs : List V} {l : List Int}, rels K H vs l → vs = l.map V.int
  | _, _, .nil => rfl
  | _, _, .cons h1 h2 => by
    rw [rels_ints2 h2, show _ = V.int _ from h1]
    rfl
theorem er_cast {x y : α} (h : ER K te σ H x) (e : x = y) : ER K te σ H y := e ▸ h
theorem ev_tplI {l : List Int} (h : ER K te σ H (Tpl.mk l)) : EV K te σ H (l.map V.int) := fun H1 e Q q => h H1 e Q fun v H2 e2 ⟨a, vs, hv, hs, hr⟩ => by
  subst hv
  have e3 : vs = l.map V.int := rels_ints2 hr
  rw [e3] at hs
  exact q a H2 e2 hs
end
section
variable {α β γ : Type} [Rep α] [Rep β] [Rep γ] {K : PySem.W.Frag} {σ : L2.St} {H : Hp} {ta tb tc : TE} {u : TS} {D : Ends}
/-- three at once -/
theorem n_par3 (K : PySem.W.Frag) {n m l : Nat} {s1 s2 s3 : V → V → V → L2.St} {P1 : α → Prop} {P2 : β → Prop} {P3 : γ → Prop} (h : EN K ta σ H P1) (h2 : ∀ H1, Ex H H1 → EN K tb σ H1 P2) (h3 : ∀ H1, Ex H H1 → EN K tc σ H1 P3)
    (hs1 : ∀ v w t, SetAt σ n v (s1 v w t)) (hs2 : ∀ v w t, SetAt (s1 v w t) m w (s2 v w t)) (hs3 : ∀ v w t, SetAt (s2 v w t) l t (s3 v w t))
    (k : ∀ x y z v w t H1, P1 x → P2 y → P3 z → Ex H H1 → Rep.rel K H1 v x → Rep.rel K H1 w y → Rep.rel K H1 t z → u D (s3 v w t) H1) : tSeq (tPar3 n m l (tCons ta (tCons tb (tCons tc tNil)))) u D σ H :=
  h H (Ex.refl H) _ fun x v H1 p1 e r => h2 H1 e H1 (Ex.refl H1) _ fun y w H2 p2 e2 r2 => h3 H2 (e.trans e2) H2 (Ex.refl H2) _ fun z t H3 p3 e3 r3 => ⟨v, w, t, rfl, by
    show u D (((σ.set n (some v)).set m (some w)).set l (some t)) H3
    rw [(hs1 v w t).eq, (hs2 v w t).eq, (hs3 v w t).eq]
    exact k x y z v w t _ p1 p2 p3 ((e.trans e2).trans e3) (Rep.mono (e2.trans e3) r) (Rep.mono e3 r2) r3⟩
/-- three at once, through a tuple -/
theorem n_parT3 (K : PySem.W.Frag) {P1 : α → Prop} {P2 : β → Prop} {P3 : γ → Prop} {n : Nat} {g : TGs} (hn : n = 3) (h : EN K ta σ H P1) (h2 : ∀ H1, Ex H H1 → EN K tb σ H1 P2) (h3 : ∀ H1, Ex H H1 → EN K tc σ H1 P3)
    (k : ∀ x y z v w t H1, P1 x → P2 y → P3 z → Ex H H1 → Rep.rel K H1 v x → Rep.rel K H1 w y → Rep.rel K H1 t z → g [v, w, t] σ H1 fun σ' H' => u D σ' H') : tSeq (tAsg (tTup (tCons ta (tCons tb (tCons tc tNil)))) (gTup K n g)) u D σ H :=
  h H (Ex.refl H) _ fun x v H1 p1 e r => h2 H1 e H1 (Ex.refl H1) _ fun y w H2 p2 e2 r2 => h3 H2 (e.trans e2) H2 (Ex.refl H2) _ fun z t H3 p3 e3 r3 => ⟨sz_of (by show 3 ≤ 100000; decide), fun p hp => ⟨p, [v, w, t], rfl, st_of upd_same, hn.symm, by
    have e4 := Ex.new (o := .tup [v, w, t]) hp
    exact k x y z v w t _ p1 p2 p3 (((e.trans e2).trans e3).trans e4) (Rep.mono ((e2.trans e3).trans e4) r) (Rep.mono (e3.trans e4) r2) (Rep.mono e4 r3)⟩⟩
end
/-! ### min(list), max(list) -/
def minL : List Int → Int
  | [] => 0
  | x :: r => r.foldl min x
def maxL : List Int → Int
  | [] => 0
  | x :: r => r.foldl max x
theorem foldmin : ∀ (r : List Int) (x : Int), (r.foldl min x = x ∨ r.foldl min x ∈ r) ∧ r.foldl min x ≤ x ∧ ∀ y ∈ r, r.foldl min x ≤ y
  | [], x => ⟨.inl rfl, Int.le_refl _, fun _ h => nomatch h⟩
  | a :: r, x => by
    obtain ⟨h1, h2, h3⟩ := foldmin r (min x a)
    rw [List.foldl_cons]
    refine ⟨?_, by omega, fun y hy => ?_⟩
    · rcases h1 with h | h
      · rw [h]
        by_cases z : x ≤ a
        · left
          omega
        · right
          rw [show min x a = a by omega]
          exact List.mem_cons_self ..
      · exact .inr (List.mem_cons_of_mem _ h)
    · rcases List.mem_cons.mp hy with z | z
      · rw [z]
        omega
      · exact h3 y z
theorem foldmax : ∀ (r : List Int) (x : Int), (r.foldl max x = x ∨ r.foldl max x ∈ r) ∧ x ≤ r.foldl max x ∧ ∀ y ∈ r, y ≤ r.foldl max x
  | [], x => ⟨.inl rfl, Int.le_refl _, fun _ h => nomatch h⟩
  | a :: r, x => by
    obtain ⟨h1, h2, h3⟩ := foldmax r (max x a)
    rw [List.foldl_cons]
    refine ⟨?_, by omega, fun y hy => ?_⟩
    · rcases h1 with h | h
      · rw [h]
        by_cases z : a ≤ x
        · left
          omega
        · right
          rw [show max x a = a by omega]
          exact List.mem_cons_self ..
      · exact .inr (List.mem_cons_of_mem _ h)
    · rcases List.mem_cons.mp hy with z | z
      · rw [z]
        omega
      · exact h3 y z
theorem minL_is {l : List Int} {m : Int} (h1 : m ∈ l) (h2 : ∀ x ∈ l, m ≤ x) : m = minL l := by
  cases l with
  | nil => cases h1
  | cons a r =>
    obtain ⟨k1, k2, k3⟩ := foldmin r a
    have e1 : m ≤ r.foldl min a := h2 _ (by rcases k1 with z | z; rw [z]; exact List.mem_cons_self ..; exact List.mem_cons_of_mem _ z)
    have e2 : r.foldl min a ≤ m := by
      rcases List.mem_cons.mp h1 with z | z
      · rw [z]
        exact k2
      · exact k3 m z
    show m = r.foldl min a
    omega
theorem maxL_is {l : List Int} {m : Int} (h1 : m ∈ l) (h2 : ∀ x ∈ l, x ≤ m) : m = maxL l := by
  cases l with
  | nil => cases h1
  | cons a r =>
    obtain ⟨k1, k2, k3⟩ := foldmax r a
    have e1 : r.foldl max a ≤ m := h2 _ (by rcases k1 with z | z; rw [z]; exact List.mem_cons_self ..; exact List.mem_cons_of_mem _ z)
    have e2 : m ≤ r.foldl max a := by
      rcases List.mem_cons.mp h1 with z | z
      · rw [z]
        exact k2
      · exact k3 m z
    show m = r.foldl max a
    omega
section
variable {K : PySem.W.Frag} {σ : L2.St} {H : Hp} {ta : TE}
theorem er_minL {ns : List Int} (h : ER K ta σ H ns) (hn : 0 < ns.length) : ER K (tCB (rMin K) (tCons ta tNil)) σ H (minL ns) := fun H1 e Q q => h H1 e _ fun v H2 e2 ⟨a, vs, hv, hs, hr⟩ => ⟨a, ns, by rw [hv], by rw [← rels_ints hr]; exact sq_of hs, hn, fun m h1 h2 => q _ H2 e2 (by rw [minL_is h1 h2]; rfl)⟩
theorem er_maxL {ns : List Int} (h : ER K ta σ H ns) (hn : 0 < ns.length) : ER K (tCB (rMax K) (tCons ta tNil)) σ H (maxL ns) := fun H1 e Q q => h H1 e _ fun v H2 e2 ⟨a, vs, hv, hs, hr⟩ => ⟨a, ns, by rw [hv], by rw [← rels_ints hr]; exact sq_of hs, hn, fun m h1 h2 => q _ H2 e2 (by rw [maxL_is h1 h2]; rfl)⟩
end
/-! ### defs without parameters -/
section
variable {δ : Type} [Rep δ] {K : PySem.W.Frag} {σ : L2.St} {H : Hp} {E : XK}
def sp0 (K : PySem.W.Frag) (pre : Prop) (g : δ) : Sp := fun vs H Q _ => vs = [] ∧ pre ∧ ∀ v H', Ex H H' → Rep.rel K H' v g → Q v H'
theorem er_call0 {pre : Prop} {g : δ} (hp : pre) : ER K (tCall (sp0 K pre g) [] E tNil) σ H g := fun H1 e Q q => ⟨rfl, hp, fun v H' e' r => q v H' e' r⟩
variable {P : Program} {w : World} {mg : Str → Option Value} {base : Heap} {x qual : Str} {params : Arguments} {body : List Stmt} {scope : Scope} {dvs : List V} {kws : List (Str × V)} {f : Addr} {fd : FuncData} {N ps : List Str} {k : Nat} {CX : CXT}
theorem ok0 {pre : Prop} {g : δ} (F : FunD K x qual params body scope dvs kws f fd) (S : FnScope N ps scope) (hl : ps.length = 0) (σ0 : L2.St) (h0 : start N [] = σ0)
    (h : ∀ (H : Hp) (Q : VK), pre → (∀ v H', Ex H H' → Rep.rel K H' v g → Q v H') → Body CX P w K mg base k f N qual scope body H Q σ0) : FnOk P w K mg base CX (k + 1) f fd ps (sp0 K pre g) := by
  refine F.ok S (fun vs H Q E hs => ?_) (fun cdv A outer s H vs Q E hr hs => ?_)
  · obtain ⟨rfl, _⟩ := hs
    exact hl.symm
  · obtain ⟨rfl, hp, q⟩ := hs
    rw [h0]
    exact h H Q hp q cdv A outer s E hr
end
end Sf

namespace Sf
open PySem PySem.Spec PyProof.Rows L2 Evl
/-! ### pairs that stand for all, as order.py makes them -/
def insF (f : Fld) (v : Int) : Bool := decide (f.low ≤ v) && decide (v ≤ f.high)
def rests4 (f : Fld) : List Int := [0, 1, (f.step + 1) / 2, f.step - 1]
def offEnd (f : Fld) : Bool := decide (f.off = "add") || !isOn f f.low || !isOn f f.high
def restsAllH (f : Fld) : List Int := if offEnd f = true then rests4 f ++ [(f.low - f.base) % f.step, (f.high - f.base) % f.step] else rests4 f
def restsHere (f : Fld) : List Int := sortU ((restsAllH f).map fun r => r % f.step)
theorem restsAllH_len {f : Fld} : (restsAllH f).length ≤ 6 := by
  unfold restsAllH
  split
  · rw [List.length_append]
    exact Nat.le_refl 6
  · show 4 ≤ 6
    decide
theorem restsHere_len {f : Fld} : (restsHere f).length ≤ 6 := by
  unfold restsHere
  refine Nat.le_trans sortU_len ?_
  rw [List.length_map]
  exact restsAllH_len
def rowH (f : Fld) (i : Int) : List Int := (restsHere f).map fun r => f.base + i * f.step + r
theorem rowH_len {f : Fld} {i : Int} : (rowH f i).length ≤ 6 := by
  unfold rowH
  rw [List.length_map]
  exact restsHere_len
def rawH (f : Fld) (c before behind : Int) : List Int := (rng ((c - f.base) / f.step - before) (before + behind + 1).toNat).flatMap (rowH f)
def blockH (f : Fld) (c before behind : Int) : List Int := (rawH f c before behind).filter (insF f)
theorem rawH_len {f : Fld} {c a b : Int} (h : 0 ≤ a ∧ 0 ≤ b ∧ a + b ≤ 26) : (rawH f c a b).length ≤ 162 := by
  have h1 := flat_len (g := rowH f) (n := 6) (l := rng ((c - f.base) / f.step - a) (a + b + 1).toNat) fun x _ => rowH_len
  rw [rng_len] at h1
  unfold rawH
  omega
theorem blockH_len {f : Fld} {c a b : Int} (h : 0 ≤ a ∧ 0 ≤ b ∧ a + b ≤ 26) : (blockH f c a b).length ≤ 162 := Nat.le_trans (List.length_filter_le ..) (rawH_len h)
theorem rawH_eq {f : Fld} {c a b place : Int} (dp : place = (c - f.base) / f.step) : (rng (place - a) (((place + b) + 1) - (place - a) : Int).toNat).flatMap (rowH f) = rawH f c a b := by
  unfold rawH
  rw [← dp, show ((place + b) + 1) - (place - a) = a + b + 1 by omega]
def nearH (f : Fld) : Int := 2 * f.big + 2
def everyH (f : Fld) : List Int := if f.high - f.low ≤ 24 then rng f.low (f.high + 1 - f.low).toNat else [f.low, f.high] ++ blockH f f.low 0 (nearH f) ++ blockH f ((f.low + f.high) / 2) 0 0 ++ blockH f f.high (nearH f) 0
theorem everyH_len {f : Fld} (g0 : 2 ≤ f.big) (g1 : f.big ≤ 12) : (everyH f).length ≤ 488 := by
  unfold everyH
  split
  · rw [rng_len]
    omega
  · have a := blockH_len (f := f) (c := f.low) (a := 0) (b := nearH f) (by unfold nearH; omega)
    have b := blockH_len (f := f) (c := (f.low + f.high) / 2) (a := 0) (b := 0) (by omega)
    have c := blockH_len (f := f) (c := f.high) (a := nearH f) (b := 0) (by unfold nearH; omega)
    simp only [List.length_append, List.length_cons, List.length_nil]
    omega
def someH (f : Fld) (l : Int) : List Int := if f.high - f.low ≤ 24 then everyH f else everyH f ++ blockH f l 0 (nearH f)
theorem someH_len {f : Fld} {l : Int} (g0 : 2 ≤ f.big) (g1 : f.big ≤ 12) : (someH f l).length ≤ 650 := by
  have e := everyH_len g0 g1
  unfold someH
  split
  · omega
  · have a := blockH_len (f := f) (c := l) (a := 0) (b := nearH f) (by unfold nearH; omega)
    rw [List.length_append]
    omega
def pairsAt (f : Fld) (l : Int) : List (Int × Int) := ((sortU (someH f l)).filter fun r => decide (l ≤ r)).map fun r => (l, r)
theorem pairsAt_len {f : Fld} {l : Int} (g0 : 2 ≤ f.big) (g1 : f.big ≤ 12) : (pairsAt f l).length ≤ 650 := by
  unfold pairsAt
  rw [List.length_map]
  exact Nat.le_trans (List.length_filter_le ..) (Nat.le_trans (sortU_len) (someH_len g0 g1))
def pairsOf (f : Fld) : List (Int × Int) := (sortU (everyH f)).flatMap (pairsAt f)
/-- both presses, in one order and in the other -/
def partsAt (f : Fld) (t : Str) (a b : Str × Sg) (p : Int × Int) : Bool :=
  !decide (pressTied f t (pressTied f t p a.1 a.2.c) b.1 b.2.c = pressTied f t (pressTied f t p b.1 b.2.c) a.1 a.2.c)
def orderOf (f : Fld) (t : Str) (a b : Str × Sg) : Option (Int × Int) := (pairsOf f).find? (partsAt f t a b)
theorem orderOf_some {f : Fld} {t : Str} {a b : Str × Sg} {pre post : List (Int × Int)} {p : Int × Int} (hx : pairsOf f = pre ++ p :: post) (hn : ∀ q ∈ pre, partsAt f t a b q = false) (hp : partsAt f t a b p = true) : orderOf f t a b = some p := by
  unfold orderOf
  rw [hx, List.find?_append, List.find?_eq_none.mpr (fun q hq => by rw [hn q hq]; exact Bool.false_ne_true), List.find?_cons, hp]
  rfl
theorem orderOf_none {f : Fld} {t : Str} {a b : Str × Sg} (hn : ∀ q ∈ pairsOf f, partsAt f t a b q = false) : orderOf f t a b = none :=
  List.find?_eq_none.mpr fun q hq => by rw [hn q hq]; exact Bool.false_ne_true
theorem er_catB {α : Type} [Rep α] {K : PySem.W.Frag} {σ : L2.St} {H : Hp} {ta tb : TE} {xs ys : List α} (h : ER K ta σ H xs) (h2 : ER K tb σ H ys) (hl : xs.length + ys.length ≤ 16000000) : ER K (tOp rCat ta tb) σ H (xs ++ ys) := fun H1 e Q q => h H1 e _ fun v H2 e2 ⟨a, vs, hv, hs, hr⟩ => h2 H2 (e.trans e2) _ fun w H3 e3 ⟨b, ws, hw, hs', hr'⟩ =>
  ⟨a, b, vs, ws, hv, hw, e3 _ _ hs, hs', by rw [rels_len hr, rels_len hr', sizeLine_eq]; omega, fun p hp => by
    refine q (.ref p) _ ((e2.trans e3).trans (Ex.new hp)) ⟨p, vs ++ ws, rfl, upd_same, rels_mono (Ex.new hp) (rels_app (rels_mono e3 hr) hr')⟩⟩
theorem blockH_in {f : Fld} {c a b v : Int} (h : v ∈ blockH f c a b) : f.low ≤ v ∧ v ≤ f.high := by
  have h1 := (List.mem_filter.mp h).2
  unfold insF at h1
  simp only [Bool.and_eq_true, decide_eq_true_eq] at h1
  exact h1
theorem everyH_in {f : Fld} {v : Int} (hl : f.low < f.high) (h : v ∈ everyH f) : f.low ≤ v ∧ v ≤ f.high := by
  unfold everyH at h
  split at h
  · simp only [rng, List.mem_map, List.mem_range] at h
    omega
  · simp only [List.mem_append, List.mem_cons, List.not_mem_nil, or_false] at h
    rcases h with ((z | z) | z) | z
    · omega
    · exact blockH_in z
    · exact blockH_in z
    · exact blockH_in z
theorem pairs_pre {f : Fld} {l pre post : List Int} {y : Int} (hx : l = pre ++ y :: post) (hl : l.length ≤ 488) (g0 : 2 ≤ f.big) (g1 : f.big ≤ 12) : (pre.flatMap (pairsAt f)).length ≤ 650 * 488 := flat_pre hx hl (fun _ => pairsAt_len g0 g1)
end Sf

namespace Sf
/-! ### two presses as functions of pairs: t the tie, F what a key does -/
def lf (t : PySem.Str) (F : Int → Int) (p : Int × Int) : Int × Int := if F p.1 ≤ p.2 then (F p.1, p.2) else if t = "push" then (F p.1, F p.1) else if t = "refuse" then p else (p.2, p.2)
def rt (t : PySem.Str) (F : Int → Int) (p : Int × Int) : Int × Int := if p.1 ≤ F p.2 then (p.1, F p.2) else if t = "push" then (F p.2, F p.2) else if t = "refuse" then p else (p.1, p.1)
/-- the order matters -/
def Parts (A B : Int × Int → Int × Int) (p : Int × Int) : Prop := B (A p) ≠ A (B p)
theorem Parts.symm {A B : Int × Int → Int × Int} {p : Int × Int} (h : Parts A B p) : Parts B A p := fun e => h e.symm
section
variable {t : PySem.Str} {F f g : Int → Int} {x y : Int}
theorem lf_le (h : F x ≤ y) : lf t F (x, y) = (F x, y) := if_pos h
theorem lf_push (h : y < F x) : lf "push" F (x, y) = (F x, F x) := by
  unfold lf
  rw [if_neg (by show ¬ F x ≤ y; omega), if_pos rfl]
theorem lf_ref (h : y < F x) : lf "refuse" F (x, y) = (x, y) := by
  unfold lf
  rw [if_neg (by show ¬ F x ≤ y; omega), if_neg (by decide), if_pos rfl]
theorem lf_stop (h : y < F x) : lf "stop" F (x, y) = (y, y) := by
  unfold lf
  rw [if_neg (by show ¬ F x ≤ y; omega), if_neg (by decide), if_neg (by decide)]
theorem rt_le (h : x ≤ F y) : rt t F (x, y) = (x, F y) := if_pos h
theorem rt_push (h : F y < x) : rt "push" F (x, y) = (F y, F y) := by
  unfold rt
  rw [if_neg (by show ¬ x ≤ F y; omega), if_pos rfl]
theorem rt_ref (h : F y < x) : rt "refuse" F (x, y) = (x, y) := by
  unfold rt
  rw [if_neg (by show ¬ x ≤ F y; omega), if_neg (by decide), if_pos rfl]
theorem rt_stop (h : F y < x) : rt "stop" F (x, y) = (x, x) := by
  unfold rt
  rw [if_neg (by show ¬ x ≤ F y; omega), if_neg (by decide), if_neg (by decide)]
theorem pair_ne {a b c d : Int} (h : a ≠ c ∨ b ≠ d) : (a, b) ≠ (c, d) := fun e => by
  have h1 := congrArg Prod.fst e
  have h2 := congrArg Prod.snd e
  dsimp only at h1 h2
  omega
/-- the sides cross -/
theorem cross (ht : isTie t) (hL : f x ≤ y) (hR : x ≤ g y) (hc : g y < f x) : Parts (lf t f) (rt t g) (x, y) := by
  unfold Parts
  rw [lf_le hL, rt_le hR]
  rcases ht with rfl | rfl | rfl
  · rw [rt_push hc, lf_push hc]
    exact pair_ne (.inl (by omega))
  · rw [rt_ref hc, lf_ref hc]
    exact pair_ne (.inr (by omega))
  · rw [rt_stop hc, lf_stop hc]
    exact pair_ne (.inl (by omega))
/-! ### the other way round -/
def refl (p : Int × Int) : Int × Int := (-p.2, -p.1)
def reflF (F : Int → Int) : Int → Int := fun v => -F (-v)
theorem refl_refl (p : Int × Int) : refl (refl p) = p := by
  unfold refl
  rw [Int.neg_neg, Int.neg_neg]
theorem reflF_reflF (F : Int → Int) : reflF (reflF F) = F := by
  funext v
  unfold reflF
  rw [Int.neg_neg, Int.neg_neg]
theorem rt_refl (t : PySem.Str) (F : Int → Int) (p : Int × Int) : refl (lf t F p) = rt t (reflF F) (refl p) := by
  obtain ⟨x, y⟩ := p
  unfold lf rt refl reflF
  dsimp only
  rw [Int.neg_neg]
  by_cases h : F x ≤ y
  · rw [if_pos h, if_pos (by omega)]
  · rw [if_neg h, if_neg (show ¬ (-y ≤ -F x) by omega)]
    by_cases h1 : t = "push"
    · rw [if_pos h1, if_pos h1]
    · rw [if_neg h1, if_neg h1]
      by_cases h2 : t = "refuse"
      · rw [if_pos h2, if_pos h2]
      · rw [if_neg h2, if_neg h2]
theorem lf_refl (t : PySem.Str) (F : Int → Int) (p : Int × Int) : refl (rt t F p) = lf t (reflF F) (refl p) := by
  have h := rt_refl t (reflF F) (refl p)
  rw [reflF_reflF, refl_refl] at h
  rw [← h, refl_refl]
theorem refl_inj {p q : Int × Int} (h : refl p = refl q) : p = q := by
  rw [← refl_refl p, h, refl_refl]
end
/-- if any pair parts, one of the candidates does -/
def Suff (a b : Int) (Cd : Int → Prop) (A B : Int × Int → Int × Int) : Prop := (∀ x y, Cd x → Cd y → x ≤ y → ¬ Parts A B (x, y)) → ∀ x y, a ≤ x → x ≤ y → y ≤ b → ¬ Parts A B (x, y)
section
variable {a b : Int} {Cd : Int → Prop} {A B : Int × Int → Int × Int} {x y : Int}
theorem suff_w (hx : Cd x) (hy : Cd y) (h : x ≤ y) (p : Parts A B (x, y)) : Suff a b Cd A B := fun n => absurd p (n x y hx hy h)
theorem suff_n (h : ∀ x y, a ≤ x → x ≤ y → y ≤ b → B (A (x, y)) = A (B (x, y))) : Suff a b Cd A B := fun _ x y h1 h2 h3 p => p (h x y h1 h2 h3)
theorem Suff.symm (h : Suff a b Cd A B) : Suff a b Cd B A := fun n x y h1 h2 h3 p => h (fun x y hx hy hh q => n x y hx hy hh q.symm) x y h1 h2 h3 p.symm
theorem suff_id (h : ∀ x y, a ≤ x → x ≤ y → y ≤ b → B (x, y) = (x, y)) (hA : ∀ x y, a ≤ x → x ≤ y → y ≤ b → a ≤ (A (x, y)).1 ∧ (A (x, y)).1 ≤ (A (x, y)).2 ∧ (A (x, y)).2 ≤ b) : Suff a b Cd A B := suff_n fun x y h1 h2 h3 => by
  rw [h x y h1 h2 h3]
  obtain ⟨k1, k2, k3⟩ := hA x y h1 h2 h3
  exact h _ _ k1 k2 k3
/-- seen the other way round -/
theorem suff_refl {Cd' : Int → Prop} {A' B' : Int × Int → Int × Int} (h : Suff (-b) (-a) Cd' A' B') (hc : ∀ v, Cd' v → Cd (-v)) (hA : ∀ p, refl (A p) = A' (refl p)) (hB : ∀ p, refl (B p) = B' (refl p)) : Suff a b Cd A B := fun n x y h1 h2 h3 p => by
  refine h (fun u v hu hv huv q => ?_) (-y) (-x) (by omega) (by omega) (by omega) ?_
  · refine n (-v) (-u) (hc _ hv) (hc _ hu) (by omega) fun e => q ?_
    have hr : refl (-v, -u) = (u, v) := by
      unfold refl
      rw [Int.neg_neg, Int.neg_neg]
    have e2 := congrArg refl e
    rw [hB, hA, hr, hA, hB, hr] at e2
    exact e2
  · intro e
    have hr : refl (x, y) = (-y, -x) := rfl
    rw [← hr, ← hA, ← hB, ← hB, ← hA] at e
    exact p (refl_inj e)
end
end Sf

namespace Sf
/-! ### presses at two sides, at the left side: what decides -/
section
variable {t : PySem.Str} {F f g : Int → Int} {x y a b : Int} {Cd : Int → Prop}
/-- values stay within the ends -/
def Inn (a b : Int) (F : Int → Int) : Prop := ∀ v, a ≤ v → v ≤ b → a ≤ F v ∧ F v ≤ b
theorem lf_in (ht : isTie t) (hF : Inn a b F) (h1 : a ≤ x) (h2 : x ≤ y) (h3 : y ≤ b) : a ≤ (lf t F (x, y)).1 ∧ (lf t F (x, y)).1 ≤ (lf t F (x, y)).2 ∧ (lf t F (x, y)).2 ≤ b := by
  have k := hF x h1 (by omega)
  by_cases h : F x ≤ y
  · rw [lf_le h]
    exact ⟨k.1, h, h3⟩
  · rcases ht with rfl | rfl | rfl
    · rw [lf_push (by omega)]
      exact ⟨k.1, Int.le_refl _, k.2⟩
    · rw [lf_ref (by omega)]
      exact ⟨h1, h2, h3⟩
    · rw [lf_stop (by omega)]
      exact ⟨by show a ≤ y; omega, Int.le_refl _, h3⟩
theorem rt_in (ht : isTie t) (hF : Inn a b F) (h1 : a ≤ x) (h2 : x ≤ y) (h3 : y ≤ b) : a ≤ (rt t F (x, y)).1 ∧ (rt t F (x, y)).1 ≤ (rt t F (x, y)).2 ∧ (rt t F (x, y)).2 ≤ b := by
  have k := hF y (by omega) h3
  by_cases h : x ≤ F y
  · rw [rt_le h]
    exact ⟨h1, h, k.2⟩
  · rcases ht with rfl | rfl | rfl
    · rw [rt_push (by omega)]
      exact ⟨k.1, Int.le_refl _, k.2⟩
    · rw [rt_ref (by omega)]
      exact ⟨h1, h2, h3⟩
    · rw [rt_stop (by omega)]
      exact ⟨h1, Int.le_refl _, by show x ≤ b; omega⟩
/-- moved apart -/
theorem nv_apart (hf : ∀ v, a ≤ v → v ≤ b → f v ≤ v) (hg : ∀ v, a ≤ v → v ≤ b → v ≤ g v) : Suff a b Cd (lf t f) (rt t g) := suff_n fun x y h1 h2 h3 => by
  have k1 := hf x h1 (by omega)
  have k2 := hg y (by omega) h3
  rw [lf_le (x := x) (y := y) (by omega), rt_le (x := x) (y := y) (by omega), rt_le (by omega), lf_le (by omega)]
/-- push: the left one to its end -/
theorem nv_push_h (hf : ∀ v, a ≤ v → v ≤ b → f v = a) (hg : Inn a b g) : Suff a b Cd (lf "push" f) (rt "push" g) := suff_n fun x y h1 h2 h3 => by
  have k1 := hf x h1 (by omega)
  have k2 := hg y (by omega) h3
  rw [lf_le (x := x) (y := y) (by omega), rt_le (x := f x) (y := y) (by omega)]
  by_cases h : x ≤ g y
  · rw [rt_le h, lf_le (by omega)]
  · have k3 := hf (g y) k2.1 k2.2
    rw [rt_push (by omega), lf_le (by omega), k1, k3]
theorem nv_push_e (hf : ∀ v, a ≤ v → v ≤ b → f v = b) (hg : ∀ v, a ≤ v → v ≤ b → v ≤ g v ∧ g v ≤ b) (hab : a < b) : Suff a b Cd (lf "push" f) (rt "push" g) := suff_n fun x y h1 h2 h3 => by
  have k1 := hf x h1 (by omega)
  have k2 := hg y (by omega) h3
  have k3 := hg b (by omega) (Int.le_refl _)
  have e1 : lf "push" f (x, y) = (b, b) := by
    by_cases h : f x ≤ y
    · rw [lf_le h, k1, show y = b by omega]
    · rw [lf_push (by omega), k1]
  have e2 : lf "push" f (x, g y) = (b, b) := by
    by_cases h : f x ≤ g y
    · rw [lf_le h, k1, show g y = b by omega]
    · rw [lf_push (by omega), k1]
  rw [e1, rt_le (x := x) (y := y) (by omega), rt_le (x := b) (y := b) (by omega), e2, show g b = b by omega]
/-- both jump over -/
theorem w_swap (ht : isTie t) (hab : a < b) (hf : f a = b) (hg : g b = a) : Parts (lf t f) (rt t g) (a, b) := by
  unfold Parts
  rw [lf_le (x := a) (y := b) (by omega), rt_le (x := a) (y := b) (by omega), hf, hg]
  rcases ht with rfl | rfl | rfl
  · rw [rt_push (by omega), lf_push (by omega), hf, hg]
    exact pair_ne (.inl (by omega))
  · rw [rt_ref (by omega), lf_ref (by omega)]
    exact pair_ne (.inl (by omega))
  · rw [rt_stop (by omega), lf_stop (by omega)]
    exact pair_ne (.inl (by omega))
theorem w_h (ht : t = "refuse" ∨ t = "stop") (hab : a < b) (hf : f b = a) (hg : g b < b) (hg2 : a ≤ g b) : Parts (lf t f) (rt t g) (b, b) := by
  unfold Parts
  rw [lf_le (x := b) (y := b) (by omega), rt_le (x := f b) (y := b) (by omega), hf]
  rcases ht with rfl | rfl
  · rw [rt_ref (by omega), lf_le (by omega), hf]
    exact pair_ne (.inr (by omega))
  · rw [rt_stop (by omega), lf_le (by omega), hf]
    exact pair_ne (.inr (by omega))
theorem w_e (ht : t = "refuse" ∨ t = "stop") (hab : a < b) (hf : f a = b) (hg : g b < b) (hg2 : a ≤ g b) : Parts (lf t f) (rt t g) (a, b) := by
  unfold Parts
  rw [lf_le (x := a) (y := b) (by omega), rt_le (x := a) (y := b) (by omega), hf]
  rcases ht with rfl | rfl
  · rw [rt_ref (by omega), lf_ref (by omega)]
    exact pair_ne (.inl (by omega))
  · rw [rt_stop (by omega), lf_stop (by omega)]
    exact pair_ne (.inl (by omega))
theorem w_e_push (hab : a < b) (hf : f a = b) (hg : g b < b) (h1 : a ≤ g a) (h2 : g a ≤ b) : Parts (lf "push" f) (rt "push" g) (a, a) := by
  unfold Parts
  rw [lf_push (x := a) (y := a) (by omega), rt_le (x := a) (y := a) (by omega), hf, rt_push (by omega)]
  by_cases h : f a ≤ g a
  · rw [lf_le h]
    exact pair_ne (.inl (by omega))
  · rw [lf_push (by omega)]
    exact pair_ne (.inl (by omega))
/-- refuse: first in the way, then out of it -/
theorem w_ref (hx : x ≤ y) (h1 : y < f x) (h2 : f x ≤ g y) : Parts (lf "refuse" f) (rt "refuse" g) (x, y) := by
  unfold Parts
  rw [lf_ref h1, rt_le (x := x) (y := y) (by omega), lf_le h2]
  exact pair_ne (.inl (by omega))
theorem w_stop2 (h1 : a < f a) (h2 : a < g a) : Parts (lf "stop" f) (rt "stop" g) (a, a) := by
  unfold Parts
  rw [lf_stop h1, rt_le (x := a) (y := a) (by omega)]
  by_cases h : f a ≤ g a
  · rw [lf_le h]
    exact pair_ne (.inl (by omega))
  · rw [lf_stop (by omega)]
    exact pair_ne (.inl (by omega))
theorem w_pp_round (hab : a < b) (hf : f b = a) (hg : g b = a) (hfa : a < f a) : Parts (lf "push" f) (rt "push" g) (b, b) := by
  unfold Parts
  rw [lf_le (x := b) (y := b) (by omega), hf, rt_le (x := a) (y := b) (by omega), rt_push (x := b) (y := b) (by omega), hg, lf_push (by omega)]
  exact pair_ne (.inl (by omega))
/-! at the left side alone -/
theorem w_ll (hf : Inn a b f) (hg : Inn a b g) (h1 : a ≤ x) (h2 : x ≤ b) (h : g (f x) ≠ f (g x)) : Parts (lf t f) (lf t g) (x, b) := by
  have k1 := hf x h1 h2
  have k2 := hg x h1 h2
  have k3 := hg _ k1.1 k1.2
  have k4 := hf _ k2.1 k2.2
  unfold Parts
  rw [lf_le k1.2, lf_le k2.2, lf_le k3.2, lf_le k4.2]
  exact pair_ne (.inl h)
theorem nv_ll_down (hf : ∀ v, a ≤ v → v ≤ b → a ≤ f v ∧ f v ≤ v) (hg : ∀ v, a ≤ v → v ≤ b → a ≤ g v ∧ g v ≤ v) (h : ∀ v, a ≤ v → v ≤ b → g (f v) = f (g v)) : Suff a b Cd (lf t f) (lf t g) := suff_n fun x y h1 h2 h3 => by
  have k1 := hf x h1 (by omega)
  have k2 := hg x h1 (by omega)
  have k3 := hg (f x) k1.1 (by omega)
  have k4 := hf (g x) k2.1 (by omega)
  rw [lf_le (F := f) (x := x) (y := y) (by omega), lf_le (F := g) (x := x) (y := y) (by omega), lf_le (F := g) (x := f x) (y := y) (by omega), lf_le (F := f) (x := g x) (y := y) (by omega), h x h1 (by omega)]
/-- up, and to the greater end -/
theorem nv_ll_e (ht : isTie t) (hab : a < b) (hf : ∀ v, a ≤ v → v ≤ b → v ≤ f v ∧ f v ≤ b) (hg : ∀ v, a ≤ v → v ≤ b → g v = b) : Suff a b Cd (lf t f) (lf t g) := suff_n fun x y h1 h2 h3 => by
  have k1 := hf x h1 (by omega)
  have k2 := hg x h1 (by omega)
  have k3 := hg (f x) (by omega) k1.2
  have k4 := hf y (by omega) h3
  have k5 := hf b (by omega) (Int.le_refl _)
  have k6 := hg y (by omega) h3
  have k7 := hg b (by omega) (Int.le_refl _)
  have fb : f b = b := by omega
  have ebb : lf t f (b, b) = (b, b) := by rw [lf_le (by omega), fb]
  have gbb : lf t g (b, b) = (b, b) := by rw [lf_le (by omega), k7]
  by_cases hy : y = b
  · rw [hy, lf_le (F := f) (x := x) (y := b) (by omega), lf_le (F := g) (x := x) (y := b) (by omega), k2, ebb, lf_le (by omega), k3]
  · rcases ht with rfl | rfl | rfl
    · have e1 : lf "push" g (x, y) = (b, b) := by rw [lf_push (by omega), k2]
      rw [e1, ebb]
      by_cases h : f x ≤ y
      · rw [lf_le h, lf_push (by omega), k3]
      · rw [lf_push (F := f) (x := x) (y := y) (by omega)]
        by_cases h' : f x = b
        · rw [h', gbb]
        · rw [lf_push (by omega), k3]
    · have e1 : lf "refuse" g (x, y) = (x, y) := lf_ref (by omega)
      rw [e1]
      by_cases h : f x ≤ y
      · rw [lf_le h, lf_ref (by omega)]
      · rw [lf_ref (F := f) (x := x) (y := y) (by omega), e1]
    · have e1 : lf "stop" g (x, y) = (y, y) := lf_stop (by omega)
      rw [e1]
      have e : lf "stop" f (y, y) = (y, y) := by
        by_cases h : f y ≤ y
        · rw [lf_le h, show f y = y by omega]
        · rw [lf_stop (by omega)]
      rw [e]
      by_cases h : f x ≤ y
      · rw [lf_le h, lf_stop (by omega)]
      · rw [lf_stop (F := f) (x := x) (y := y) (by omega), lf_stop (by omega)]
/-- both up, in any order -/
theorem nv_ll_up (ht : t = "push" ∨ t = "stop") (hf : ∀ v, a ≤ v → v ≤ b → v ≤ f v ∧ f v ≤ b) (hg : ∀ v, a ≤ v → v ≤ b → v ≤ g v ∧ g v ≤ b) (h : ∀ v, a ≤ v → v ≤ b → g (f v) = f (g v)) : Suff a b Cd (lf t f) (lf t g) := by
  have key : ∀ (f g : Int → Int), (∀ v, a ≤ v → v ≤ b → v ≤ f v ∧ f v ≤ b) → (∀ v, a ≤ v → v ≤ b → v ≤ g v ∧ g v ≤ b) → ∀ x y, a ≤ x → x ≤ y → y ≤ b → lf t g (lf t f (x, y)) = if t = "push" then (g (f x), max y (g (f x))) else (min y (g (f x)), y) := by
    intro f g hf hg x y h1 h2 h3
    have k1 := hf x h1 (by omega)
    have k2 := hg (f x) (by omega) k1.2
    have k3 := hg y (by omega) h3
    rcases ht with rfl | rfl
    · rw [if_pos rfl]
      by_cases c : f x ≤ y
      · rw [lf_le c]
        by_cases c2 : g (f x) ≤ y
        · rw [lf_le c2, show max y (g (f x)) = y by omega]
        · rw [lf_push (by omega), show max y (g (f x)) = g (f x) by omega]
      · rw [lf_push (F := f) (x := x) (y := y) (by omega)]
        by_cases c2 : g (f x) ≤ f x
        · rw [lf_le c2, show max y (g (f x)) = f x by omega]
        · rw [lf_push (by omega), show max y (g (f x)) = g (f x) by omega]
    · rw [if_neg (by decide)]
      by_cases c : f x ≤ y
      · rw [lf_le c]
        by_cases c2 : g (f x) ≤ y
        · rw [lf_le c2, show min y (g (f x)) = g (f x) by omega]
        · rw [lf_stop (by omega), show min y (g (f x)) = y by omega]
      · rw [lf_stop (F := f) (x := x) (y := y) (by omega), show min y (g (f x)) = y by omega]
        by_cases c2 : g y ≤ y
        · rw [lf_le c2, show g y = y by omega]
        · rw [lf_stop (by omega)]
  exact suff_n fun x y h1 h2 h3 => by rw [key f g hf hg x y h1 h2 h3, key g f hg hf x y h1 h2 h3, h x h1 (by omega)]
end
end Sf

namespace Sf
/-! ### what keys do on a field: a .. b the ends, s the step, D the page, J and J' where an aim starts upward and downward, G what lies on the grid, l0 and h0 the outermost of these, Cd the candidates -/
structure Gr (a b s D : Int) (J J' : Int → Int) (G : Int → Prop) (l0 h0 : Int) (Cd : Int → Prop) : Prop where
  ab : a < b
  s1 : 1 ≤ s
  sD : 2 * s ≤ D
  Jlo : ∀ v, v < J v + s
  Jhi : ∀ v, J' v < v + s
  Jm : ∀ v w, v ≤ w → J v ≤ J w
  Jm' : ∀ v w, v ≤ w → J' v ≤ J' w
  JG : ∀ v, G (J v)
  JG' : ∀ v, G (J' v)
  Jf : ∀ v, G v → J v = v
  Jf' : ∀ v, G v → J' v = v
  Gs : ∀ v, G v → G (v + s)
  Gs' : ∀ v, G v → G (v - s)
  GD : ∀ v, G v → G (v + D)
  GD' : ∀ v, G v → G (v - D)
  lG : G l0
  la : a ≤ l0
  ls : l0 < a + s
  lm : ∀ v, G v → a ≤ v → l0 ≤ v
  hG : G h0
  hb : h0 ≤ b
  hs : b < h0 + s
  hm : ∀ v, G v → v ≤ b → v ≤ h0
  sep : (∀ v, G v) ∨ (∀ v w, G v → G w → v < w → v + s ≤ w)
  jj : (∀ v, J v = J' v) ∨ (∀ v, ¬ G v → J' v = J v + s)
  ca : Cd a
  cb : Cd b
  cl : l0 ≤ b → Cd l0
  cl1 : l0 + s ≤ b → Cd (l0 + s)
  clD : l0 + D ≤ b → Cd (l0 + D)
  clE : l0 + D - s ≤ b → Cd (l0 + D - s)
  ch : a ≤ h0 → Cd h0
  ch1 : a ≤ h0 - s → Cd (h0 - s)
  chD : a ≤ h0 - D → Cd (h0 - D)
  chE : a ≤ h0 - D + s → Cd (h0 - D + s)
  mid : b = a + s → ∃ c, Cd c ∧ a < c ∧ c < b
def UpF (a b d e : Int) (J F : Int → Int) : Prop := ∀ v, a ≤ v → v ≤ b → (J v + d ≤ b ∧ F v = J v + d) ∨ (b < J v + d ∧ (e = 0 ∧ F v = a ∨ e = 1 ∧ F v = v ∨ e = 2 ∧ F v = b))
def DnF (a b d e : Int) (J' F : Int → Int) : Prop := ∀ v, a ≤ v → v ≤ b → (a ≤ J' v - d ∧ F v = J' v - d) ∨ (J' v - d < a ∧ (e = 0 ∧ F v = b ∨ e = 1 ∧ F v = v ∨ e = 2 ∧ F v = a))
inductive Kd (a b s D : Int) (J J' : Int → Int) (e : Int) : (Int → Int) → Prop
  | H {F : Int → Int} (h : ∀ v, a ≤ v → v ≤ b → F v = a) : Kd a b s D J J' e F
  | E {F : Int → Int} (h : ∀ v, a ≤ v → v ≤ b → F v = b) : Kd a b s D J J' e F
  | I {F : Int → Int} (h : ∀ v, a ≤ v → v ≤ b → F v = v) : Kd a b s D J J' e F
  | U {F : Int → Int} (d : Int) (hd : d = s ∨ d = D) (h0 : J a + d ≤ b) (h : UpF a b d e J F) : Kd a b s D J J' e F
  | D {F : Int → Int} (d : Int) (hd : d = s ∨ d = D) (h0 : a ≤ J' b - d) (h : DnF a b d e J' F) : Kd a b s D J J' e F
section
variable {a b s D l0 h0 d e : Int} {J J' F : Int → Int} {G Cd : Int → Prop}
theorem Gr.refl (o : Gr a b s D J J' G l0 h0 Cd) : Gr (-b) (-a) s D (reflF J') (reflF J) (fun v => G (-v)) (-h0) (-l0) (fun v => Cd (-v)) where
  ab := by have := o.ab; omega
  s1 := o.s1
  sD := o.sD
  Jlo v := by have := o.Jhi (-v); unfold reflF; omega
  Jhi v := by have := o.Jlo (-v); unfold reflF; omega
  Jm v w h := by have := o.Jm' (-w) (-v) (by omega); unfold reflF; omega
  Jm' v w h := by have := o.Jm (-w) (-v) (by omega); unfold reflF; omega
  JG v := by unfold reflF; rw [Int.neg_neg]; exact o.JG' _
  JG' v := by unfold reflF; rw [Int.neg_neg]; exact o.JG _
  Jf v h := by have := o.Jf' (-v) h; unfold reflF; omega
  Jf' v h := by have := o.Jf (-v) h; unfold reflF; omega
  Gs v h := by have := o.Gs' _ h; rw [show -(v + s) = -v - s by omega]; exact this
  Gs' v h := by have := o.Gs _ h; rw [show -(v - s) = -v + s by omega]; exact this
  GD v h := by have := o.GD' _ h; rw [show -(v + D) = -v - D by omega]; exact this
  GD' v h := by have := o.GD _ h; rw [show -(v - D) = -v + D by omega]; exact this
  lG := by rw [Int.neg_neg]; exact o.hG
  la := by have := o.hb; omega
  ls := by have := o.hs; omega
  lm v h k := by have := o.hm _ h (by omega); omega
  hG := by rw [Int.neg_neg]; exact o.lG
  hb := by have := o.la; omega
  hs := by have := o.ls; omega
  hm v h k := by have := o.lm _ h (by omega); omega
  sep := by
    rcases o.sep with h | h
    · exact .inl fun v => h _
    · exact .inr fun v w k1 k2 k3 => by have := h _ _ k2 k1 (by omega); omega
  jj := by
    rcases o.jj with h | h
    · exact .inl fun v => by unfold reflF; rw [h]
    · exact .inr fun v k => by have := h _ k; unfold reflF; omega
  ca := by rw [Int.neg_neg]; exact o.cb
  cb := by rw [Int.neg_neg]; exact o.ca
  cl h := by rw [Int.neg_neg]; exact o.ch (by omega)
  cl1 h := by rw [show -(-h0 + s) = h0 - s by omega]; exact o.ch1 (by omega)
  clD h := by rw [show -(-h0 + D) = h0 - D by omega]; exact o.chD (by omega)
  clE h := by rw [show -(-h0 + D - s) = h0 - D + s by omega]; exact o.chE (by omega)
  ch h := by rw [Int.neg_neg]; exact o.cl (by omega)
  ch1 h := by rw [show -(-l0 - s) = l0 + s by omega]; exact o.cl1 (by omega)
  chD h := by rw [show -(-l0 - D) = l0 + D by omega]; exact o.clD (by omega)
  chE h := by rw [show -(-l0 - D + s) = l0 + D - s by omega]; exact o.clE (by omega)
  mid h := by
    obtain ⟨c, k1, k2, k3⟩ := o.mid (by omega)
    exact ⟨-c, by rw [Int.neg_neg]; exact k1, by omega, by omega⟩
theorem UpF.refl (h : UpF a b d e J F) : DnF (-b) (-a) d e (reflF J) (reflF F) := fun v h1 h2 => by
  have := h (-v) (by omega) (by omega)
  unfold reflF
  omega
theorem DnF.refl (h : DnF a b d e J F) : UpF (-b) (-a) d e (reflF J) (reflF F) := fun v h1 h2 => by
  have := h (-v) (by omega) (by omega)
  unfold reflF
  omega
theorem Kd.refl (h : Kd a b s D J J' e F) : Kd (-b) (-a) s D (reflF J') (reflF J) e (reflF F) := by
  cases h with
  | H h => exact .E fun v h1 h2 => by have := h (-v) (by omega) (by omega); unfold reflF; omega
  | E h => exact .H fun v h1 h2 => by have := h (-v) (by omega) (by omega); unfold reflF; omega
  | I h => exact .I fun v h1 h2 => by have := h (-v) (by omega) (by omega); unfold reflF; omega
  | U d hd h0 h => exact .D d hd (by unfold reflF; rw [Int.neg_neg]; omega) h.refl
  | D d hd h0 h => exact .U d hd (by unfold reflF; rw [Int.neg_neg]; omega) h.refl
theorem Gr.Ja (o : Gr a b s D J J' G l0 h0 Cd) : J a = l0 ∨ (J a = l0 - s ∧ (∀ v w, G v → G w → v < w → v + s ≤ w)) := by
  have h1 := o.Jlo a
  have h2 := o.JG a
  have h3 := o.Jm a l0 o.la
  have h4 := o.Jf l0 o.lG
  have h5 := o.la
  have h6 := o.ls
  by_cases c : a ≤ J a
  · have := o.lm _ h2 c
    left
    omega
  · rcases o.sep with h | h
    · have := o.Jf a (h a)
      omega
    · refine .inr ⟨?_, h⟩
      have k1 := h _ _ h2 o.lG (by omega)
      by_cases c2 : J a + s = l0
      · omega
      · have := h _ _ (o.Gs _ h2) o.lG (by omega)
        omega
theorem Gr.Jb (o : Gr a b s D J J' G l0 h0 Cd) : J' b = h0 ∨ (J' b = h0 + s ∧ (∀ v w, G v → G w → v < w → v + s ≤ w)) := by
  have h := o.refl.Ja
  unfold reflF at h
  rw [Int.neg_neg] at h
  rcases h with h | ⟨h, _⟩
  · left
    omega
  · rcases o.sep with k | k
    · have := o.Jf' b (k b)
      have := o.hm b (k b) (Int.le_refl _)
      have := o.hb
      have := o.s1
      omega
    · exact .inr ⟨by omega, k⟩
/-- the distances -/
theorem Gr.dd (o : Gr a b s D J J' G l0 h0 Cd) (hd : d = s ∨ d = D) : s ≤ d ∧ (d = s ∨ d = D) ∧ 1 ≤ s ∧ 2 * s ≤ D ∧ a < b := by
  have := o.s1
  have := o.sD
  have := o.ab
  omega
theorem Gr.Gd (o : Gr a b s D J J' G l0 h0 Cd) (hd : d = s ∨ d = D) {v : Int} (h : G v) : G (v + d) ∧ G (v - d) := by
  rcases hd with rfl | rfl
  · exact ⟨o.Gs v h, o.Gs' v h⟩
  · exact ⟨o.GD v h, o.GD' v h⟩
/-- a key upward at the ends -/
theorem Gr.upa (o : Gr a b s D J J' G l0 h0 Cd) (hd : d = s ∨ d = D) (hk : J a + d ≤ b) (h : UpF a b d e J F) : F a = J a + d ∧ a < F a ∧ F a ≤ b ∧ G (F a) := by
  have k1 := o.dd hd
  have k2 := h a (Int.le_refl _) (by omega)
  have k3 := o.Jlo a
  have e : F a = J a + d := by omega
  exact ⟨e, by omega, by omega, e ▸ (o.Gd hd (o.JG a)).1⟩
theorem Gr.upb (o : Gr a b s D J J' G l0 h0 Cd) (hd : d = s ∨ d = D) (h : UpF a b d e J F) : e = 0 ∧ F b = a ∨ e = 1 ∧ F b = b ∨ e = 2 ∧ F b = b := by
  have k1 := o.dd hd
  have k2 := h b (by omega) (Int.le_refl _)
  have k3 := o.Jlo b
  omega
theorem Gr.dnb (o : Gr a b s D J J' G l0 h0 Cd) (hd : d = s ∨ d = D) (hk : a ≤ J' b - d) (h : DnF a b d e J' F) : F b = J' b - d ∧ F b < b ∧ a ≤ F b ∧ G (F b) := by
  have k1 := o.dd hd
  have k2 := h b (by omega) (Int.le_refl _)
  have k3 := o.Jhi b
  have e : F b = J' b - d := by omega
  exact ⟨e, by omega, by omega, e ▸ (o.Gd hd (o.JG' b)).2⟩
theorem Gr.dna (o : Gr a b s D J J' G l0 h0 Cd) (hd : d = s ∨ d = D) (h : DnF a b d e J' F) : e = 0 ∧ F a = b ∨ e = 1 ∧ F a = a ∨ e = 2 ∧ F a = a := by
  have k1 := o.dd hd
  have k2 := h a (Int.le_refl _) (by omega)
  have k3 := o.Jhi a
  omega
/-- on the grid -/
theorem Gr.upg (o : Gr a b s D J J' G l0 h0 Cd) (h : UpF a b d e J F) {v : Int} (hv : G v) (h1 : a ≤ v) (h2 : v ≤ b) : (v + d ≤ b ∧ F v = v + d) ∨ (b < v + d ∧ (e = 0 ∧ F v = a ∨ e = 1 ∧ F v = v ∨ e = 2 ∧ F v = b)) := by
  have k := h v h1 h2
  rw [o.Jf v hv] at k
  exact k
theorem Gr.dng (o : Gr a b s D J J' G l0 h0 Cd) (h : DnF a b d e J' F) {v : Int} (hv : G v) (h1 : a ≤ v) (h2 : v ≤ b) : (a ≤ v - d ∧ F v = v - d) ∨ (v - d < a ∧ (e = 0 ∧ F v = b ∨ e = 1 ∧ F v = v ∨ e = 2 ∧ F v = a)) := by
  have k := h v h1 h2
  rw [o.Jf' v hv] at k
  exact k
theorem Gr.up_in (o : Gr a b s D J J' G l0 h0 Cd) (hd : d = s ∨ d = D) (h : UpF a b d e J F) : Inn a b F := fun v h1 h2 => by
  have k1 := o.dd hd
  have k2 := h v h1 h2
  have k3 := o.Jlo v
  omega
theorem Gr.dn_in (o : Gr a b s D J J' G l0 h0 Cd) (hd : d = s ∨ d = D) (h : DnF a b d e J' F) : Inn a b F := fun v h1 h2 => by
  have k1 := o.dd hd
  have k2 := h v h1 h2
  have k3 := o.Jhi v
  omega
theorem Gr.up_ge (o : Gr a b s D J J' G l0 h0 Cd) (hd : d = s ∨ d = D) (h : UpF a b d e J F) (he : e ≠ 0) : ∀ v, a ≤ v → v ≤ b → v ≤ F v ∧ F v ≤ b := fun v h1 h2 => by
  have k1 := o.dd hd
  have k2 := h v h1 h2
  have k3 := o.Jlo v
  omega
theorem Gr.dn_le (o : Gr a b s D J J' G l0 h0 Cd) (hd : d = s ∨ d = D) (h : DnF a b d e J' F) (he : e ≠ 0) : ∀ v, a ≤ v → v ≤ b → a ≤ F v ∧ F v ≤ v := fun v h1 h2 => by
  have k1 := o.dd hd
  have k2 := h v h1 h2
  have k3 := o.Jhi v
  omega
theorem Gr.k_in (o : Gr a b s D J J' G l0 h0 Cd) (h : Kd a b s D J J' e F) : Inn a b F := by
  have := o.ab
  cases h with
  | H h => exact fun v h1 h2 => by have := h v h1 h2; omega
  | E h => exact fun v h1 h2 => by have := h v h1 h2; omega
  | I h => exact fun v h1 h2 => by have := h v h1 h2; omega
  | U d hd h0 h => exact o.up_in hd h
  | D d hd h0 h => exact o.dn_in hd h
end
end Sf

namespace Sf
section
variable {a b s D l0 h0 d e x y c : Int} {J J' F f g : Int → Int} {G Cd : Int → Prop} {t : PySem.Str}
/-! ### pairs that no pair parts, more -/
/-- refuse: the left one to its greater end, the right one never there -/
theorem nv_e_ref (hab : a < b) (hf : ∀ v, a ≤ v → v ≤ b → f v = b) (hg : ∀ v, a ≤ v → v ≤ b → v ≤ g v ∧ g v ≤ b) (hn : ∀ v, a ≤ v → v < b → g v < b) : Suff a b Cd (lf "refuse" f) (rt "refuse" g) := suff_n fun x y h1 h2 h3 => by
  have k1 := hf x h1 (by omega)
  have k2 := hg y (by omega) h3
  have k3 := hg b (by omega) (Int.le_refl _)
  by_cases hy : y = b
  · rw [lf_le (x := x) (y := y) (by omega), rt_le (x := x) (y := y) (by omega), hy, k1, show g b = b by omega, rt_le (by omega), lf_le (by omega), k1, show g b = b by omega]
  · have k4 := hn y (by omega) (by omega)
    rw [lf_ref (x := x) (y := y) (by omega), rt_le (x := x) (y := y) (by omega), lf_ref (by omega)]
/-- push: the right one to its greater end -/
theorem nv_push_up_e (hf : Inn a b f) (hg : ∀ v, a ≤ v → v ≤ b → g v = b) : Suff a b Cd (lf "push" f) (rt "push" g) := suff_n fun x y h1 h2 h3 => by
  have k1 := hf x h1 (by omega)
  have k2 := hg y (by omega) h3
  have k3 := hg (f x) k1.1 k1.2
  rw [rt_le (x := x) (y := y) (by omega), k2, lf_le (x := x) (y := b) (by omega)]
  by_cases h : f x ≤ y
  · rw [lf_le h, rt_le (by omega), k2]
  · rw [lf_push (by omega), rt_le (by omega), k3]
/-- one grid point between both -/
theorem nv_zone (ht : isTie t) (hf : ∀ v, a ≤ v → v ≤ b → f v = v ∨ (v < c ∧ f v = c)) (hg : ∀ v, a ≤ v → v ≤ b → g v = v ∨ (c < v ∧ g v = c)) (hc : a ≤ c ∧ c ≤ b) : Suff a b Cd (lf t f) (rt t g) := suff_n fun x y h1 h2 h3 => by
  have k1 := hf x h1 (by omega)
  have k2 := hg y (by omega) h3
  have k3 := hf c hc.1 hc.2
  have k4 := hg c hc.1 hc.2
  have fc : f c = c := by omega
  have gc : g c = c := by omega
  have k5 := hg x h1 (by omega)
  have k6 := hf y (by omega) h3
  by_cases hx : f x = x
  · rw [lf_le (F := f) (x := x) (y := y) (by omega), hx]
    by_cases hxy : x ≤ g y
    · rw [rt_le hxy, lf_le (by omega), hx]
    · have gy : g y = c := by omega
      rcases ht with rfl | rfl | rfl
      · rw [rt_push (by omega), gy, lf_le (by omega), fc]
      · rw [rt_ref (by omega), lf_le (by omega), hx]
      · rw [rt_stop (by omega), lf_le (by omega), hx]
  · have fx : f x = c := by omega
    rw [rt_le (F := g) (x := x) (y := y) (by omega)]
    by_cases hy : c ≤ y
    · rw [lf_le (F := f) (x := x) (y := y) (by omega), lf_le (F := f) (x := x) (y := g y) (by omega), rt_le (by omega)]
    · have gy : g y = y := by omega
      rw [gy]
      rcases ht with rfl | rfl | rfl
      · rw [lf_push (by omega), fx, rt_le (by omega), gc]
      · rw [lf_ref (by omega), rt_le (by omega), gy]
      · rw [lf_stop (by omega), rt_le (by omega), gy]
/-- the same, when keys come round -/
theorem nv_zone_r (hf : ∀ v, a ≤ v → v ≤ b → (v < c ∧ f v = c) ∨ f v = a) (hg : ∀ v, a ≤ v → v ≤ b → (c < v ∧ g v = c) ∨ g v = b) (hc : a ≤ c ∧ c ≤ b) : Suff a b Cd (lf "push" f) (rt "push" g) := suff_n fun x y h1 h2 h3 => by
  have k1 := hf x h1 (by omega)
  have k2 := hg y (by omega) h3
  have k3 := hf c hc.1 hc.2
  have k4 := hg c hc.1 hc.2
  by_cases hx : f x = a
  · rw [lf_le (F := f) (x := x) (y := y) (by omega), hx, rt_le (F := g) (x := a) (y := y) (by omega)]
    by_cases hxy : x ≤ g y
    · rw [rt_le hxy, lf_le (by omega), hx]
    · have gy : g y = c := by omega
      rw [rt_push (by omega), gy]
      by_cases h : c = a
      · rw [h] at k3 ⊢
        rw [lf_le (by omega), show f a = a by omega]
      · rw [lf_le (by omega), show f c = a by omega]
  · have fx : f x = c := by omega
    by_cases hy : c ≤ y
    · rw [lf_le (F := f) (x := x) (y := y) (by omega), rt_le (F := g) (x := x) (y := y) (by omega), lf_le (F := f) (x := x) (y := g y) (by omega), rt_le (by omega)]
    · have gy : g y = b := by omega
      rw [lf_push (by omega), fx, rt_le (F := g) (x := x) (y := y) (by omega), gy, lf_le (by omega), fx, rt_le (by omega), show g c = b by omega]
/-! ### a key at the left side and a key at the right side -/
theorem lr_HH (o : Gr a b s D J J' G l0 h0 Cd) (ht : isTie t) (hf : ∀ v, a ≤ v → v ≤ b → f v = a) (hg : ∀ v, a ≤ v → v ≤ b → g v = a) : Suff a b Cd (lf t f) (rt t g) := by
  have k := o.ab
  have i : Inn a b g := fun v h1 h2 => by have := hg v h1 h2; omega
  have k1 := hf b (by omega) (by omega)
  have k2 := hg b (by omega) (by omega)
  rcases ht with rfl | ht
  · exact nv_push_h hf i
  · exact suff_w o.cb o.cb (Int.le_refl _) (w_h ht k k1 (by omega) (by omega))
theorem lr_EH (o : Gr a b s D J J' G l0 h0 Cd) (ht : isTie t) (hf : ∀ v, a ≤ v → v ≤ b → f v = b) (hg : ∀ v, a ≤ v → v ≤ b → g v = a) : Suff a b Cd (lf t f) (rt t g) := by
  have k := o.ab
  exact suff_w o.ca o.cb (by omega) (w_swap ht k (hf a (by omega) (by omega)) (hg b (by omega) (by omega)))
theorem lr_HE (hf : ∀ v, a ≤ v → v ≤ b → f v = a) (hg : ∀ v, a ≤ v → v ≤ b → g v = b) : Suff a b Cd (lf t f) (rt t g) :=
  nv_apart (fun v h1 h2 => by have := hf v h1 h2; omega) (fun v h1 h2 => by have := hg v h1 h2; omega)
theorem lr_HU (o : Gr a b s D J J' G l0 h0 Cd) (ht : isTie t) (hf : ∀ v, a ≤ v → v ≤ b → f v = a) (hd : d = s ∨ d = D) (hg : UpF a b d e J g) : Suff a b Cd (lf t f) (rt t g) := by
  have k := o.ab
  have k1 := hf b (by omega) (by omega)
  have k2 := o.upb hd hg
  rcases ht with rfl | ht
  · exact nv_push_h hf (o.up_in hd hg)
  · by_cases he : e = 0
    · exact suff_w o.cb o.cb (Int.le_refl _) (w_h ht k k1 (by omega) (by omega))
    · exact nv_apart (fun v h1 h2 => by have := hf v h1 h2; omega) (fun v h1 h2 => (o.up_ge hd hg he v h1 h2).1)
theorem lr_ED (o : Gr a b s D J J' G l0 h0 Cd) (ht : isTie t) (hf : ∀ v, a ≤ v → v ≤ b → f v = b) (hd : d = s ∨ d = D) (hk : a ≤ J' b - d) (hg : DnF a b d e J' g) : Suff a b Cd (lf t f) (rt t g) := by
  have k := o.ab
  have k1 := hf a (by omega) (by omega)
  obtain ⟨k2, k3, k4, _⟩ := o.dnb hd hk hg
  have k5 := o.dn_in hd hg a (by omega) (by omega)
  rcases ht with rfl | ht
  · exact suff_w o.ca o.ca (Int.le_refl _) (w_e_push k k1 k3 k5.1 k5.2)
  · exact suff_w o.ca o.cb (by omega) (w_e ht k k1 k3 k4)
theorem lr_HD (o : Gr a b s D J J' G l0 h0 Cd) (ht : isTie t) (hf : ∀ v, a ≤ v → v ≤ b → f v = a) (hd : d = s ∨ d = D) (hk : a ≤ J' b - d) (hg : DnF a b d e J' g) : Suff a b Cd (lf t f) (rt t g) := by
  have k := o.ab
  have k1 := hf b (by omega) (by omega)
  obtain ⟨k2, k3, k4, _⟩ := o.dnb hd hk hg
  rcases ht with rfl | ht
  · exact nv_push_h hf (o.dn_in hd hg)
  · exact suff_w o.cb o.cb (Int.le_refl _) (w_h ht k k1 k3 k4)
theorem lr_EU (o : Gr a b s D J J' G l0 h0 Cd) (ht : isTie t) (hf : ∀ v, a ≤ v → v ≤ b → f v = b) (hd : d = s ∨ d = D) (hk : J a + d ≤ b) (hg : UpF a b d e J g) : Suff a b Cd (lf t f) (rt t g) := by
  have k := o.ab
  have kd := o.dd hd
  have k1 := hf a (by omega) (by omega)
  obtain ⟨k2, k3, k4, k5⟩ := o.upa hd hk hg
  have k6 := o.upb hd hg
  by_cases he : e = 0
  · exact suff_w o.ca o.cb (by omega) (w_swap ht k k1 (by omega))
  have hge := o.up_ge hd hg he
  rcases ht with rfl | rfl | rfl
  · exact nv_push_e hf hge k
  · have hs := o.hs
    have hb := o.hb
    have Jla := o.Jlo a
    have hm1 := o.hm (g a) k5 k4
    have sp : h0 - d < a → J a + d = h0 := by
      intro q
      rcases o.sep with z | z
      · have := o.Jf a (z a)
        omega
      · have z1 := z (g a) h0 k5 o.hG
        omega
    have wit : ∀ y, Cd y → a ≤ y → y < b → g y = b → Suff a b Cd (lf "refuse" f) (rt "refuse" g) := fun y q1 q2 q3 q4 => suff_w o.ca q1 q2 (w_ref q2 (by omega) (by omega))
    by_cases hhb : h0 = b
    · have gh : ∀ v, v = h0 - d → a ≤ v → g v = b := fun v q1 q2 => by
        have := o.upg hg (q1 ▸ (o.Gd hd o.hG).2 : G v) q2 (by omega)
        omega
      by_cases q : a ≤ h0 - d
      · have cd : Cd (h0 - d) := by
          rcases hd with rfl | rfl
          · exact o.ch1 q
          · exact o.chD q
        exact wit _ cd q (by omega) (gh _ rfl q)
      · exact wit a o.ca (Int.le_refl _) k (by have := sp (by omega); omega)
    · by_cases he1 : e = 1
      · refine nv_e_ref k hf hge fun v h1 h2 => ?_
        have r := hg v h1 (by omega)
        have : J v + d ≤ b → J v + d ≠ b := fun q1 q2 => by
          have := o.hm (J v + d) (o.Gd hd (o.JG v)).1 q1
          omega
        omega
      · have ah : a ≤ h0 := by omega
        have := o.upg hg o.hG ah hb
        exact wit h0 (o.ch ah) ah (by omega) (by omega)
  · exact suff_w o.ca o.ca (Int.le_refl _) (w_stop2 (by omega) k3)
end
end Sf

namespace Sf
section
variable {a b s D l0 h0 d e x y c m n : Int} {J J' F f g : Int → Int} {G Cd : Int → Prop} {t : PySem.Str}
/-- push, ends that stay: what parts -/
theorem pt_pp_stay (o : Gr a b s D J J' G l0 h0 Cd) (hm : m = s ∨ m = D) (hn : n = s ∨ n = D) (hf : UpF a b m 1 J f) (hg : UpF a b n 1 J g) (hq : b < J a + m + n) (h1 : a ≤ x) (h2 : x ≤ y) (h3 : y ≤ b) (hp : Parts (lf "push" f) (rt "push" g) (x, y)) : y < f x ∧ f x < g y ∧ J y + n ≤ b ∧ J x + m ≤ b := by
  have k := o.ab
  have dm := o.dd hm
  have dn := o.dd hn
  have kx := hf x h1 (by omega)
  have ky := hg y (by omega) h3
  have jx := o.Jlo x
  have jy := o.Jlo y
  have jax := o.Jm a x h1
  unfold Parts at hp
  by_cases c1 : J x + m ≤ b
  · have fx : f x = J x + m := by omega
    have gx : G (f x) := fx ▸ (o.Gd hm (o.JG x)).1
    have kk := o.upg hg gx (by omega) (by omega)
    have gfx : g (f x) = f x := by omega
    by_cases c2 : f x ≤ y
    · exact absurd (by rw [lf_le c2, rt_le (by omega), rt_le (x := x) (y := y) (by omega), lf_le (by omega)]) hp
    · rw [lf_push (x := x) (y := y) (by omega), rt_le (by omega), gfx, rt_le (x := x) (y := y) (by omega)] at hp
      by_cases c3 : f x < g y
      · omega
      · by_cases c4 : f x ≤ g y
        · rw [lf_le c4] at hp
          exact absurd (by rw [show g y = f x by omega]) hp
        · rw [lf_push (by omega)] at hp
          exact absurd rfl hp
  · have fx : f x = x := by omega
    exact absurd (by rw [lf_le (F := f) (x := x) (y := y) (by omega), fx, rt_le (by omega), lf_le (by omega), fx]) hp
theorem w_pp_stay (h : y < f x) (h2 : f x < g y) (h3 : g (f x) = f x) (h4 : x ≤ y) : Parts (lf "push" f) (rt "push" g) (x, y) := by
  unfold Parts
  rw [lf_push h, rt_le (by omega), h3, rt_le (x := x) (y := y) (by omega), lf_le (by omega)]
  exact pair_ne (.inr (by omega))
theorem w_pp (h : a < f a) (h1 : a ≤ g a) (h2 : f a < g (f a)) (h3 : g a < g (f a)) : Parts (lf "push" f) (rt "push" g) (a, a) := by
  unfold Parts
  rw [lf_push h, rt_le (by omega), rt_le (x := a) (y := a) (by omega)]
  by_cases c : f a ≤ g a
  · rw [lf_le c]
    exact pair_ne (.inr (by omega))
  · rw [lf_push (by omega)]
    exact pair_ne (.inr (by omega))
theorem Gr.cU (o : Gr a b s D J J' G l0 h0 Cd) (hd : d = s ∨ d = D) (h : J a + d ≤ b) : Cd (J a + d) := by
  have k := o.dd hd
  have la := o.la
  rcases o.Ja with e | ⟨e, _⟩ <;> rcases hd with rfl | rfl
  · rw [e] at h ⊢
    exact o.cl1 h
  · rw [e] at h ⊢
    exact o.clD h
  · rw [e, Int.sub_add_cancel] at h ⊢
    exact o.cl h
  · rw [e, show l0 - s + d = l0 + d - s by omega] at h ⊢
    exact o.clE h
theorem Gr.cD (o : Gr a b s D J J' G l0 h0 Cd) (hd : d = s ∨ d = D) (h : a ≤ J' b - d) : Cd (J' b - d) := by
  have r := o.refl.cU hd (by unfold reflF; rw [Int.neg_neg]; omega)
  unfold reflF at r
  rw [Int.neg_neg, show -(-J' b + d) = J' b - d by omega] at r
  exact r
theorem lr_UU (o : Gr a b s D J J' G l0 h0 Cd) (ht : isTie t) (hm : m = s ∨ m = D) (hn : n = s ∨ n = D) (km : J a + m ≤ b) (kn : J a + n ≤ b) (hf : UpF a b m e J f) (hg : UpF a b n e J g) : Suff a b Cd (lf t f) (rt t g) := by
  have k := o.ab
  have dm := o.dd hm
  have dn := o.dd hn
  obtain ⟨f1, f2, f3, f4⟩ := o.upa hm km hf
  obtain ⟨g1, g2, g3, g4⟩ := o.upa hn kn hg
  have fb := o.upb hm hf
  have gb := o.upb hn hg
  have Jla := o.Jlo a
  have hs := o.hs
  have hb := o.hb
  have la := o.la
  by_cases he : e = 0
  · rcases ht with rfl | ht
    · exact suff_w o.cb o.cb (Int.le_refl _) (w_pp_round k (by omega) (by omega) f2)
    · exact suff_w o.cb o.cb (Int.le_refl _) (w_h ht k (by omega) (by omega) (by omega))
  have fge := o.up_ge hm hf he
  have gge := o.up_ge hn hg he
  rcases ht with rfl | rfl | rfl
  · have gf := o.upg hg f4 (by omega) f3
    by_cases q : J a + m + n ≤ b
    · exact suff_w o.ca o.ca (Int.le_refl _) (w_pp f2 (by omega) (by omega) (by omega))
    · by_cases he1 : e = 1
      · subst he1
        intro no x y h1 h2 h3 hp
        obtain ⟨p1, p2, p3, p4⟩ := pt_pp_stay o hm hn hf hg (by omega) h1 h2 h3 hp
        have jx := o.Jm a x h1
        have kx := hf x h1 (by omega)
        have ky := hg y (by omega) h3
        have gy := o.hm (J y + n) (o.Gd hn (o.JG y)).1 p3
        have hq : f a < h0 := by omega
        by_cases z : a ≤ h0 - n
        · have cd : Cd (h0 - n) := by
            rcases hn with rfl | rfl
            · exact o.ch1 z
            · exact o.chD z
          have gq := o.upg hg (o.Gd hn o.hG).2 z (by omega)
          exact no a (h0 - n) o.ca cd z (w_pp_stay (by omega) (by omega) (by omega) z)
        · have sp : J a + n = h0 := by
            have hm1 := o.hm (g a) g4 g3
            rcases o.sep with z | z
            · have := o.Jf a (z a)
              omega
            · have z1 := z (g a) h0 g4 o.hG
              omega
          exact no a a o.ca o.ca (Int.le_refl _) (w_pp_stay (by omega) (by omega) (by omega) (Int.le_refl _))
      · by_cases q2 : J a + m = b
        · exact nv_push_e (fun v h1 h2 => by have := hf v h1 h2; have := o.Jm a v h1; omega) gge k
        · by_cases q3 : J a + n = b
          · exact nv_push_up_e (o.up_in hm hf) (fun v h1 h2 => by have := hg v h1 h2; have := o.Jm a v h1; omega)
          · exact suff_w o.ca o.ca (Int.le_refl _) (w_pp f2 (by omega) (by omega) (by omega))
  · by_cases q : m ≤ n
    · exact suff_w o.ca o.ca (Int.le_refl _) (w_ref (Int.le_refl _) f2 (by omega))
    · have em : m = D := by omega
      have en : n = s := by omega
      subst em en
      by_cases z : l0 + m ≤ b
      · have fl := o.upg hf o.lG la (by omega)
        have gl := o.upg hg (o.Gs' _ (o.GD _ o.lG)) (by omega) (by omega)
        exact suff_w (o.cl (by omega)) (o.clE (by omega)) (by omega) (w_ref (by omega) (by omega) (by omega))
      · obtain ⟨e1, sp⟩ : J a = l0 - n ∧ (∀ v w, G v → G w → v < w → v + n ≤ w) := by
          rcases o.Ja with z1 | z1
          · omega
          · exact z1
        have q1 := o.hm (f a) f4 f3
        have q2 := sp (f a) h0 f4 o.hG
        have gl := o.upg hg (o.Gs' _ o.hG) (by omega) (by omega)
        exact suff_w o.ca (o.ch1 (by omega)) (by omega) (w_ref (by omega) (by omega) (by omega))
  · exact suff_w o.ca o.ca (Int.le_refl _) (w_stop2 f2 g2)
theorem lr_UD (o : Gr a b s D J J' G l0 h0 Cd) (ht : isTie t) (hm : m = s ∨ m = D) (hn : n = s ∨ n = D) (km : J a + m ≤ b) (kn : a ≤ J' b - n) (hf : UpF a b m e J f) (hg : DnF a b n e J' g) : Suff a b Cd (lf t f) (rt t g) := by
  have k := o.ab
  have dm := o.dd hm
  have dn := o.dd hn
  obtain ⟨f1, f2, f3, f4⟩ := o.upa hm km hf
  obtain ⟨g1, g2, g3, g4⟩ := o.dnb hn kn hg
  have ga := o.dna hn hg
  have Jla := o.Jlo a
  have Jhb := o.Jhi b
  have hs := o.hs
  have hb := o.hb
  have la := o.la
  have ls := o.ls
  by_cases hr : e = 0 ∧ t ≠ "push"
  · obtain ⟨rfl, tp⟩ := hr
    rcases ht with rfl | rfl | rfl
    · exact absurd rfl tp
    · exact suff_w o.ca o.ca (Int.le_refl _) (w_ref (Int.le_refl _) f2 (by omega))
    · exact suff_w o.ca o.ca (Int.le_refl _) (w_stop2 f2 (by omega))
  have gm := o.dng hg (v := J a + m) (o.Gd hm (o.JG a)).1 (by omega) km
  have fn := o.upg hf (v := J' b - n) (o.Gd hn (o.JG' b)).2 kn (by omega)
  by_cases q1 : a ≤ J a + m - n
  · exact suff_w o.ca (o.cU hm km) (by omega) (cross ht (by omega) (by omega) (by omega))
  by_cases he : e = 2
  · exact suff_w o.ca (o.cU hm km) (by omega) (cross ht (by omega) (by omega) (by omega))
  by_cases q2 : J' b - n + m ≤ b
  · exact suff_w (o.cD hn kn) o.cb (by omega) (cross ht (by omega) (by omega) (by omega))
  have mn : m = n := by omega
  subst mn
  obtain ⟨e1, sp⟩ : J a = l0 - s ∧ (∀ v w, G v → G w → v < w → v + s ≤ w) := by
    rcases o.Ja with z1 | z1
    · omega
    · exact z1
  have e2 : J' b = h0 + s := by
    rcases o.Jb with z1 | z1
    · omega
    · exact z1.1
  by_cases q3 : l0 + m ≤ b
  · have fl := o.upg hf o.lG la (by omega)
    have gl := o.dng hg (o.Gd hm o.lG).1 (by omega) q3
    have cd : Cd (l0 + m) := by
      rcases hm with rfl | rfl
      · exact o.cl1 q3
      · exact o.clD q3
    exact suff_w (o.cl (by omega)) cd (by omega) (cross ht (by omega) (by omega) (by omega))
  rcases hm with rfl | rfl
  · have lh := o.lm h0 o.hG (by omega)
    have e3 : l0 = h0 := by
      have := sp l0 h0 o.lG o.hG
      omega
    have fz : ∀ v, a ≤ v → v ≤ b → (v < l0 ∧ f v = l0) ∨ (e = 0 ∧ f v = a) ∨ (e = 1 ∧ f v = v) := fun v h1 h2 => by
      have z := hf v h1 h2
      have z1 := o.Jlo v
      have z2 := o.Jm a v h1
      by_cases z3 : J v < l0
      · have z4 := sp (J v) l0 (o.JG v) o.lG z3
        omega
      · omega
    have gz : ∀ v, a ≤ v → v ≤ b → (l0 < v ∧ g v = l0) ∨ (e = 0 ∧ g v = b) ∨ (e = 1 ∧ g v = v) := fun v h1 h2 => by
      have z := hg v h1 h2
      have z1 := o.Jhi v
      have z2 := o.Jm' v b h2
      by_cases z3 : l0 < J' v
      · have z4 := sp l0 (J' v) o.lG (o.JG' v) z3
        omega
      · omega
    by_cases he0 : e = 0
    · have tp : t = "push" := Classical.byContradiction fun z => hr ⟨he0, z⟩
      subst tp
      exact nv_zone_r (c := l0) (fun v h1 h2 => by have := fz v h1 h2; omega) (fun v h1 h2 => by have := gz v h1 h2; omega) ⟨la, by omega⟩
    · exact nv_zone (c := l0) ht (fun v h1 h2 => by have := fz v h1 h2; omega) (fun v h1 h2 => by have := gz v h1 h2; omega) ⟨la, by omega⟩
  · exact suff_w o.ca o.cb (by omega) (cross ht (by omega) (by omega) (by omega))
theorem lr_DU (o : Gr a b s D J J' G l0 h0 Cd) (ht : isTie t) (hm : m = s ∨ m = D) (hn : n = s ∨ n = D) (hf : DnF a b m e J' f) (hg : UpF a b n e J g) : Suff a b Cd (lf t f) (rt t g) := by
  have k := o.ab
  have fa := o.dna hm hf
  have gb := o.upb hn hg
  by_cases he : e = 0
  · exact suff_w o.ca o.cb (by omega) (w_swap ht k (by omega) (by omega))
  · exact nv_apart (fun v h1 h2 => (o.dn_le hm hf he v h1 h2).2) (fun v h1 h2 => (o.up_ge hn hg he v h1 h2).1)
end
end Sf

namespace Sf
section
variable {a b s D l0 h0 d e x y c m n : Int} {J J' F f g : Int → Int} {G Cd : Int → Prop} {t : PySem.Str}
/-! ### two keys at the left side -/
theorem suff_same (hab : a ≤ b) (hf : Inn a b f) (h : ∀ v, a ≤ v → v ≤ b → f v = g v) (ht : isTie t) : Suff a b Cd (lf t f) (lf t g) := by
  have e : ∀ x y, a ≤ x → x ≤ y → y ≤ b → lf t f (x, y) = lf t g (x, y) := fun x y h1 h2 h3 => by
    unfold lf
    dsimp only
    rw [h x h1 (by omega)]
  refine suff_n fun x y h1 h2 h3 => ?_
  have k := lf_in ht hf h1 h2 h3
  rw [← e x y h1 h2 h3]
  exact (e _ _ k.1 k.2.1 k.2.2).symm
theorem ll_HE (o : Gr a b s D J J' G l0 h0 Cd) (hf : ∀ v, a ≤ v → v ≤ b → f v = a) (hg : ∀ v, a ≤ v → v ≤ b → g v = b) : Suff a b Cd (lf t f) (lf t g) := by
  have k := o.ab
  have k1 := hf a (by omega) (by omega)
  have k2 := hg a (by omega) (by omega)
  have k3 := hf b (by omega) (by omega)
  exact suff_w o.ca o.cb (by omega) (w_ll (fun v h1 h2 => by have := hf v h1 h2; omega) (fun v h1 h2 => by have := hg v h1 h2; omega) (by omega) (by omega) (by rw [k1, k2, k3]; omega))
theorem ll_HU (o : Gr a b s D J J' G l0 h0 Cd) (hf : ∀ v, a ≤ v → v ≤ b → f v = a) (hn : n = s ∨ n = D) (kn : J a + n ≤ b) (hg : UpF a b n e J g) : Suff a b Cd (lf t f) (lf t g) := by
  have k := o.ab
  obtain ⟨g1, g2, g3, g4⟩ := o.upa hn kn hg
  have k1 := hf a (by omega) (by omega)
  have k3 := hf (g a) (by omega) (by omega)
  exact suff_w o.ca o.cb (by omega) (w_ll (fun v h1 h2 => by have := hf v h1 h2; omega) (o.up_in hn hg) (by omega) (by omega) (by rw [k1, k3]; omega))
theorem ll_HD (o : Gr a b s D J J' G l0 h0 Cd) (hf : ∀ v, a ≤ v → v ≤ b → f v = a) (hn : n = s ∨ n = D) (hg : DnF a b n e J' g) : Suff a b Cd (lf t f) (lf t g) := by
  have k := o.ab
  have ga := o.dna hn hg
  have k1 := hf a (by omega) (by omega)
  have i := o.dn_in hn hg
  have k3 := hf (g a) (i a (by omega) (by omega)).1 (i a (by omega) (by omega)).2
  by_cases he : e = 0
  · exact suff_w o.ca o.cb (by omega) (w_ll (fun v h1 h2 => by have := hf v h1 h2; omega) i (by omega) (by omega) (by rw [k1, k3]; omega))
  · refine nv_ll_down (fun v h1 h2 => by have := hf v h1 h2; omega) (o.dn_le hn hg he) fun v h1 h2 => ?_
    have i2 := i v h1 h2
    rw [hf v h1 h2, hf (g v) i2.1 i2.2]
    omega
theorem ll_EU (o : Gr a b s D J J' G l0 h0 Cd) (ht : isTie t) (hf : ∀ v, a ≤ v → v ≤ b → f v = b) (hn : n = s ∨ n = D) (hg : UpF a b n e J g) : Suff a b Cd (lf t f) (lf t g) := by
  have k := o.ab
  have gb := o.upb hn hg
  have i := o.up_in hn hg
  have k1 := hf a (by omega) (by omega)
  have k3 := hf (g a) (i a (by omega) (by omega)).1 (i a (by omega) (by omega)).2
  by_cases he : e = 0
  · exact suff_w o.ca o.cb (by omega) (w_ll (fun v h1 h2 => by have := hf v h1 h2; omega) i (by omega) (by omega) (by rw [k1, k3]; omega))
  · exact (nv_ll_e ht k (o.up_ge hn hg he) hf).symm
theorem ll_ED (o : Gr a b s D J J' G l0 h0 Cd) (hf : ∀ v, a ≤ v → v ≤ b → f v = b) (hn : n = s ∨ n = D) (kn : a ≤ J' b - n) (hg : DnF a b n e J' g) : Suff a b Cd (lf t f) (lf t g) := by
  have k := o.ab
  obtain ⟨g1, g2, g3, g4⟩ := o.dnb hn kn hg
  have i := o.dn_in hn hg
  have k1 := hf a (by omega) (by omega)
  have k3 := hf (g a) (i a (by omega) (by omega)).1 (i a (by omega) (by omega)).2
  exact suff_w o.ca o.cb (by omega) (w_ll (fun v h1 h2 => by have := hf v h1 h2; omega) i (by omega) (by omega) (by rw [k1, k3]; omega))
theorem w_ref_ll (h1 : f x ≤ y) (h2 : g x ≤ y) (h3 : y < g (f x)) (h4 : y < f (g x)) (h5 : f x ≠ g x) : Parts (lf "refuse" f) (lf "refuse" g) (x, y) := by
  unfold Parts
  rw [lf_le (F := f) (x := x) (y := y) h1, lf_le (F := g) (x := x) (y := y) h2, lf_ref h3, lf_ref h4]
  exact pair_ne (.inl h5)
/-- what a pair that parts must be, refuse, both up, ends that stop -/
theorem pt_ref_ll (o : Gr a b s D J J' G l0 h0 Cd) (hf : UpF a b s 2 J f) (hg : UpF a b D 2 J g) (h1 : a ≤ x) (h2 : x ≤ y) (h3 : y ≤ b) (hp : Parts (lf "refuse" f) (lf "refuse" g) (x, y)) : y < b ∧ J x + D ≤ y ∧ y < J x + D + s := by
  have k := o.ab
  have k1 := o.s1
  have k2 := o.sD
  have kx := hf x h1 (by omega)
  have gx := hg x h1 (by omega)
  have jx := o.Jlo x
  have fge := o.up_ge (.inl rfl) hf (by omega)
  have gge := o.up_ge (.inr rfl) hg (by omega)
  have r1 := fge x h1 (by omega)
  have r2 := gge x h1 (by omega)
  have r3 := gge (f x) (by omega) r1.2
  have r4 := fge (g x) (by omega) r2.2
  have f4 := o.upg hf (v := J x + D) (o.GD _ (o.JG x))
  have g4 := o.upg hg (v := J x + s) (o.Gs _ (o.JG x))
  have mono : g x ≤ g (f x) := by
    have z1 := hg (f x) (by omega) r1.2
    have z2 := o.Jm x (f x) r1.1
    omega
  unfold Parts at hp
  by_cases c1 : f x ≤ y
  · rw [lf_le (F := f) (x := x) (y := y) c1] at hp
    by_cases c2 : g x ≤ y
    · rw [lf_le (F := g) (x := x) (y := y) c2] at hp
      by_cases c3 : J x + D ≤ b
      · have e1 : g x = J x + D := by omega
        have e2 : f x = J x + s := by omega
        have q4 := f4 (by omega) (by omega)
        have q5 := g4 (by omega) (by omega)
        rw [e1, e2] at hp
        by_cases c4 : g (J x + s) ≤ y
        · rw [lf_le (F := g) c4, lf_le (F := f) (by omega)] at hp
          exact absurd (by rw [show g (J x + s) = f (J x + D) by omega]) hp
        · omega
      · have e1 : g x = b := by omega
        have e3 : y = b := by omega
        have e4 := gge b (by omega) (by omega)
        have e5 := fge b (by omega) (by omega)
        rw [e1, lf_le (F := g) (by omega), lf_le (F := f) (by omega)] at hp
        exact absurd (by rw [show g (f x) = f b by omega]) hp
    · rw [lf_ref (F := g) (x := x) (y := y) (by omega), lf_ref (by omega), lf_le c1] at hp
      exact absurd rfl hp
  · have fg : f x ≤ g x := by omega
    rw [lf_ref (F := f) (x := x) (y := y) (by omega), lf_ref (F := g) (x := x) (y := y) (by omega), lf_ref (by omega)] at hp
    exact absurd rfl hp
theorem ll_UU' (o : Gr a b s D J J' G l0 h0 Cd) (ht : isTie t) (kn : J a + D ≤ b) (hf : UpF a b s e J f) (hg : UpF a b D e J g) (he : e = 0 ∨ e = 1 ∨ e = 2) : Suff a b Cd (lf t f) (lf t g) := by
  have k := o.ab
  have k1 := o.s1
  have k2 := o.sD
  obtain ⟨f1, f2, f3, f4⟩ := o.upa (.inl rfl) (by omega) hf
  obtain ⟨g1, g2, g3, g4⟩ := o.upa (.inr rfl) kn hg
  have Jla := o.Jlo a
  have hs := o.hs
  have hb := o.hb
  have la := o.la
  have ls := o.ls
  have fi := o.up_in (.inl rfl) hf
  have gi := o.up_in (.inr rfl) hg
  have q1 := o.hm (g a) g4 g3
  have fh := o.upg hf o.hG (by omega) hb
  have gh := o.upg hg o.hG (by omega) hb
  rcases he with rfl | rfl | rfl
  · have f5 := o.upg hf (o.Gs' _ o.hG) (by omega) (by omega)
    have g5 := o.upg hg (o.Gs' _ o.hG) (by omega) (by omega)
    have e1 : f (h0 - s) = h0 := by omega
    have e2 : g (h0 - s) = a := by omega
    exact suff_w (o.ch1 (by omega)) o.cb (by omega) (w_ll fi gi (by omega) (by omega) (by rw [e1, e2]; omega))
  · by_cases z : a ≤ h0 - D
    · have f5 := o.upg hf (o.GD' _ o.hG) z (by omega)
      have g5 := o.upg hg (o.GD' _ o.hG) z (by omega)
      have g6 := o.upg hg (o.Gs _ (o.GD' _ o.hG)) (by omega) (by omega)
      have e1 : f (h0 - D) = h0 - D + s := by omega
      have e2 : g (h0 - D) = h0 := by omega
      exact suff_w (o.chD z) o.cb (by omega) (w_ll fi gi z (by omega) (by rw [e1, e2]; omega))
    · have sp : J a + D = h0 := by
        rcases o.sep with z | z
        · have := o.Jf a (z a)
          omega
        · have z1 := z (g a) h0 g4 o.hG
          omega
      have g6 := o.upg hg f4 (by omega) f3
      have e2 : g a = h0 := by omega
      exact suff_w o.ca o.cb (by omega) (w_ll fi gi (by omega) (by omega) (by rw [e2]; omega))
  · rcases ht with rfl | rfl | rfl
    rotate_left
    · intro no x y h1 h2 h3 hp
      obtain ⟨p1, p2, p3⟩ := pt_ref_ll o hf hg h1 h2 h3 hp
      have jx := o.Jm a x h1
      by_cases z : l0 + D < b
      · have f5 := o.upg hf o.lG la (by omega)
        have g5 := o.upg hg o.lG la (by omega)
        have f6 := o.upg hf (o.GD _ o.lG) (by omega) (by omega)
        have g6 := o.upg hg (o.Gs _ o.lG) (by omega) (by omega)
        have e1 : f l0 = l0 + s := by omega
        have e2 : g l0 = l0 + D := by omega
        exact no l0 (l0 + D) (o.cl (by omega)) (o.clD (by omega)) (by omega) (w_ref_ll (by omega) (by omega) (by rw [e1]; omega) (by rw [e2]; omega) (by omega))
      · obtain ⟨e1, sp⟩ : J a = l0 - s ∧ (∀ v w, G v → G w → v < w → v + s ≤ w) := by
          rcases o.Ja with z1 | z1
          · omega
          · exact z1
        have jx0 : J x = l0 - s := by
          by_cases w : J x < l0
          · have w1 := sp (J x) l0 (o.JG x) o.lG w
            omega
          · omega
        have f6 := o.upg hf g4 (by omega) g3
        have g6 := o.upg hg f4 (by omega) f3
        exact no a (l0 + D - s) o.ca (o.clE (by omega)) (by omega) (w_ref_ll (by omega) (by omega) (by omega) (by omega) (by omega))
    all_goals
      refine nv_ll_up (by first | exact .inl rfl | exact .inr rfl) (o.up_ge (.inl rfl) hf (by omega)) (o.up_ge (.inr rfl) hg (by omega)) fun v h1 h2 => ?_
      have w1 := hf v h1 h2
      have w2 := hg v h1 h2
      have w3 := o.Jlo v
      have w4 := o.upg hg (o.Gs _ (o.JG v))
      have w5 := o.upg hf (o.GD _ (o.JG v))
      have w6 := o.upb (.inl rfl) hf
      have w7 := o.upb (.inr rfl) hg
      by_cases c1 : J v + s ≤ b
      · have e1 : f v = J v + s := by omega
        rw [e1]
        have w8 := w4 (by omega) c1
        by_cases c2 : J v + D ≤ b
        · have e2 : g v = J v + D := by omega
          rw [e2]
          have w9 := w5 (by omega) c2
          omega
        · have e2 : g v = b := by omega
          rw [e2]
          omega
      · have e1 : f v = b := by omega
        have e2 : g v = b := by omega
        rw [e1, e2]
        omega
theorem ll_DD' (o : Gr a b s D J J' G l0 h0 Cd) (ht : isTie t) (kn : a ≤ J' b - D) (hf : DnF a b s e J' f) (hg : DnF a b D e J' g) (he : e = 0 ∨ e = 1 ∨ e = 2) : Suff a b Cd (lf t f) (lf t g) := by
  have k := o.ab
  have k1 := o.s1
  have k2 := o.sD
  obtain ⟨f1, f2, f3, f4⟩ := o.dnb (.inl rfl) (by omega) hf
  obtain ⟨g1, g2, g3, g4⟩ := o.dnb (.inr rfl) kn hg
  have Jhb := o.Jhi b
  have hs := o.hs
  have hb := o.hb
  have la := o.la
  have ls := o.ls
  have fi := o.dn_in (.inl rfl) hf
  have gi := o.dn_in (.inr rfl) hg
  have q1 := o.lm (g b) g4 g3
  have fh := o.dng hf o.lG la (by omega)
  have gh := o.dng hg o.lG la (by omega)
  rcases he with rfl | rfl | rfl
  · have f5 := o.dng hf (o.Gs _ o.lG) (by omega) (by omega)
    have g5 := o.dng hg (o.Gs _ o.lG) (by omega) (by omega)
    have e1 : f (l0 + s) = l0 := by omega
    have e2 : g (l0 + s) = b := by omega
    exact suff_w (o.cl1 (by omega)) o.cb (by omega) (w_ll fi gi (by omega) (by omega) (by rw [e1, e2]; omega))
  · by_cases z : l0 + D ≤ b
    · have f5 := o.dng hf (o.GD _ o.lG) (by omega) z
      have g5 := o.dng hg (o.GD _ o.lG) (by omega) z
      have g6 := o.dng hg (o.Gs' _ (o.GD _ o.lG)) (by omega) (by omega)
      have e1 : f (l0 + D) = l0 + D - s := by omega
      have e2 : g (l0 + D) = l0 := by omega
      exact suff_w (o.clD z) o.cb z (w_ll fi gi (by omega) z (by rw [e1, e2]; omega))
    · have sp : J' b - D = l0 := by
        rcases o.sep with z | z
        · have := o.Jf' b (z b)
          omega
        · have z1 := z l0 (g b) o.lG g4
          omega
      have g6 := o.dng hg f4 f3 (by omega)
      have e2 : g b = l0 := by omega
      exact suff_w o.cb o.cb (by omega) (w_ll fi gi (by omega) (by omega) (by rw [e2]; omega))
  · refine nv_ll_down (o.dn_le (.inl rfl) hf (by omega)) (o.dn_le (.inr rfl) hg (by omega)) fun v h1 h2 => ?_
    have w1 := hf v h1 h2
    have w2 := hg v h1 h2
    have w3 := o.Jhi v
    have w4 := o.dng hg (o.Gs' _ (o.JG' v))
    have w5 := o.dng hf (o.GD' _ (o.JG' v))
    have w6 := o.dna (.inl rfl) hf
    have w7 := o.dna (.inr rfl) hg
    by_cases c1 : a ≤ J' v - s
    · have e1 : f v = J' v - s := by omega
      rw [e1]
      have w8 := w4 c1 (by omega)
      by_cases c2 : a ≤ J' v - D
      · have e2 : g v = J' v - D := by omega
        rw [e2]
        have w9 := w5 c2 (by omega)
        omega
      · have e2 : g v = a := by omega
        rw [e2]
        omega
    · have e1 : f v = a := by omega
      have e2 : g v = a := by omega
      rw [e1, e2]
      omega
theorem ll_UU (o : Gr a b s D J J' G l0 h0 Cd) (ht : isTie t) (hm : m = s ∨ m = D) (hn : n = s ∨ n = D) (km : J a + m ≤ b) (kn : J a + n ≤ b) (hf : UpF a b m e J f) (hg : UpF a b n e J g) (he : e = 0 ∨ e = 1 ∨ e = 2) : Suff a b Cd (lf t f) (lf t g) := by
  have k := o.ab
  by_cases mn : m = n
  · subst mn
    exact suff_same (by omega) (o.up_in hm hf) (fun v h1 h2 => by have := hf v h1 h2; have := hg v h1 h2; omega) ht
  · rcases hm with rfl | rfl
    · rcases hn with rfl | rfl
      · exact absurd rfl mn
      · exact ll_UU' o ht kn hf hg he
    · rcases hn with rfl | rfl
      · exact (ll_UU' o ht km hg hf he).symm
      · exact absurd rfl mn
theorem ll_DD (o : Gr a b s D J J' G l0 h0 Cd) (ht : isTie t) (hm : m = s ∨ m = D) (hn : n = s ∨ n = D) (km : a ≤ J' b - m) (kn : a ≤ J' b - n) (hf : DnF a b m e J' f) (hg : DnF a b n e J' g) (he : e = 0 ∨ e = 1 ∨ e = 2) : Suff a b Cd (lf t f) (lf t g) := by
  have k := o.ab
  by_cases mn : m = n
  · subst mn
    exact suff_same (by omega) (o.dn_in hm hf) (fun v h1 h2 => by have := hf v h1 h2; have := hg v h1 h2; omega) ht
  · rcases hm with rfl | rfl
    · rcases hn with rfl | rfl
      · exact absurd rfl mn
      · exact ll_DD' o ht kn hf hg he
    · rcases hn with rfl | rfl
      · exact (ll_DD' o ht km hg hf he).symm
      · exact absurd rfl mn
end
end Sf

namespace Sf
section
variable {a b s D l0 h0 d e x y c m n p : Int} {J J' F f g : Int → Int} {G Cd : Int → Prop} {t : PySem.Str}
/-- zones that move, at the left side -/
theorem nv_zone_ll (ht : isTie t) (hf : ∀ v, a ≤ v → v ≤ b → f v = v ∨ (v < c ∧ f v = p)) (hg : ∀ v, a ≤ v → v ≤ b → g v = v ∨ (p < v ∧ g v = c)) (hcp : c ≤ p) (hc : a ≤ c) (hp : p ≤ b) : Suff a b Cd (lf t f) (lf t g) := suff_n fun x y h1 h2 h3 => by
  have k1 := hf x h1 (by omega)
  have k2 := hg x h1 (by omega)
  have k3 := hf c hc (by omega)
  have k4 := hg p (by omega) hp
  have k5 := hg y (by omega) h3
  have fc : f c = c := by omega
  have gp : g p = p := by omega
  by_cases cx : f x = x
  · have e1 : lf t f (x, y) = (x, y) := by rw [lf_le (by omega), cx]
    rw [e1, lf_le (F := g) (x := x) (y := y) (by omega)]
    by_cases cg : g x = x
    · rw [cg, e1]
    · rw [show g x = c by omega, lf_le (by omega), fc]
  · have fx : f x = p := by omega
    have gx : g x = x := by omega
    have e1 : lf t g (x, y) = (x, y) := by rw [lf_le (by omega), gx]
    rw [e1]
    by_cases cy : p ≤ y
    · rw [lf_le (F := f) (x := x) (y := y) (by omega), fx, lf_le (by omega), gp]
    · have gy : g y = y := by omega
      rcases ht with rfl | rfl | rfl
      · rw [lf_push (F := f) (x := x) (y := y) (by omega), fx, lf_le (by omega), gp]
      · rw [lf_ref (F := f) (x := x) (y := y) (by omega), e1]
      · rw [lf_stop (F := f) (x := x) (y := y) (by omega), lf_le (by omega), gy]
theorem w_push_ll (hab : a < b) (h1 : a < f a) (h2 : g a = b) (h3 : g (f a) = a) (h4 : f b = a) (h5 : f a < b) : Parts (lf "push" f) (lf "push" g) (a, a) := by
  unfold Parts
  rw [lf_push (F := f) (x := a) (y := a) h1, lf_le (F := g) (by omega), lf_push (F := g) (x := a) (y := a) (by omega), h2, h3, lf_le (F := f) (by omega), h4]
  exact pair_ne (.inr (by omega))
theorem w_ref_ud (h0 : a < y) (h1 : f a = y) (h2 : y < g a) (h3 : g y = a) : Parts (lf "refuse" f) (lf "refuse" g) (a, y) := by
  unfold Parts
  rw [lf_ref (F := g) (x := a) (y := y) (by omega), lf_le (F := f) (x := a) (y := y) (by omega), h1, lf_le (by omega), h3]
  exact pair_ne (.inl (by omega))
theorem w_stop_ud (h0 : a < y) (h1 : f a = y) (h2 : y < g a) (h3 : g y = a) (h4 : y < f y) : Parts (lf "stop" f) (lf "stop" g) (a, y) := by
  unfold Parts
  rw [lf_stop (F := g) (x := a) (y := y) (by omega), lf_le (F := f) (x := a) (y := y) (by omega), h1, lf_le (by omega), h3, lf_stop h4]
  exact pair_ne (.inl (by omega))
theorem ll_UD (o : Gr a b s D J J' G l0 h0 Cd) (ht : isTie t) (hm : m = s ∨ m = D) (hn : n = s ∨ n = D) (km : J a + m ≤ b) (kn : a ≤ J' b - n) (hf : UpF a b m e J f) (hg : DnF a b n e J' g) (he : e = 0 ∨ e = 1 ∨ e = 2) : Suff a b Cd (lf t f) (lf t g) := by
  have k := o.ab
  have dm := o.dd hm
  have dn := o.dd hn
  obtain ⟨f1, f2, f3, f4⟩ := o.upa hm km hf
  obtain ⟨g1, g2, g3, g4⟩ := o.dnb hn kn hg
  have fb := o.upb hm hf
  have ga := o.dna hn hg
  have Jla := o.Jlo a
  have Jhb := o.Jhi b
  have hs := o.hs
  have hb := o.hb
  have la := o.la
  have ls := o.ls
  have fi := o.up_in hm hf
  have gi := o.dn_in hn hg
  have gfa := o.dng hg f4 (by omega) f3
  have fgb := o.upg hf g4 g3 (by omega)
  have ja2 : J a ≤ l0 := by rcases o.Ja with z | z <;> omega
  rcases he with rfl | rfl | rfl
  · have ea : g a = b := by omega
    have eb : f b = a := by omega
    by_cases mn : m = n
    rotate_left
    · exact suff_w o.ca o.cb (by omega) (w_ll fi gi (by omega) (by omega) (by rw [ea, eb]; omega))
    subst mn
    by_cases ja : J a = a
    rotate_left
    · exact suff_w o.ca o.cb (by omega) (w_ll fi gi (by omega) (by omega) (by rw [ea, eb]; omega))
    by_cases jb : J' b = b
    rotate_left
    · exact suff_w o.cb o.cb (by omega) (w_ll fi gi (by omega) (by omega) (by rw [eb, ea]; omega))
    have Ga : G a := ja ▸ o.JG a
    have Gb : G b := jb ▸ o.JG' b
    have el : l0 = a := by
      have := o.lm a Ga (Int.le_refl _)
      omega
    have eh : h0 = b := by
      have := o.hm b Gb (Int.le_refl _)
      omega
    subst el eh
    by_cases ms : m = s
    rotate_left
    · have f7 := o.upg hf (o.Gs _ Ga) (by omega) (by omega)
      have g7 := o.dng hg (o.Gs _ Ga) (by omega) (by omega)
      have e2 : g (l0 + s) = h0 := by omega
      by_cases z : l0 + s + m ≤ h0
      · have e1 : f (l0 + s) = l0 + s + m := by omega
        have g8 := o.dng hg (o.Gd hm (o.Gs _ Ga)).1 (by omega) z
        exact suff_w (o.cl1 (by omega)) o.cb (by omega) (w_ll fi gi (by omega) (by omega) (by rw [e1, e2, eb]; omega))
      · have e1 : f (l0 + s) = l0 := by omega
        exact suff_w (o.cl1 (by omega)) o.cb (by omega) (w_ll fi gi (by omega) (by omega) (by rw [e1, e2, eb, ea]; omega))
    subst ms
    have el1 : f l0 = l0 + m := by omega
    by_cases z : l0 + m = h0
    · by_cases sm : ∀ v, l0 ≤ v → v ≤ h0 → f v = g v
      · exact suff_same (by omega) fi sm ht
      · obtain ⟨c, cc, c1, c2⟩ := o.mid z.symm
        have fc := hf c (by omega) (by omega)
        have gc := hg c (by omega) (by omega)
        have wit : f c = l0 → g c = h0 → Suff l0 h0 Cd (lf t f) (lf t g) := fun q1 q2 => suff_w cc o.cb (by omega) (w_ll fi gi (by omega) (by omega) (by rw [q1, q2, ea, eb]; omega))
        have wit2 : f c = h0 → g c = l0 → Suff l0 h0 Cd (lf t f) (lf t g) := fun q1 q2 => suff_w cc o.cb (by omega) (w_ll fi gi (by omega) (by omega) (by rw [q1, q2]; omega))
        rcases o.sep with sp | sp
        · have := o.Jf c (sp c)
          have := o.Jf' c (sp c)
          exact wit (by omega) (by omega)
        · have nG : ∀ v, l0 < v → v < h0 → ¬ G v := fun v q1 q2 q3 => by
            have := sp _ _ Ga q3 q1
            omega
          have jv : ∀ v, l0 ≤ v → v ≤ h0 → J v = l0 ∨ J v = h0 := fun v q1 q2 => by
            have r1 := o.Jm l0 v q1
            have r2 := o.Jm v h0 q2
            have r3 := o.Jf h0 Gb
            by_cases r4 : J v = l0
            · exact .inl r4
            · by_cases r5 : J v = h0
              · exact .inr r5
              · exact absurd (o.JG v) (nG _ (by omega) (by omega))
          rcases o.jj with z1 | z1
          · refine absurd (fun v q1 q2 => ?_) sm
            have r1 := hf v q1 q2
            have r2 := hg v q1 q2
            rw [← z1 v] at r2
            have := jv v q1 q2
            omega
          · have r1 := z1 c (nG c c1 c2)
            have r2 := jv c (by omega) (by omega)
            have r3 := o.Jhi c
            exact wit2 (by omega) (by omega)
    · have g8 := o.dng hg (o.Gs _ Ga) (by omega) (by omega)
      have f8 := o.upg hf (o.Gs _ Ga) (by omega) (by omega)
      rcases ht with rfl | rfl | rfl
      · exact suff_w o.ca o.ca (Int.le_refl _) (w_push_ll k f2 ea (by omega) eb (by omega))
      · exact suff_w o.ca (o.cl1 (by omega)) (by omega) (w_ref_ud (by omega) el1 (by omega) (by omega))
      · by_cases w : l0 + m + m ≤ h0
        · exact suff_w o.ca (o.cl1 (by omega)) (by omega) (w_stop_ud (by omega) el1 (by omega) (by omega) (by omega))
        · have f9 := o.upg hf (o.Gs' _ Gb) (by omega) (by omega)
          have g9 := o.dng hg (o.Gs' _ Gb) (by omega) (by omega)
          have e1 : f (h0 - m) = h0 := by omega
          have e2 : g (h0 - m) = h0 := by omega
          exact suff_w (o.ch1 (by omega)) o.cb (by omega) (w_ll fi gi (by omega) (by omega) (by rw [e1, e2, eb]; omega))
  · have ea : g a = a := by omega
    have eb : f b = b := by omega
    by_cases q1 : a ≤ J a + m - n
    · exact suff_w o.ca o.cb (by omega) (w_ll fi gi (by omega) (by omega) (by rw [ea]; omega))
    by_cases q2 : J' b - n + m ≤ b
    · exact suff_w o.cb o.cb (by omega) (w_ll fi gi (by omega) (by omega) (by rw [eb]; omega))
    have mn : m = n := by omega
    subst mn
    obtain ⟨e1, sp⟩ : J a = l0 - s ∧ (∀ v w, G v → G w → v < w → v + s ≤ w) := by
      rcases o.Ja with z1 | z1
      · omega
      · exact z1
    have e2 : J' b = h0 + s := by
      rcases o.Jb with z1 | z1
      · omega
      · exact z1.1
    have fl := o.upg hf o.lG la (by omega)
    have gl := o.dng hg o.lG la (by omega)
    have egl : g l0 = l0 := by omega
    by_cases q3 : l0 + m ≤ b
    · have efl : f l0 = l0 + m := by omega
      have g9 := o.dng hg (o.Gd hm o.lG).1 (by omega) q3
      exact suff_w (o.cl (by omega)) o.cb (by omega) (w_ll fi gi (by omega) (by omega) (by rw [egl, efl]; omega))
    · have lh := o.lm h0 o.hG (by omega)
      have eh : l0 - s + m = h0 := by
        have z1 := o.hm (f a) f4 f3
        have z2 := sp (f a) h0 f4 o.hG
        omega
      refine nv_zone_ll (c := l0) (p := h0) ht (fun v h1 h2 => ?_) (fun v h1 h2 => ?_) lh la hb
      · have z := hf v h1 h2
        have z1 := o.Jlo v
        have z2 := o.Jm a v h1
        by_cases z3 : J v < l0
        · have z4 := sp (J v) l0 (o.JG v) o.lG z3
          omega
        · omega
      · have z := hg v h1 h2
        have z1 := o.Jhi v
        have z2 := o.Jm' v b h2
        by_cases z3 : h0 < J' v
        · have z4 := sp h0 (J' v) o.hG (o.JG' v) z3
          omega
        · omega
  · have eb : f b = b := by omega
    exact suff_w o.cb o.cb (by omega) (w_ll fi gi (by omega) (by omega) (by rw [eb]; omega))
/-! ### all keys at the left side -/
theorem suff_I (hF : Inn a b f) (ht : isTie t) (hg : ∀ v, a ≤ v → v ≤ b → g v = v) : Suff a b Cd (lf t f) (lf t g) :=
  suff_id (fun x y h1 h2 h3 => by rw [lf_le (by rw [hg x h1 (by omega)]; exact h2), hg x h1 (by omega)]) (fun x y h1 h2 h3 => lf_in ht hF h1 h2 h3)
theorem ll (o : Gr a b s D J J' G l0 h0 Cd) (ht : isTie t) (he : e = 0 ∨ e = 1 ∨ e = 2) (hf : Kd a b s D J J' e f) (hg : Kd a b s D J J' e g) : Suff a b Cd (lf t f) (lf t g) := by
  have k := o.ab
  have fi := o.k_in hf
  have gi := o.k_in hg
  cases hg with
  | I h => exact suff_I fi ht h
  | H h =>
    cases hf with
    | I h' => exact (suff_I gi ht h').symm
    | H h' => exact suff_same (by omega) fi (fun v h1 h2 => by rw [h v h1 h2, h' v h1 h2]) ht
    | E h' => exact (ll_HE o h h').symm
    | U d hd h0 h' => exact (ll_HU o h hd h0 h').symm
    | D d hd h0 h' => exact (ll_HD o h hd h').symm
  | E h =>
    cases hf with
    | I h' => exact (suff_I gi ht h').symm
    | H h' => exact ll_HE o h' h
    | E h' => exact suff_same (by omega) fi (fun v h1 h2 => by rw [h v h1 h2, h' v h1 h2]) ht
    | U d hd h0 h' => exact (ll_EU o ht h hd h').symm
    | D d hd h0 h' => exact (ll_ED o h hd h0 h').symm
  | U n hn kn h =>
    cases hf with
    | I h' => exact (suff_I gi ht h').symm
    | H h' => exact ll_HU o h' hn kn h
    | E h' => exact ll_EU o ht h' hn h
    | U d hd h0 h' => exact ll_UU o ht hd hn h0 kn h' h he
    | D d hd h0 h' => exact (ll_UD o ht hn hd kn h0 h h' he).symm
  | D n hn kn h =>
    cases hf with
    | I h' => exact (suff_I gi ht h').symm
    | H h' => exact ll_HD o h' hn h
    | E h' => exact ll_ED o h' hn kn h
    | U d hd h0 h' => exact ll_UD o ht hd hn h0 kn h' h he
    | D d hd h0 h' => exact ll_DD o ht hd hn h0 kn h' h he
/-- both at the right side -/
theorem rr (o : Gr a b s D J J' G l0 h0 Cd) (ht : isTie t) (he : e = 0 ∨ e = 1 ∨ e = 2) (hf : Kd a b s D J J' e f) (hg : Kd a b s D J J' e g) : Suff a b Cd (rt t f) (rt t g) :=
  suff_refl (ll o.refl ht he hf.refl hg.refl) (fun v h => h) (fun p => lf_refl t f p) (fun p => lf_refl t g p)
/-- the other way round -/
theorem lr_refl {Cd' : Int → Prop} (h : Suff (-b) (-a) Cd' (lf t (reflF g)) (rt t (reflF f))) (hc : ∀ v, Cd' v → Cd (-v)) : Suff a b Cd (lf t f) (rt t g) :=
  suff_refl h.symm hc (fun p => rt_refl t f p) (fun p => lf_refl t g p)
theorem cst_refl (h : ∀ v, a ≤ v → v ≤ b → f v = c) : ∀ v, -b ≤ v → v ≤ -a → reflF f v = -c := fun v h1 h2 => by
  have := h (-v) (by omega) (by omega)
  unfold reflF
  omega
theorem jneg (h : J a + d ≤ b) : -b ≤ reflF J (-a) - d := by
  unfold reflF
  rw [Int.neg_neg]
  omega
theorem jneg' (h : a ≤ J b - d) : reflF J (-b) + d ≤ -a := by
  unfold reflF
  rw [Int.neg_neg]
  omega
theorem lr (o : Gr a b s D J J' G l0 h0 Cd) (ht : isTie t) (he : e = 0 ∨ e = 1 ∨ e = 2) (hf : Kd a b s D J J' e f) (hg : Kd a b s D J J' e g) : Suff a b Cd (lf t f) (rt t g) := by
  have k := o.ab
  have fi := o.k_in hf
  have gi := o.k_in hg
  cases hg with
  | I h => exact suff_id (fun x y h1 h2 h3 => by rw [rt_le (by rw [h y (by omega) h3]; exact h2), h y (by omega) h3]) (fun x y h1 h2 h3 => lf_in ht fi h1 h2 h3)
  | H h =>
    cases hf with
    | I h' => exact (suff_id (fun x y h1 h2 h3 => by rw [lf_le (by rw [h' x h1 (by omega)]; exact h2), h' x h1 (by omega)]) (fun x y h1 h2 h3 => rt_in ht gi h1 h2 h3)).symm
    | H h' => exact lr_HH o ht h' h
    | E h' => exact lr_EH o ht h' h
    | U d hd h0 h' => exact lr_refl (lr_ED o.refl ht (cst_refl h) hd (jneg h0) h'.refl) fun v h => h
    | D d hd h0 h' => exact lr_refl (lr_EU o.refl ht (cst_refl h) hd (jneg' h0) h'.refl) fun v h => h
  | E h =>
    cases hf with
    | I h' => exact (suff_id (fun x y h1 h2 h3 => by rw [lf_le (by rw [h' x h1 (by omega)]; exact h2), h' x h1 (by omega)]) (fun x y h1 h2 h3 => rt_in ht gi h1 h2 h3)).symm
    | H h' => exact lr_HE h' h
    | E h' => exact lr_refl (lr_HH o.refl ht (cst_refl h) (cst_refl h')) fun v h => h
    | U d hd h0 h' => exact lr_refl (lr_HD o.refl ht (cst_refl h) hd (jneg h0) h'.refl) fun v h => h
    | D d hd h0 h' => exact lr_refl (lr_HU o.refl ht (cst_refl h) hd h'.refl) fun v h => h
  | U n hn kn h =>
    cases hf with
    | I h' => exact (suff_id (fun x y h1 h2 h3 => by rw [lf_le (by rw [h' x h1 (by omega)]; exact h2), h' x h1 (by omega)]) (fun x y h1 h2 h3 => rt_in ht gi h1 h2 h3)).symm
    | H h' => exact lr_HU o ht h' hn h
    | E h' => exact lr_EU o ht h' hn kn h
    | U d hd h0 h' => exact lr_UU o ht hd hn h0 kn h' h
    | D d hd h0 h' => exact lr_DU o ht hd hn h' h
  | D n hn kn h =>
    cases hf with
    | I h' => exact (suff_id (fun x y h1 h2 h3 => by rw [lf_le (by rw [h' x h1 (by omega)]; exact h2), h' x h1 (by omega)]) (fun x y h1 h2 h3 => rt_in ht gi h1 h2 h3)).symm
    | H h' => exact lr_HD o ht h' hn kn h
    | E h' => exact lr_ED o ht h' hn kn h
    | U d hd h0 h' => exact lr_UD o ht hd hn h0 kn h' h
    | D d hd h0 h' => exact lr_refl (lr_UU o.refl ht hn hd (jneg' kn) (jneg' h0) h.refl h'.refl) fun v h => h
end
end Sf

namespace Sf
open PySem PySem.Spec PyProof.Rows L2 Evl
section
variable {f : Fld} {t : Str} {v c before behind i r x y : Int}
/-! ### a field's candidates -/
theorem blk_mem (hr : r ∈ restsHere f) (h1 : (c - f.base) / f.step - before ≤ i) (h2 : i ≤ (c - f.base) / f.step + behind) (e : v = f.base + i * f.step + r) (h3 : f.low ≤ v) (h4 : v ≤ f.high) : v ∈ blockH f c before behind := by
  refine List.mem_filter.mpr ⟨List.mem_flatMap.mpr ⟨i, rng_mem.mpr ⟨h1, by omega⟩, List.mem_map.mpr ⟨r, hr, e.symm⟩⟩, ?_⟩
  unfold insF
  rw [decide_eq_true h3, decide_eq_true h4]
  rfl
theorem rest_mem (h : r ∈ restsAllH f) (e : r % f.step = x) : x ∈ restsHere f := sortU_mem.mpr (List.mem_map.mpr ⟨r, h, e⟩)
theorem all4 (h : r ∈ rests4 f) : r ∈ restsAllH f := by
  unfold restsAllH
  split
  · exact List.mem_append.mpr (.inl h)
  · exact h
theorem rest0 : (0 : Int) ∈ restsHere f := rest_mem (all4 (by simp [rests4])) (Int.zero_emod _)
theorem rest1 (h : 2 ≤ f.step) : (1 : Int) ∈ restsHere f := rest_mem (all4 (r := 1) (by simp [rests4])) (Int.emod_eq_of_lt (by omega) (by omega))
theorem rest_l (h : f.off = "add") : (f.low - f.base) % f.step ∈ restsHere f := by
  refine rest_mem (r := (f.low - f.base) % f.step) ?_ (Int.emod_emod_of_dvd _ (Int.dvd_refl _))
  unfold restsAllH offEnd
  rw [if_pos (by rw [decide_eq_true h]; rfl)]
  simp
theorem rest_h (h : f.off = "add") : (f.high - f.base) % f.step ∈ restsHere f := by
  refine rest_mem (r := (f.high - f.base) % f.step) ?_ (Int.emod_emod_of_dvd _ (Int.dvd_refl _))
  unfold restsAllH offEnd
  rw [if_pos (by rw [decide_eq_true h]; rfl)]
  simp
theorem every_a (w : 24 < f.high - f.low) : f.low ∈ everyH f := by
  unfold everyH
  rw [if_neg (by omega)]
  simp
theorem every_b (w : 24 < f.high - f.low) : f.high ∈ everyH f := by
  unfold everyH
  rw [if_neg (by omega)]
  simp
theorem every_l (w : 24 < f.high - f.low) (h : v ∈ blockH f f.low 0 (nearH f)) : v ∈ everyH f := by
  unfold everyH
  rw [if_neg (by omega)]
  simp [h]
theorem every_h (w : 24 < f.high - f.low) (h : v ∈ blockH f f.high (nearH f) 0) : v ∈ everyH f := by
  unfold everyH
  rw [if_neg (by omega)]
  simp [h]
theorem ord_div {a s : Int} (hs : 1 ≤ s) : a / s * s ≤ a ∧ a < a / s * s + s ∧ a = a / s * s + a % s ∧ 0 ≤ a % s ∧ a % s < s := by
  have h1 := Int.ediv_mul_add_emod a s
  have h2 := Int.emod_nonneg a (show s ≠ 0 by omega)
  have h3 := Int.emod_lt_of_pos a (show 0 < s by omega)
  omega
theorem ord_mul {i j s : Int} (hs : 1 ≤ s) (h : i * s < j * s + s) : i ≤ j := by
  rw [show j * s + s = (j + 1) * s by rw [Int.add_mul, Int.one_mul]] at h
  have := Int.lt_of_mul_lt_mul_right h (by omega)
  omega
theorem page2 (hf : FOk f) : 2 * f.step ≤ f.big * f.step := Int.mul_le_mul_of_nonneg_right hf.g0 (by have := hf.s0; omega)
theorem mul1 {i s : Int} : (i + 1) * s = i * s + s := by rw [Int.add_mul, Int.one_mul]
theorem mulm {i s : Int} : (i - 1) * s = i * s - s := by rw [Int.sub_mul, Int.one_mul]
/-! ### add: all values lie on the grid -/
theorem gr_add (hf : FOk f) (ho : f.off = "add") (w : 24 < f.high - f.low) : Gr f.low f.high f.step (f.big * f.step) (fun v => v) (fun v => v) (fun _ => True) f.low f.high (· ∈ everyH f) := by
  have s0 := hf.s0
  have g0 := hf.g0
  have pg := page2 hf
  have dl := ord_div (a := f.low - f.base) s0
  have dh := ord_div (a := f.high - f.base) s0
  have lo : ∀ m : Int, 0 ≤ m → m ≤ nearH f → f.low + m * f.step ≤ f.high → f.low + m * f.step ∈ everyH f := fun m h1 h2 h3 => by
    have : 0 ≤ m * f.step := Int.mul_nonneg h1 (by omega)
    refine every_l w (blk_mem (rest_l ho) (i := (f.low - f.base) / f.step + m) (by omega) (by omega) ?_ (by omega) h3)
    rw [Int.add_mul]
    omega
  have hi : ∀ m : Int, 0 ≤ m → m ≤ nearH f → f.low ≤ f.high - m * f.step → f.high - m * f.step ∈ everyH f := fun m h1 h2 h3 => by
    have : 0 ≤ m * f.step := Int.mul_nonneg h1 (by omega)
    refine every_h w (blk_mem (rest_h ho) (i := (f.high - f.base) / f.step - m) (by omega) (by omega) ?_ h3 (by omega))
    rw [Int.sub_mul]
    omega
  have n2 : nearH f = 2 * f.big + 2 := rfl
  exact {
    ab := hf.lh
    s1 := s0
    sD := pg
    Jlo := fun v => by omega
    Jhi := fun v => by omega
    Jm := fun v w h => h
    Jm' := fun v w h => h
    JG := fun _ => trivial
    JG' := fun _ => trivial
    Jf := fun _ _ => rfl
    Jf' := fun _ _ => rfl
    Gs := fun _ _ => trivial
    Gs' := fun _ _ => trivial
    GD := fun _ _ => trivial
    GD' := fun _ _ => trivial
    lG := trivial
    la := Int.le_refl _
    ls := by omega
    lm := fun v _ h => h
    hG := trivial
    hb := Int.le_refl _
    hs := by omega
    hm := fun v _ h => h
    sep := .inl fun _ => trivial
    jj := .inl fun _ => rfl
    ca := every_a w
    cb := every_b w
    cl := fun _ => every_a w
    cl1 := fun h => by
      have := lo 1 (by omega) (by omega) (by omega)
      rwa [Int.one_mul] at this
    clD := fun h => lo f.big (by omega) (by omega) h
    clE := fun h => by
      have := lo (f.big - 1) (by omega) (by omega) (by rw [mulm]; omega)
      rw [mulm] at this
      rwa [show f.low + f.big * f.step - f.step = f.low + (f.big * f.step - f.step) by omega]
    ch := fun _ => every_b w
    ch1 := fun h => by
      have := hi 1 (by omega) (by omega) (by omega)
      rwa [Int.one_mul] at this
    chD := fun h => hi f.big (by omega) (by omega) h
    chE := fun h => by
      have := hi (f.big - 1) (by omega) (by omega) (by rw [mulm]; omega)
      rw [mulm] at this
      rwa [show f.high - f.big * f.step + f.step = f.high - (f.big * f.step - f.step) by omega]
    mid := fun h => by
      by_cases z : (f.low - f.base) % f.step = 0
      · exact ⟨f.low + 1, every_l w (blk_mem (rest1 (by omega)) (i := (f.low - f.base) / f.step) (by omega) (by omega) (by omega) (by omega) (by omega)), by omega, by omega⟩
      · exact ⟨f.base + ((f.low - f.base) / f.step + 1) * f.step + 0, every_l w (blk_mem rest0 (i := (f.low - f.base) / f.step + 1) (by omega) (by omega) rfl (by rw [mul1]; omega) (by rw [mul1]; omega)), by rw [mul1]; omega, by rw [mul1]; omega⟩ }
/-! ### a grid -/
def onG (f : Fld) (v : Int) : Prop := ∃ k : Int, v = f.base + k * f.step
theorem onG_sep (hf : FOk f) : ∀ v w, onG f v → onG f w → v < w → v + f.step ≤ w := by
  rintro _ _ ⟨i, rfl⟩ ⟨j, rfl⟩ h
  have s0 := hf.s0
  have h1 : i < j := Int.lt_of_mul_lt_mul_right (show i * f.step < j * f.step by omega) (by omega)
  have := Int.mul_le_mul_of_nonneg_right (show i + 1 ≤ j by omega) (show 0 ≤ f.step by omega)
  rw [mul1] at this
  omega
theorem gr_grid (hf : FOk f) (w : 24 < f.high - f.low) {J J' : Int → Int} (Jlo : ∀ v, v < J v + f.step) (Jhi : ∀ v, J' v < v + f.step) (Jm : ∀ v w, v ≤ w → J v ≤ J w) (Jm' : ∀ v w, v ≤ w → J' v ≤ J' w) (JG : ∀ v, onG f (J v)) (JG' : ∀ v, onG f (J' v)) (Jf : ∀ v, onG f v → J v = v) (Jf' : ∀ v, onG f v → J' v = v) (jj : (∀ v, J v = J' v) ∨ (∀ v, ¬ onG f v → J' v = J v + f.step)) :
    Gr f.low f.high f.step (f.big * f.step) J J' (onG f) (f.base + -((f.base - f.low) / f.step) * f.step) (f.base + (f.high - f.base) / f.step * f.step) (· ∈ everyH f) := by
  have s0 := hf.s0
  have g0 := hf.g0
  have pg := page2 hf
  have dl := ord_div (a := f.base - f.low) s0
  have dp := ord_div (a := f.low - f.base) s0
  have dh := ord_div (a := f.high - f.base) s0
  have sep := onG_sep hf
  have n2 : nearH f = 2 * f.big + 2 := rfl
  have p1 : (f.low - f.base) / f.step ≤ -((f.base - f.low) / f.step) := ord_mul s0 (by rw [Int.neg_mul]; omega)
  have p2 : -((f.base - f.low) / f.step) ≤ (f.low - f.base) / f.step + 1 := ord_mul s0 (by rw [Int.neg_mul, mul1]; omega)
  have lo : ∀ m : Int, 0 ≤ m → m + 1 ≤ nearH f → f.base + (-((f.base - f.low) / f.step) + m) * f.step ≤ f.high → f.base + (-((f.base - f.low) / f.step) + m) * f.step ∈ everyH f := fun m h1 h2 h3 => by
    have : 0 ≤ m * f.step := Int.mul_nonneg h1 (by omega)
    exact every_l w (blk_mem rest0 (i := -((f.base - f.low) / f.step) + m) (by omega) (by omega) (by omega) (by rw [Int.add_mul, Int.neg_mul]; omega) h3)
  have hi : ∀ m : Int, 0 ≤ m → m ≤ nearH f → f.low ≤ f.base + ((f.high - f.base) / f.step - m) * f.step → f.base + ((f.high - f.base) / f.step - m) * f.step ∈ everyH f := fun m h1 h2 h3 => by
    have : 0 ≤ m * f.step := Int.mul_nonneg h1 (by omega)
    exact every_h w (blk_mem rest0 (i := (f.high - f.base) / f.step - m) (by omega) (by omega) (by omega) h3 (by rw [Int.sub_mul]; omega))
  have la : f.low ≤ f.base + -((f.base - f.low) / f.step) * f.step := by rw [Int.neg_mul]; omega
  have ls : f.base + -((f.base - f.low) / f.step) * f.step < f.low + f.step := by rw [Int.neg_mul]; omega
  have e1 : ∀ k m : Int, f.base + k * f.step + m * f.step = f.base + (k + m) * f.step := fun k m => by rw [Int.add_mul]; omega
  have e2 : ∀ k m : Int, f.base + k * f.step - m * f.step = f.base + (k - m) * f.step := fun k m => by rw [Int.sub_mul]; omega
  have e3 : ∀ k : Int, f.base + k * f.step + f.step = f.base + (k + 1) * f.step := fun k => by rw [mul1]; omega
  have e4 : ∀ k : Int, f.base + k * f.step - f.step = f.base + (k - 1) * f.step := fun k => by rw [mulm]; omega
  have e5 : ∀ k m : Int, f.base + k * f.step + m * f.step - f.step = f.base + (k + (m - 1)) * f.step := fun k m => by rw [Int.add_mul, mulm]; omega
  have e6 : ∀ k m : Int, f.base + k * f.step - m * f.step + f.step = f.base + (k - (m - 1)) * f.step := fun k m => by rw [Int.sub_mul, mulm]; omega
  exact {
    ab := hf.lh
    s1 := s0
    sD := pg
    Jlo := Jlo
    Jhi := Jhi
    Jm := Jm
    Jm' := Jm'
    JG := JG
    JG' := JG'
    Jf := Jf
    Jf' := Jf'
    Gs := by rintro _ ⟨k, rfl⟩; exact ⟨k + 1, e3 k⟩
    Gs' := by rintro _ ⟨k, rfl⟩; exact ⟨k - 1, e4 k⟩
    GD := by rintro _ ⟨k, rfl⟩; exact ⟨k + f.big, e1 k _⟩
    GD' := by rintro _ ⟨k, rfl⟩; exact ⟨k - f.big, e2 k _⟩
    lG := ⟨_, rfl⟩
    la := la
    ls := ls
    lm := fun v h1 h2 => by
      by_cases z : v < f.base + -((f.base - f.low) / f.step) * f.step
      · have := sep _ _ h1 ⟨_, rfl⟩ z
        omega
      · omega
    hG := ⟨_, rfl⟩
    hb := by omega
    hs := by omega
    hm := fun v h1 h2 => by
      by_cases z : f.base + (f.high - f.base) / f.step * f.step < v
      · have := sep _ _ ⟨_, rfl⟩ h1 z
        omega
      · omega
    sep := .inr sep
    jj := jj
    ca := every_a w
    cb := every_b w
    cl := fun h => by
      have := lo 0 (by omega) (by omega) (by rw [Int.add_zero]; exact h)
      rwa [Int.add_zero] at this
    cl1 := fun h => by
      rw [e3] at h ⊢
      exact lo 1 (by omega) (by omega) h
    clD := fun h => by
      rw [e1] at h ⊢
      exact lo f.big (by omega) (by omega) h
    clE := fun h => by
      rw [e5] at h ⊢
      exact lo (f.big - 1) (by omega) (by omega) h
    ch := fun h => by
      have := hi 0 (by omega) (by omega) (by rw [Int.sub_zero]; exact h)
      rwa [Int.sub_zero] at this
    ch1 := fun h => by
      rw [e4] at h ⊢
      exact hi 1 (by omega) (by omega) h
    chD := fun h => by
      rw [e2] at h ⊢
      exact hi f.big (by omega) (by omega) h
    chE := fun h => by
      rw [e6] at h ⊢
      exact hi (f.big - 1) (by omega) (by omega) h
    mid := fun h => by
      by_cases z : (f.low - f.base) % f.step = 0
      · exact ⟨f.low + 1, every_l w (blk_mem (rest1 (by omega)) (i := (f.low - f.base) / f.step) (by omega) (by omega) (by omega) (by omega) (by omega)), by omega, by omega⟩
      · exact ⟨f.base + ((f.low - f.base) / f.step + 1) * f.step + 0, every_l w (blk_mem rest0 (i := (f.low - f.base) / f.step + 1) (by omega) (by omega) rfl (by rw [mul1]; omega) (by rw [mul1]; omega)), by rw [mul1]; omega, by rw [mul1]; omega⟩ }
end
end Sf

namespace Sf
open PySem PySem.Spec PyProof.Rows L2 Evl
section
variable {f : Fld} {t : Str} {x y : Int} {J J' : Int → Int} {G Cd : Int → Prop} {l0 h0 : Int}
def eOf (f : Fld) : Int := if f.ends = "round" then 0 else if f.ends = "stay" then 1 else 2
theorem eOf_or : eOf f = 0 ∨ eOf f = 1 ∨ eOf f = 2 := by
  unfold eOf
  split
  · exact .inl rfl
  · split
    · exact .inr (.inl rfl)
    · exact .inr (.inr rfl)
/-- beyond the greater end -/
theorem far_hi (hf : FOk f) {v aim : Int} (h : f.high < aim) (hl : f.low < aim) : eOf f = 0 ∧ (if f.low ≤ aim ∧ aim ≤ f.high then aim else if f.ends = "stay" then v else if f.ends = "round" then (if aim > f.high then f.low else f.high) else (if aim > f.high then f.high else f.low)) = f.low ∨ eOf f = 1 ∧ (if f.low ≤ aim ∧ aim ≤ f.high then aim else if f.ends = "stay" then v else if f.ends = "round" then (if aim > f.high then f.low else f.high) else (if aim > f.high then f.high else f.low)) = v ∨ eOf f = 2 ∧ (if f.low ≤ aim ∧ aim ≤ f.high then aim else if f.ends = "stay" then v else if f.ends = "round" then (if aim > f.high then f.low else f.high) else (if aim > f.high then f.high else f.low)) = f.high := by
  rw [if_neg (by omega), if_pos h, if_pos h]
  unfold eOf
  rcases hf.ends with e | e | e <;> rw [e]
  · exact .inl ⟨rfl, rfl⟩
  · exact .inr (.inl ⟨rfl, rfl⟩)
  · exact .inr (.inr ⟨rfl, rfl⟩)
theorem far_lo (hf : FOk f) {v aim : Int} (h : aim < f.low) (hl : aim < f.high) : eOf f = 0 ∧ (if f.low ≤ aim ∧ aim ≤ f.high then aim else if f.ends = "stay" then v else if f.ends = "round" then (if aim > f.high then f.low else f.high) else (if aim > f.high then f.high else f.low)) = f.high ∨ eOf f = 1 ∧ (if f.low ≤ aim ∧ aim ≤ f.high then aim else if f.ends = "stay" then v else if f.ends = "round" then (if aim > f.high then f.low else f.high) else (if aim > f.high then f.high else f.low)) = v ∨ eOf f = 2 ∧ (if f.low ≤ aim ∧ aim ≤ f.high then aim else if f.ends = "stay" then v else if f.ends = "round" then (if aim > f.high then f.low else f.high) else (if aim > f.high then f.high else f.low)) = f.low := by
  have n : ¬ aim > f.high := by omega
  rw [if_neg (by omega), if_neg n, if_neg n]
  unfold eOf
  rcases hf.ends with e | e | e <;> rw [e]
  · exact .inl ⟨rfl, rfl⟩
  · exact .inr (.inl ⟨rfl, rfl⟩)
  · exact .inr (.inr ⟨rfl, rfl⟩)
theorem up_of (hf : FOk f) (o : Gr f.low f.high f.step (f.big * f.step) J J' G l0 h0 Cd) {c : Nat} {d : Int} (hd : d = f.step ∨ d = f.big * f.step) (hc : c ≠ 104 ∧ c ≠ 101) (ha : ∀ v, aimOf f v (manySteps f c) = J v + d) : UpF f.low f.high d (eOf f) J fun v => pressKey f v c := fun v h1 h2 => by
  have k1 := o.dd hd
  have k3 := o.Jlo v
  show (_ ∧ pressKey f v c = _) ∨ (_ ∧ (_ ∧ pressKey f v c = _ ∨ _ ∧ pressKey f v c = _ ∨ _ ∧ pressKey f v c = _))
  unfold pressKey
  rw [if_neg hc.1, if_neg hc.2]
  dsimp only
  rw [ha v]
  by_cases z : J v + d ≤ f.high
  · exact .inl ⟨z, if_pos ⟨by omega, z⟩⟩
  · exact .inr ⟨by omega, far_hi hf (by omega) (by omega)⟩
theorem dn_of (hf : FOk f) (o : Gr f.low f.high f.step (f.big * f.step) J J' G l0 h0 Cd) {c : Nat} {d : Int} (hd : d = f.step ∨ d = f.big * f.step) (hc : c ≠ 104 ∧ c ≠ 101) (ha : ∀ v, aimOf f v (manySteps f c) = J' v - d) : DnF f.low f.high d (eOf f) J' fun v => pressKey f v c := fun v h1 h2 => by
  have k1 := o.dd hd
  have k3 := o.Jhi v
  show (_ ∧ pressKey f v c = _) ∨ (_ ∧ (_ ∧ pressKey f v c = _ ∨ _ ∧ pressKey f v c = _ ∨ _ ∧ pressKey f v c = _))
  unfold pressKey
  rw [if_neg hc.1, if_neg hc.2]
  dsimp only
  rw [ha v]
  by_cases z : f.low ≤ J' v - d
  · exact .inl ⟨z, if_pos ⟨z, by omega⟩⟩
  · exact .inr ⟨by omega, far_lo hf (by omega) (by omega)⟩
theorem kd_up {a b s D e d : Int} {F : Int → Int} (o : Gr a b s D J J' G l0 h0 Cd) (he : e = 0 ∨ e = 1 ∨ e = 2) (hd : d = s ∨ d = D) (h : UpF a b d e J F) : Kd a b s D J J' e F := by
  by_cases z : J a + d ≤ b
  · exact .U d hd z h
  · have q : ∀ v, a ≤ v → v ≤ b → e = 0 ∧ F v = a ∨ e = 1 ∧ F v = v ∨ e = 2 ∧ F v = b := fun v h1 h2 => by
      have k := o.Jm a v h1
      have := h v h1 h2
      omega
    rcases he with rfl | rfl | rfl
    · exact .H fun v h1 h2 => by have := q v h1 h2; omega
    · exact .I fun v h1 h2 => by have := q v h1 h2; omega
    · exact .E fun v h1 h2 => by have := q v h1 h2; omega
theorem kd_dn {a b s D e d : Int} {F : Int → Int} (o : Gr a b s D J J' G l0 h0 Cd) (he : e = 0 ∨ e = 1 ∨ e = 2) (hd : d = s ∨ d = D) (h : DnF a b d e J' F) : Kd a b s D J J' e F := by
  by_cases z : a ≤ J' b - d
  · exact .D d hd z h
  · have q : ∀ v, a ≤ v → v ≤ b → e = 0 ∧ F v = b ∨ e = 1 ∧ F v = v ∨ e = 2 ∧ F v = a := fun v h1 h2 => by
      have k := o.Jm' v b h2
      have := h v h1 h2
      omega
    rcases he with rfl | rfl | rfl
    · exact .E fun v h1 h2 => by have := q v h1 h2; omega
    · exact .I fun v h1 h2 => by have := q v h1 h2; omega
    · exact .H fun v h1 h2 => by have := q v h1 h2; omega
theorem kd_of (hf : FOk f) (o : Gr f.low f.high f.step (f.big * f.step) J J' G l0 h0 Cd) (hu : ∀ v m, 0 < m → aimOf f v m = J v + m * f.step) (hd : ∀ v m, 0 < m → aimOf f v (-m) = J' v - m * f.step) {c : Nat} (hc : isKey c) : Kd f.low f.high f.step (f.big * f.step) J J' (eOf f) fun v => pressKey f v c := by
  have g0 := hf.g0
  rcases hc with rfl | rfl | rfl | rfl | rfl | rfl
  · exact kd_up o eOf_or (.inl rfl) (up_of hf o (.inl rfl) (by decide) fun v => by
      show aimOf f v 1 = _
      rw [hu v 1 (by omega), Int.one_mul])
  · exact kd_dn o eOf_or (.inl rfl) (dn_of hf o (.inl rfl) (by decide) fun v => by
      show aimOf f v (-1) = _
      rw [hd v 1 (by omega), Int.one_mul])
  · exact kd_up o eOf_or (.inr rfl) (up_of hf o (.inr rfl) (by decide) fun v => by
      show aimOf f v f.big = _
      rw [hu v f.big (by omega)])
  · exact kd_dn o eOf_or (.inr rfl) (dn_of hf o (.inr rfl) (by decide) fun v => by
      show aimOf f v (-f.big) = _
      rw [hd v f.big (by omega)])
  · exact .H fun v _ _ => rfl
  · exact .E fun v _ _ => rfl
/-! ### presses at two sides -/
theorem tied_left {p : Int × Int} {c : Nat} : pressTied f t p "left" c = lf t (fun v => pressKey f v c) p := rfl
theorem tied_right {p : Int × Int} {c : Nat} : pressTied f t p "right" c = rt t (fun v => pressKey f v c) p := rfl
theorem pairs_every (hx : x ∈ everyH f) (hy : y ∈ everyH f) (h : x ≤ y) : (x, y) ∈ pairsOf f := by
  refine List.mem_flatMap.mpr ⟨x, sortU_mem.mpr hx, List.mem_map.mpr ⟨y, List.mem_filter.mpr ⟨sortU_mem.mpr ?_, decide_eq_true h⟩, rfl⟩⟩
  unfold someH
  split
  · exact hy
  · exact List.mem_append.mpr (.inl hy)
theorem no_part {a b : Str × Sg} {p : Int × Int} : partsAt f t a b p = false ↔ ¬ Parts (fun p => pressTied f t p a.1 a.2.c) (fun p => pressTied f t p b.1 b.2.c) p := by
  unfold partsAt Parts
  rw [Bool.not_eq_false', decide_eq_true_eq, ne_eq, Classical.not_not]
theorem order_gr (hf : FOk f) (ht : isTie t) (o : Gr f.low f.high f.step (f.big * f.step) J J' G l0 h0 (· ∈ everyH f)) (hu : ∀ v m, 0 < m → aimOf f v m = J v + m * f.step) (hd : ∀ v m, 0 < m → aimOf f v (-m) = J' v - m * f.step) {a b : Str × Sg} (ha : a.1 = "left" ∨ a.1 = "right") (hb : b.1 = "left" ∨ b.1 = "right") (ka : isKey a.2.c) (kb : isKey b.2.c) : Suff f.low f.high (· ∈ everyH f) (fun p => pressTied f t p a.1 a.2.c) (fun p => pressTied f t p b.1 b.2.c) := by
  have k1 := kd_of hf o hu hd ka
  have k2 := kd_of hf o hu hd kb
  rcases ha with e | e <;> rcases hb with e' | e' <;> rw [e, e']
  · exact ll o ht eOf_or k1 k2
  · exact lr o ht eOf_or k1 k2
  · exact (lr o ht eOf_or k2 k1).symm
  · exact rr o ht eOf_or k1 k2
theorem near_div {u s : Int} (hs : 1 ≤ s) : 2 * ((2 * u + s) / (2 * s) * s) ≤ 2 * u + s ∧ 2 * u + s < 2 * ((2 * u + s) / (2 * s) * s) + 2 * s := by
  have h := ord_div (a := 2 * u + s) (s := 2 * s) (by omega)
  have e : (2 * u + s) / (2 * s) * (2 * s) = 2 * ((2 * u + s) / (2 * s) * s) := by rw [Int.mul_left_comm]
  omega
theorem onG_uniq (hf : FOk f) {v w : Int} (hv : onG f v) (hw : onG f w) (h1 : v < w + f.step) (h2 : w < v + f.step) : v = w := by
  by_cases a : v < w
  · have := onG_sep hf _ _ hv hw a
    omega
  · by_cases b : w < v
    · have := onG_sep hf _ _ hw hv b
      omega
    · omega
theorem order_suff (hf : FOk f) (ht : isTie t) (w : 24 < f.high - f.low) {a b : Str × Sg} (ha : a.1 = "left" ∨ a.1 = "right") (hb : b.1 = "left" ∨ b.1 = "right") (ka : isKey a.2.c) (kb : isKey b.2.c) : Suff f.low f.high (· ∈ everyH f) (fun p => pressTied f t p a.1 a.2.c) (fun p => pressTied f t p b.1 b.2.c) := by
  have s0 := hf.s0
  have nm : ∀ m : Int, -m * f.step = -(m * f.step) := fun m => Int.neg_mul ..
  rcases hf.off with o | o | o
  · refine order_gr hf ht (gr_add hf o w) (fun v m _ => ?_) (fun v m _ => ?_) ha hb ka kb
    · unfold aimOf
      rw [if_pos o]
    · unfold aimOf
      rw [if_pos o, nm]
      show v + -(m * f.step) = v - m * f.step
      omega
  · have J1 : ∀ v, 2 * ((2 * (v - f.base) + f.step) / (2 * f.step) * f.step) ≤ 2 * (v - f.base) + f.step ∧ 2 * (v - f.base) + f.step < 2 * ((2 * (v - f.base) + f.step) / (2 * f.step) * f.step) + 2 * f.step := fun v => near_div s0
    have Jm : ∀ v w, v ≤ w → f.base + (2 * (v - f.base) + f.step) / (2 * f.step) * f.step ≤ f.base + (2 * (w - f.base) + f.step) / (2 * f.step) * f.step := fun v w h => by
      have := Int.mul_le_mul_of_nonneg_right (Int.ediv_le_ediv (show 0 < 2 * f.step by omega) (show 2 * (v - f.base) + f.step ≤ 2 * (w - f.base) + f.step by omega)) (show 0 ≤ f.step by omega)
      omega
    have Jf : ∀ v, onG f v → f.base + (2 * (v - f.base) + f.step) / (2 * f.step) * f.step = v := fun v h => by
      have := J1 v
      exact onG_uniq hf ⟨_, rfl⟩ h (by omega) (by omega)
    refine order_gr hf ht (gr_grid hf w (J := fun v => f.base + (2 * (v - f.base) + f.step) / (2 * f.step) * f.step) (J' := fun v => f.base + (2 * (v - f.base) + f.step) / (2 * f.step) * f.step) (fun v => by have := J1 v; omega) (fun v => by have := J1 v; omega) Jm Jm (fun v => ⟨_, rfl⟩) (fun v => ⟨_, rfl⟩) Jf Jf (.inl fun _ => rfl)) (fun v m _ => ?_) (fun v m _ => ?_) ha hb ka kb
    · unfold aimOf
      rw [o, if_neg (by decide), if_pos rfl, Int.add_mul]
      omega
    · unfold aimOf
      rw [o, if_neg (by decide), if_pos rfl, Int.add_mul, nm]
      omega
  · have J1 : ∀ v, (v - f.base) / f.step * f.step ≤ v - f.base ∧ v - f.base < (v - f.base) / f.step * f.step + f.step := fun v => by
      have := ord_div (a := v - f.base) s0
      omega
    have J2 : ∀ v, v - f.base ≤ -((f.base - v) / f.step) * f.step ∧ -((f.base - v) / f.step) * f.step < v - f.base + f.step := fun v => by
      have := ord_div (a := f.base - v) s0
      rw [Int.neg_mul]
      omega
    have Jm : ∀ v w, v ≤ w → f.base + (v - f.base) / f.step * f.step ≤ f.base + (w - f.base) / f.step * f.step := fun v w h => by
      have := Int.mul_le_mul_of_nonneg_right (Int.ediv_le_ediv (show 0 < f.step by omega) (show v - f.base ≤ w - f.base by omega)) (show 0 ≤ f.step by omega)
      omega
    have Jm' : ∀ v w, v ≤ w → f.base + -((f.base - v) / f.step) * f.step ≤ f.base + -((f.base - w) / f.step) * f.step := fun v w h => by
      have := Int.mul_le_mul_of_nonneg_right (Int.ediv_le_ediv (show 0 < f.step by omega) (show f.base - w ≤ f.base - v by omega)) (show 0 ≤ f.step by omega)
      rw [Int.neg_mul, Int.neg_mul]
      omega
    refine order_gr hf ht (gr_grid hf w (J := fun v => f.base + (v - f.base) / f.step * f.step) (J' := fun v => f.base + -((f.base - v) / f.step) * f.step) (fun v => by have := J1 v; omega) (fun v => by have := J2 v; omega) Jm Jm' (fun v => ⟨_, rfl⟩) (fun v => ⟨_, rfl⟩) (fun v h => ?_) (fun v h => ?_) (.inr fun v h => ?_)) (fun v m hm => ?_) (fun v m hm => ?_) ha hb ka kb
    · have := J1 v
      exact onG_uniq hf ⟨_, rfl⟩ h (by omega) (by omega)
    · have := J2 v
      exact onG_uniq hf ⟨_, rfl⟩ h (by omega) (by omega)
    · have k1 := J1 v
      have k2 := J2 v
      have n1 : f.base + (v - f.base) / f.step * f.step ≠ v := fun e => h ⟨_, e.symm⟩
      have n2 : f.base + -((f.base - v) / f.step) * f.step ≠ v := fun e => h ⟨_, e.symm⟩
      have e3 : f.base + ((v - f.base) / f.step + 1) * f.step = f.base + (v - f.base) / f.step * f.step + f.step := by rw [mul1]; omega
      rw [← e3]
      exact onG_uniq hf ⟨_, rfl⟩ ⟨_, rfl⟩ (by rw [mul1]; omega) (by rw [mul1]; omega)
    · unfold aimOf
      rw [o, if_neg (by decide), if_neg (by decide), if_pos hm, Int.add_mul]
      omega
    · unfold aimOf
      rw [o, if_neg (by decide), if_neg (by decide), if_neg (by omega), Int.add_mul, nm m]
      omega
/-- **the pairs stand for all** -/
theorem order_all (hf : FOk f) (ht : isTie t) {a b : Str × Sg} (ha : a.1 = "left" ∨ a.1 = "right") (hb : b.1 = "left" ∨ b.1 = "right") (ka : isKey a.2.c) (kb : isKey b.2.c) (h : orderOf f t a b = none) (h1 : f.low ≤ x) (h2 : x ≤ y) (h3 : y ≤ f.high) : partsAt f t a b (x, y) = false := by
  have hn : ∀ q ∈ pairsOf f, partsAt f t a b q = false := fun q hq => by
    have := List.find?_eq_none.mp h q hq
    exact Bool.eq_false_iff.mpr this
  by_cases w : f.high - f.low ≤ 24
  · refine hn _ (pairs_every ?_ ?_ h2)
    all_goals
      unfold everyH
      rw [if_pos w]
      exact rng_mem.mpr ⟨by omega, by omega⟩
  · rw [no_part]
    exact order_suff hf ht (by omega) ha hb ka kb (fun x y hx hy hh => no_part.mp (hn _ (pairs_every hx hy hh))) x y h1 h2 h3
end
end Sf

namespace Sf
open PySem PySem.Spec PyProof.Rows L2 Evl
section
variable {f : Fld} {t : Str} {a b : Str × Sg}
theorem k17_fok (h : FOk f) : FOk (Fld.mk 0 30 4 1 f.off f.ends f.big) ∧ (Fld.mk 0 30 4 1 f.off f.ends f.big).high - (Fld.mk 0 30 4 1 f.off f.ends f.big).low ≤ 40 := by
  refine ⟨?_, by dsimp only; omega⟩
  constructor <;> dsimp only <;> first | exact h.off | exact h.ends | exact h.g0 | exact h.g1 | decide
/-- all pairs, one by one -/
def rowBad (f : Fld) (t : Str) (a b : Str × Sg) (l : Int) : List (Int × Int) := ((rng l (f.high + 1 - l).toNat).map fun r => (l, r)).filter (partsAt f t a b)
def badP (f : Fld) (t : Str) (a b : Str × Sg) : List (Int × Int) := (rng f.low (f.high + 1 - f.low).toNat).flatMap (rowBad f t a b)
theorem parts_row {p : Int × Int} : partsAt f t a b p = !decide (tiedRow f t p [a, b] = tiedRow f t p [b, a]) := rfl
theorem k17_yes {A d : List (Int × Int)} {pre : List Int} {l r : Int} (h : (!decide (tiedRow f t (l, r) [a, b] = tiedRow f t (l, r) [b, a])) = true) (hd : d = A ++ (pre.map fun r => (l, r)).filter (partsAt f t a b)) : d ++ [(l, r)] = A ++ ((pre ++ [r]).map fun r => (l, r)).filter (partsAt f t a b) := by
  rw [List.map_append, List.filter_append, hd, List.append_assoc, List.map_cons, List.filter_cons, parts_row, if_pos h]
  rfl
theorem k17_no {A d : List (Int × Int)} {pre : List Int} {l r : Int} (h : (!decide (tiedRow f t (l, r) [a, b] = tiedRow f t (l, r) [b, a])) = false) (hd : d = A ++ (pre.map fun r => (l, r)).filter (partsAt f t a b)) : d = A ++ ((pre ++ [r]).map fun r => (l, r)).filter (partsAt f t a b) := by
  rw [List.map_append, List.filter_append, hd, List.map_cons, List.filter_cons, parts_row, if_neg (by rw [h]; exact Bool.false_ne_true)]
  simp
theorem k17_row {d : List (Int × Int)} {pre : List Int} {l : Int} (hd : d = pre.flatMap (rowBad f t a b) ++ ((rng l (f.high + 1 - l).toNat).map fun r => (l, r)).filter (partsAt f t a b)) : d = (pre ++ [l]).flatMap (rowBad f t a b) := by
  rw [List.flatMap_append, hd]
  simp only [List.flatMap_cons, List.flatMap_nil, List.append_nil]
  rfl
theorem k17_app {p : Int × Int → Bool} {pre post pre2 post2 : List Int} {d : List (Int × Int)} {y z : Int} (hx : rng f.low (f.high + 1 - f.low).toNat = pre ++ y :: post) (hx2 : rng y (f.high + 1 - y).toNat = pre2 ++ z :: post2) (hs : f.high - f.low ≤ 40) (hd : d = pre.flatMap (rowBad f t a b) ++ (pre2.map fun r => (y, r)).filter p) : d.length < 100000 := by
  have hin : ∀ x, x ∈ pre ++ y :: post → f.low ≤ x := fun x h => by
    rw [← hx] at h
    exact (rng_mem.mp h).1
  have h1 := flat_len (g := rowBad f t a b) (n := 41) (l := pre) fun x h => by
    unfold rowBad
    refine Nat.le_trans (List.length_filter_le ..) ?_
    rw [List.length_map, rng_len]
    have := hin x (List.mem_append_left _ h)
    omega
  have h2 := congrArg List.length hx
  have h3 := congrArg List.length hx2
  rw [rng_len, List.length_append, List.length_cons] at h2 h3
  have h4 := List.length_filter_le p (pre2.map fun r => (y, r))
  rw [List.length_map] at h4
  have h5 := hin y (List.mem_append_right _ (List.mem_cons_self ..))
  rw [hd, List.length_append]
  omega
theorem badP_mem {p : Int × Int} : p ∈ badP f t a b ↔ (f.low ≤ p.1 ∧ p.1 ≤ p.2 ∧ p.2 ≤ f.high) ∧ partsAt f t a b p = true := by
  obtain ⟨x, y⟩ := p
  unfold badP rowBad
  simp only [List.mem_flatMap, List.mem_filter, List.mem_map, rng_mem, Prod.mk.injEq]
  constructor
  · rintro ⟨l, hl, ⟨r, hr, rfl, rfl⟩, h⟩
    exact ⟨by omega, h⟩
  · rintro ⟨h1, h2⟩
    exact ⟨x, by omega, ⟨y, by omega, rfl, rfl⟩, h2⟩
theorem pairs_in (hf : FOk f) {p : Int × Int} (h : p ∈ pairsOf f) : f.low ≤ p.1 ∧ p.1 ≤ p.2 ∧ p.2 ≤ f.high := by
  obtain ⟨x, hx, h2⟩ := List.mem_flatMap.mp h
  obtain ⟨y, hy, rfl⟩ := List.mem_map.mp h2
  obtain ⟨hy1, hy2⟩ := List.mem_filter.mp hy
  have k1 := everyH_in hf.lh (sortU_mem.mp hx)
  have k2 : f.low ≤ y ∧ y ≤ f.high := by
    have := sortU_mem.mp hy1
    unfold someH at this
    split at this
    · exact everyH_in hf.lh this
    · rcases List.mem_append.mp this with z | z
      · exact everyH_in hf.lh z
      · exact blockH_in z
  have := of_decide_eq_true hy2
  exact ⟨k1.1, this, k2.2⟩
theorem order_mem (hf : FOk f) {p : Int × Int} (h : orderOf f t a b = some p) : p ∈ badP f t a b := by
  unfold orderOf at h
  exact badP_mem.mpr ⟨pairs_in hf (List.mem_of_find?_eq_some h), List.find?_some h⟩
/-- a press that may be told -/
def PrOk (a : Str × Sg) : Prop := (a.1 = "left" ∨ a.1 = "right") ∧ isKey a.2.c
theorem order_nil (hf : FOk f) (ht : isTie t) (ha : PrOk a) (hb : PrOk b) : (orderOf f t a b).isNone = decide (badP f t a b = []) := by
  rw [Bool.eq_iff_iff, decide_eq_true_eq, Option.isNone_iff_eq_none]
  constructor
  · intro h
    refine List.eq_nil_iff_forall_not_mem.mpr fun p hp => ?_
    obtain ⟨⟨h1, h2, h3⟩, h4⟩ := badP_mem.mp hp
    rw [order_all (x := p.1) (y := p.2) hf ht ha.1 hb.1 ha.2 hb.2 h h1 h2 h3] at h4
    cases h4
  · intro h
    cases e : orderOf f t a b with
    | none => rfl
    | some p =>
      have := order_mem hf e
      rw [h] at this
      cases this
theorem parts_symm {p : Int × Int} : partsAt f t a b p = partsAt f t b a p := by
  unfold partsAt
  rw [decide_eq_decide.mpr ⟨Eq.symm, Eq.symm⟩]
theorem order_symm : orderOf f t a b = orderOf f t b a := by
  unfold orderOf
  rw [show partsAt f t a b = partsAt f t b a from funext fun p => parts_symm]
theorem order_self : orderOf f t a a = none := orderOf_none fun q _ => by
  unfold partsAt
  rw [decide_eq_true rfl]
  rfl
end
/-- `not in` for pairs, with the instance that the printed text finds -/
theorem er_notInP {K : PySem.W.Frag} {σ : L2.St} {H : Hp} {ta tb : TE} {x : Int × Int} {xs : List (Int × Int)} (ha : ER K ta σ H x) (hb : ER K tb σ H xs) (gx : EqT.good x) (gy : ∀ y ∈ xs, EqT.good y) (hd : EqT.dep (Int × Int) ≤ 63) : ER K (tOp (rNotInD K) ta tb) σ H (!decide (x ∈ xs)) := by
  have h := er_notInD ha hb gx gy hd
  rw [decide_eq_decide.mpr (Iff.rfl : x ∈ xs ↔ x ∈ xs)] at h
  exact h
end Sf

namespace Sf
open PySem PySem.Spec PyProof.Rows L2 Evl
section
variable {f : Fld} {t : Str} {a b : Str × Sg}
theorem k18_fld {g : Int} (hf : FOk f) (h : ∃ x : Int, (0 ≤ x ∧ x < 2) ∧ g = 2 + x) : FOk (Fld.mk f.low f.high f.step f.base f.off f.ends g) ∧ (0 ≤ 4 * g * f.step ∧ 4 * g * f.step ≤ 12 * f.step) ∧ f.step = f.step := by
  obtain ⟨x, hx, rfl⟩ := h
  have s0 := hf.s0
  refine ⟨⟨hf.l0, hf.lh, hf.h1, hf.s0, hf.s1, hf.b0, hf.b1, hf.off, hf.ends, (by show 2 ≤ 2 + x; omega), (by show 2 + x ≤ 12; omega), hf.on⟩, ⟨Int.mul_nonneg (by omega) (by omega), Int.mul_le_mul_of_nonneg_right (by omega) (by omega)⟩, rfl⟩
theorem k18_pr {ks : List Sg} (hk : (ks.all fun k => decide (isKey k.c)) = true) (h : a.1 ∈ ([("left" : Str), ("right" : Str)] : List Str) ∧ a.2 ∈ ks) : PrOk a := by
  refine ⟨?_, of_decide_eq_true (List.all_eq_true.mp hk _ h.2)⟩
  have := h.1
  simp only [List.mem_cons, List.not_mem_nil, or_false] at this
  exact this
theorem k18_in (hf : FOk f) {p : Int × Int} (h : orderOf f t a b = some p) : (!((decide (f.low ≤ p.1)) && ((decide (p.1 ≤ p.2)) && (decide (p.2 ≤ f.high))))) = false := by
  obtain ⟨⟨h1, h2, h3⟩, _⟩ := badP_mem.mp (order_mem hf h)
  rw [decide_eq_true h1, decide_eq_true h2, decide_eq_true h3]
  rfl
theorem k18_part (hf : FOk f) {p : Int × Int} (h : orderOf f t a b = some p) : (decide (tiedRow f t p [a, b] = tiedRow f t p [b, a])) = false := by
  have h4 := (badP_mem.mp (order_mem hf h)).2
  rw [parts_row] at h4
  simpa using h4
theorem k18_none (hf : FOk f) (ht : isTie t) (ha : PrOk a) (hb : PrOk b) {x y : Int} (h1 : f.low ≤ x) (h2 : x ≤ y) (h3 : y ≤ f.high) : ((orderOf f t a b).isNone && (!decide (tiedRow f t (x, y) [a, b] = tiedRow f t (x, y) [b, a]))) = false := by
  cases e : orderOf f t a b with
  | some p => rfl
  | none =>
    have := order_all hf ht ha.1 hb.1 ha.2 hb.2 e h1 h2 h3
    rw [parts_row] at this
    rw [this]
    rfl
end
theorem nl_par {α β : Type} [Rep α] [Rep β] (K : PySem.W.Frag) {σ : L2.St} {H : Hp} {ta tb : TE} {D : Ends} {n m : Nat} {s1 s2 : V → V → L2.St} {P1 : α → Prop} {P2 : β → Prop} (h : EN K ta σ H P1) (h2 : ∀ H1, Ex H H1 → EN K tb σ H1 P2) (hs1 : ∀ v w, SetAt σ n v (s1 v w)) (hs2 : ∀ v w, SetAt (s1 v w) m w (s2 v w))
    (k : ∀ x y v w H1, P1 x → P2 y → Ex H H1 → Rep.rel K H1 v x → Rep.rel K H1 w y → D.nx (s2 v w) H1) : tPar n m (tCons ta (tCons tb tNil)) D σ H := h H (Ex.refl H) _ fun x v H1 p1 e r => h2 H1 e H1 (Ex.refl H1) _ fun y w H2 p2 e2 r2 => ⟨v, w, rfl, by
  show D.nx ((σ.set n (some v)).set m (some w)) H2
  rw [(hs1 v w).eq, (hs2 v w).eq]
  exact k x y v w H2 p1 p2 (e.trans e2) (Rep.mono e2 r) r2⟩
end Sf

namespace Sf
open PySem PySem.Spec PyProof.Rows L2 Evl
structure Top (K : PySem.W.Frag) (mg : Str → Option Value) : Prop where
  b_len : mg "len" = none
  b_abs : mg "abs" = none
  b_all : mg "all" = none
  b_any : mg "any" = none
  b_range : mg "range" = none
  b_int : mg "int" = none
  b_str : mg "str" = none
  b_tuple : mg "tuple" = none
  b_bool : mg "bool" = none
  b_isinstance : mg "isinstance" = none
  b_min : mg "min" = none
  b_max : mg "max" = none
  b_list : mg "list" = none
  b_sum : mg "sum" = none
  b_sorted : mg "sorted" = none
  b_set : mg "set" = none
  b_zip : mg "zip" = none
  b_enumerate : mg "enumerate" = none
  b_dict : mg "dict" = none
  g_MOST : ∃ t, mg "MOST" = some (.int 1000000000000 t)
  g_MOST_KEYS : ∃ t, mg "MOST_KEYS" = some (.int 40 t)
  g_KEYS : ∃ t, mg "KEYS" = some (.str "udUDhe" t)
  g_OFFS : ∃ a, mg "OFFS" = some (.ref a) ∧ ∀ H, SqT K H a [.str "add", .str "near", .str "next"]
  g_ENDS : ∃ a, mg "ENDS" = some (.ref a) ∧ ∀ H, SqT K H a [.str "round", .str "stay", .str "stop"]
  g_SIDES : ∃ a, mg "SIDES" = some (.ref a) ∧ ∀ H, SqT K H a [.str "left", .str "right"]
  g_TIES : ∃ a, mg "TIES" = some (.ref a) ∧ ∀ H, SqT K H a [.str "push", .str "refuse", .str "stop"]
  g_FEW : ∃ t, mg "FEW" = some (.int 24 t)
/-! the readings' own lines: ev (an expression), rl (what is known of a value), ex (heaps in a row), mc, dv (the sizes), pr (a premise) -/
local macro_rules | `(tactic| walk_at "ex") => `(tactic| first
  | assumption
  | exact Ex.refl _
  | (refine Ex.trans ?_ (by assumption); walk_at "ex"))
local macro_rules | `(tactic| walk_at "rl") => `(tactic| first
  | assumption
  | (refine Rep.mono ?_ (by assumption); walk_at "ex"))
local macro_rules | `(tactic| walk_at "mc") => `(tactic| first
  | exact Or.inl ⟨by omega, by omega⟩
  | exact Or.inr ⟨by omega, by omega⟩)
local macro_rules | `(tactic| walk_at "pr") => `(tactic| first
  | assumption
  | exact True.intro
  | (refine ⟨?_, ?_⟩ <;> walk_at "pr")
  | omega)
local macro_rules | `(tactic| walk_at "et") => `(tactic| first
  | ((with_reducible show @ET _ (tTest _) _ _ _); exact et_t (by walk_at "ev"))
  | ((with_reducible show @ET _ (tB _) _ _ _); exact et_b (by walk_at "ev"))
  | ((with_reducible show @ET _ (tAnd _ _) _ _ _); exact ett_and (by walk_at "et") (fun _ => by walk_at "et"))
  | ((with_reducible show @ET _ (tOr _ _) _ _ _); exact ett_or (by walk_at "et") (fun _ => by walk_at "et"))
  | ((with_reducible show @ET _ (tNot _) _ _ _); exact ett_not (by walk_at "et")))
local macro_rules | `(tactic| walk_at "evo") => `(tactic| first
  | ((with_reducible show @ER _ _ _ (tOp (rI0 fun i j => V.int (i + j)) _ _) _ _ _); exact er_add (by walk_at "ev") (by walk_at "ev"))
  | ((with_reducible show @ER _ _ _ (tOp (rI0 fun i j => V.int (i - j)) _ _) _ _ _); exact er_sub (by walk_at "ev") (by walk_at "ev"))
  | ((with_reducible show @ER _ _ _ (tOp (rI0 fun i j => V.bl (decide (i < j))) _ _) _ _ _); exact er_lt (by walk_at "ev") (by walk_at "ev"))
  | ((with_reducible show @ER _ _ _ (tOp (rI0 fun i j => V.bl (decide (i ≤ j))) _ _) _ _ _); exact er_le (by walk_at "ev") (by walk_at "ev"))
  | ((with_reducible show @ER _ _ _ (tOp (rI0 fun i j => V.bl (decide (j < i))) _ _) _ _ _); exact er_gt (by walk_at "ev") (by walk_at "ev"))
  | ((with_reducible show @ER _ _ _ (tOp (rI0 fun i j => V.bl (decide (j ≤ i))) _ _) _ _ _); exact er_ge (by walk_at "ev") (by walk_at "ev"))
  | ((with_reducible show @ER _ _ _ (tOp (rI CMul _) _ _) _ _ _); exact er_mul (by walk_at "ev") (by walk_at "ev") (by walk_at "mc"))
  | ((with_reducible show @ER _ _ _ (tOp (rI CDivW _) _ _) _ _ _); exact er_div (by walk_at "ev") (by walk_at "ev") (cdivw (by omega) (by omega)))
  | ((with_reducible show @ER _ _ _ (tOp (rI _ fun i j => V.int (i % j)) _ _) _ _ _); exact er_mod (by walk_at "ev") (by walk_at "ev") (by omega))
  | ((with_reducible show @ER _ _ _ (tOp (rI CPow _) _ _) _ _ _); exact er_pow (by walk_at "ev") (by walk_at "ev") (by decide))
  | ((with_reducible show @ER _ _ _ (tOp (rEq) _ _) _ _ _); first | exact er_eqI (by walk_at "ev") (by walk_at "ev") | exact er_eqS (by walk_at "ev") (by walk_at "ev") | exact er_eqB (by walk_at "ev") (by walk_at "ev"))
  | ((with_reducible show @ER _ _ _ (tOp (rNe) _ _) _ _ _); first | exact er_neI (by walk_at "ev") (by walk_at "ev") | exact er_neS (by walk_at "ev") (by walk_at "ev") | exact er_neB (by walk_at "ev") (by walk_at "ev"))
  | ((with_reducible show @ER _ _ _ (tOp (rIn _ false) _ _) _ _ _); first | exact er_inL (by walk_at "ev") (by walk_at "ev") | exact er_inT (by walk_at "ev") (by walk_at "ev"))
  | ((with_reducible show @ER _ _ _ (tOp (rIn _ true) _ _) _ _ _); exact er_ninL (by walk_at "ev") (by walk_at "ev"))
  | ((with_reducible show @ER _ _ _ (tOp (rNotInS) _ _) _ _ _); exact er_notInS (by walk_at "ev") (by walk_at "ev"))
  | ((with_reducible show @ER _ _ _ (tOp (rInS) _ _) _ _ _); exact er_inS (by walk_at "ev") (by walk_at "ev"))
  | ((with_reducible show @ER _ _ _ (tOp (rIxT _) _ (tC (V.int 0))) _ _ _); exact er_f0 (by walk_at "ev"))
  | ((with_reducible show @ER _ _ _ (tOp (rIxT _) _ (tC (V.int 1))) _ _ _); exact er_f1 (by walk_at "ev"))
  | ((with_reducible show @ER _ _ _ (tOp (rIxT _) _ (tC (V.int 2))) _ _ _); exact er_f2 (by walk_at "ev"))
  | ((with_reducible show @ER _ _ _ (tOp (rIxT _) _ (tC (V.int 3))) _ _ _); exact er_f3 (by walk_at "ev"))
  | ((with_reducible show @ER _ _ _ (tOp (rIxT _) _ (tC (V.int 4))) _ _ _); exact er_f4 (by walk_at "ev"))
  | ((with_reducible show @ER _ _ _ (tOp (rIxT _) _ (tC (V.int 5))) _ _ _); exact er_f5 (by walk_at "ev"))
  | ((with_reducible show @ER _ _ _ (tOp (rIxT _) _ (tC (V.int 6))) _ _ _); exact er_f6 (by walk_at "ev"))
  | ((with_reducible show @ER _ _ _ (tOp (rIxT _) _ (tC (V.int 0))) _ _ _); exact er_p0 (by walk_at "ev"))
  | ((with_reducible show @ER _ _ _ (tOp (rIxT _) _ (tC (V.int 1))) _ _ _); exact er_p1 (by walk_at "ev")))
local macro_rules | `(tactic| walk_at "nr") => `(tactic| first
  | (rw [between_enc (by omega)]; rfl)
  | (simp only [Bool.or_eq_false_iff, Bool.not_eq_false', Bool.not_eq_true', decide_eq_false_iff_not]; omega)
  | rfl)
local macro_rules | `(tactic| walk_at "sd") => `(tactic| first
  | assumption
  | exact True.intro
  | omega
  | exact FOk.fl (by assumption)
  | exact FOk.withEnds (by first | assumption | (constructor <;> decide)) (by first | assumption | decide)
  | exact FOk.withOff (by first | assumption | (constructor <;> decide)) (by first | assumption | decide)
  | exact FOk.withBoth (by first | assumption | (constructor <;> decide)) (by first | assumption | decide) (by first | assumption | decide)
  | exact FOk.litOff (by constructor <;> decide) (by assumption)
  | exact FOk.litEnds (by constructor <;> decide) (by assumption)
  | (show FOk _; constructor <;> decide)
  | exact rowOkB_ok (by decide)
  | (refine And.intro ?_ ?_ <;> walk_at "sd")
  | decide
  | (dsimp only; omega)
  | (intro _ _; walk_at "sd"))
local macro_rules | `(tactic| walk_at "ea") => `(tactic| first | exact eas_nil | exact eas_cons (by walk_at "ev") (by walk_at "ea"))
local macro_rules | `(tactic| walk_at "ev") => `(tactic| first
  | ((with_reducible show @ER _ _ _ (tVar _) _ _ _); first | exact er_varI rfl | exact er_varB rfl | exact er_varS rfl | exact er_var rfl (by walk_at "rl") | exact er_sg (er_var rfl (by walk_at "rl")))
  | ((with_reducible show @ER _ _ _ (tC _) _ _ _); first | exact er_int | exact er_str | exact er_bl | exact er_ref (by walk_at "rl"))
  | ((with_reducible show @ER _ _ _ (tOp _ _ _) _ _ _); walk_at "evo")
  | ((with_reducible show @ER _ _ _ (tUn _ _) _ _ _); exact er_neg (by walk_at "ev"))
  | ((with_reducible show @ER _ _ _ (tChain _ _ _ _ _) _ _ _); exact er_chain (by walk_at "ev") (by walk_at "ev") (by walk_at "ev"))
  | ((with_reducible show @ER _ _ _ (tCall _ _ _ (tCons _ tNil)) _ _ _); exact er_call1 (by walk_at "ev") (by walk_at "pr"))
  | ((with_reducible show @ER _ _ _ (tCall _ _ _ (tCons _ (tCons _ tNil))) _ _ _); exact er_call2 (by walk_at "ev") (by walk_at "ev") (by walk_at "pr"))
  | ((with_reducible show @ER _ _ _ (tCall _ _ _ (tCons _ (tCons _ (tCons _ tNil)))) _ _ _); exact er_call3 (by walk_at "ev") (by walk_at "ev") (by walk_at "ev") (by walk_at "pr"))
  | ((with_reducible show @ER _ _ _ (tCall _ _ _ (tCons _ (tCons _ (tCons _ (tCons _ tNil))))) _ _ _); exact er_call4 (by walk_at "ev") (by walk_at "ev") (by walk_at "ev") (by walk_at "ev") (by walk_at "pr"))
  | ((with_reducible show @ER _ _ _ (tAndV _ _) _ _ _); exact er_and (by walk_at "ev") (fun _ => by walk_at "ev"))
  | ((with_reducible show @ER _ _ _ (tOrV _ _) _ _ _); exact er_or (by walk_at "ev") (fun _ => by walk_at "ev"))
  | ((with_reducible show @ER _ _ _ (tNotV _) _ _ _); exact er_not (by walk_at "ev"))
  | ((with_reducible show @ER _ _ _ (tIf _ _ _) _ _ _); exact er_if (by walk_at "et") (fun _ => by walk_at "ev") (fun _ => by walk_at "ev"))
  | ((with_reducible show @ER _ _ _ (tTup (tCons _ (tCons _ tNil))) _ _ _); exact er_tup2 (by walk_at "ev") (by walk_at "ev"))
  | ((with_reducible show @ER _ _ _ (tTup (tCons _ (tCons _ (tCons _ tNil)))) _ _ _); exact er_tup3 (by walk_at "ev") (by walk_at "ev") (by walk_at "ev"))
  | ((with_reducible show @ER _ _ _ (tCB rAbs _) _ _ _); exact er_abs (by walk_at "ev"))
  | ((with_reducible show @ER _ _ _ (tCB rMax2' _) _ _ _); exact er_max2 (by walk_at "ev") (by walk_at "ev"))
  | ((with_reducible show @ER _ _ _ (tCB rMin2' _) _ _ _); exact er_min2 (by walk_at "ev") (by walk_at "ev"))
  | ((with_reducible show @ER _ _ _ (tCB rInt1 _) _ _ _); first | exact er_int1 (by walk_at "ev") | exact er_intB (by walk_at "ev"))
  | ((with_reducible show @ER _ _ _ (tCB (rAll _) _) _ _ _); exact er_all (by walk_at "ev"))
  | ((with_reducible show @ER _ _ _ (tCB (rAny _) _) _ _ _); exact er_any (by walk_at "ev"))
  | ((with_reducible show @ER _ _ _ (tCB (rSum _) _) _ _ _); exact er_sum (by walk_at "ev"))
  | ((with_reducible show @ER _ _ _ (tCB (rLenQ _) _) _ _ _); first | exact er_lenL (by walk_at "ev") | exact er_lenT (by walk_at "ev"))
  | ((with_reducible show @ER _ _ _ (tLst _) _ _ _); exact er_lst (by walk_at "ea") (Nat.le_of_ble_eq_true rfl))
  | ((with_reducible show @ER _ _ _ (tTup (tCons _ (tCons _ (tCons _ (tCons _ (tCons _ (tCons _ (tCons _ tNil)))))))) _ _ _); exact er_mkF (by walk_at "ev") (by walk_at "ev") (by walk_at "ev") (by walk_at "ev") (by walk_at "ev") (by walk_at "ev") (by walk_at "ev")))
theorem sc_L_source : FnScope ["_law_script", "_law_index", "_law_cell"] ["_law_script", "_law_index"] (defScope s_L_source) := ⟨rfl, rfl, rfl, by decide +kernel, rfl, by decide +kernel, by decide +kernel⟩
abbrev SP_L_source (K : PySem.W.Frag) : Sp := SP_source K
theorem ok_L_source {P : Program} {w : World} {K : PySem.W.Frag} {mg : Str → Option Value} {base : Heap} (T : Top K mg) {f : Addr} {fd : FuncData} (F : FnP K "_law_source" s_L_source f fd) : FnOk P w K mg base CX0 1 f fd ["_law_script", "_law_index"] (SP_L_source K) := by
  refine source_of (F.ok sc_L_source (sp := spSource K) ?_ (fun cdv A outer s H vs Q E hr hs => ?_))
  · rintro vs H Q E ⟨a, ns, n, rfl, _⟩
    rfl
  obtain ⟨a, ns, n, rfl, hs, n0, n1, q⟩ := hs
  refine ⟨_, PSs.nox (pss_cons (ps_set (i := 2) sc_L_source.nd rfl (.inl rfl) pe_int)
      (pss_cons (ps_if (pt_cmpR op_lt (pv 1) (pe_callB call_len_seq (by rfl) T.b_len (by decide +kernel) (pa_cons (pv 0) pa_nil)) (nomark _)) (pss_one (ps_set (i := 2) sc_L_source.nd rfl (.inl rfl) (pe_callB call_abs (by rfl) T.b_abs (by decide +kernel) (pa_cons (pe_ix ix_list (pv 0) (pv 1) (fun _ _ => rfl)) pa_nil)))) pss_nil)
      (pss_cons (ps_if (pt_cmpR op_lt (pv 2) (pe_op op_pow pe_int pe_int) (nomark _)) (pss_one (ps_ret (pe_lst (pa_cons pe_int (pa_cons (pe_op op_add pe_int (pe_op op_mod (pe_callTy call_int1 (by rfl) T.b_int (by decide +kernel) (pa_cons (pe_op op_add (pe_op op_mul (pv 2) pe_int) (pe_op op_mul pe_int (pv 1))) pa_nil)) pe_int)) pa_nil))))) pss_nil)
      (pss_one (ps_ret (pe_lst (pa_cons (pv 2) (pa_cons (pe_op op_add pe_int (pe_op op_mod (pe_callTy call_int1 (by rfl) T.b_int (by decide +kernel) (pa_cons (pe_op op_add (pv 2) (pv 1)) pa_nil)) pe_int)) pa_nil)))))))), ?_⟩
  show (_ : TS) _ [some (V.ref a), some (V.int n), none] H
  have hpow : ((10 : Int) ^ (18 : Int).toNat) = 1000000000000000000 := by decide
  have fin : ∀ (c : Int) H', Ex H H' → (tSeq (tIfS (tTest (tOp (rI0 fun i j => .bl (decide (i < j))) (tVar 2) (tOp (rI CPow fun i j => .int (i ^ j.toNat)) (tC (.int 10)) (tC (.int 18)))))
      (tRet (tLst (tCons (tC (.int 0)) (tCons (tOp (rI0 fun i j => .int (i + j)) (tC (.int 1)) (tOp (rI (fun _ j => 0 < j) fun i j => .int (i % j)) (tCB rInt1 (tCons (tOp (rI0 fun i j => .int (i + j)) (tOp (rI CMul fun i j => .int (i * j)) (tVar 2) (tC (.int 7919))) (tOp (rI CMul fun i j => .int (i * j)) (tC (.int 104729)) (tVar 1))) tNil)) (tC (.int 2147483646)))) tNil)))) tNext)
      (tRet (tLst (tCons (tVar 2) (tCons (tOp (rI0 fun i j => .int (i + j)) (tC (.int 1)) (tOp (rI (fun _ j => 0 < j) fun i j => .int (i % j)) (tCB rInt1 (tCons (tOp (rI0 fun i j => .int (i + j)) (tVar 2) (tVar 1)) tNil)) (tC (.int 2147483646)))) tNil))))) ({ nx := fun _ H' => Q .non H', rt := Q } : Ends) [some (V.ref a), some (V.int n), some (V.int c)] H' := by
    intro c H' e
    have m0 : ∀ z : Int, 0 ≤ 1 + z % 2147483646 ∧ 1 + z % 2147483646 < 2147483647 := fun z => by
      have h1 := Int.emod_nonneg z (show (2147483646 : Int) ≠ 0 by decide)
      have h2 := Int.emod_lt_of_pos z (show (0 : Int) < 2147483646 by decide)
      omega
    refine q_if0 K (et_t (er_lt (er_varI rfl) (er_powc ⟨by decide, by decide, by decide⟩ hpow))) (fun c1 H1 e1 => ?_) (fun c1 H1 e1 => ?_)
    · have ev : ER K (tOp (rI0 fun i j => .int (i + j)) (tC (.int 1)) (tOp (rI (fun _ j => 0 < j) fun i j => .int (i % j)) (tCB rInt1 (tCons (tOp (rI0 fun i j => .int (i + j)) (tOp (rI CMul fun i j => .int (i * j)) (tVar 2) (tC (.int 7919))) (tOp (rI CMul fun i j => .int (i * j)) (tC (.int 104729)) (tVar 1))) tNil)) (tC (.int 2147483646)))) [some (V.ref a), some (V.int n), some (V.int c)] H1 (1 + (c * 7919 + 104729 * n) % 2147483646) :=
        er_add er_int (er_mod (er_int1 (er_add (er_mul (er_varI rfl) er_int (.inr ⟨by decide, by decide⟩)) (er_mul er_int (er_varI rfl) (.inl ⟨by decide, by decide⟩)))) er_int (by decide))
      refine ev H1 (Ex.refl _) _ fun v H2 e2 r => ?_
      cases r
      refine ⟨sz_of (by show 2 ≤ 100000; decide), fun p hp => q p 0 _ _ (fresh_back ((e.trans e1).trans e2) hp) (((e.trans e1).trans e2).trans (Ex.new hp)) (m0 _).1 (m0 _).2 upd_same⟩
    · refine ⟨_, rfl, ?_⟩
      have ev : ER K (tOp (rI0 fun i j => .int (i + j)) (tC (.int 1)) (tOp (rI (fun _ j => 0 < j) fun i j => .int (i % j)) (tCB rInt1 (tCons (tOp (rI0 fun i j => .int (i + j)) (tVar 2) (tVar 1)) tNil)) (tC (.int 2147483646)))) [some (V.ref a), some (V.int n), some (V.int c)] H1 (1 + (c + n) % 2147483646) :=
        er_add er_int (er_mod (er_int1 (er_add (er_varI rfl) (er_varI rfl))) er_int (by decide))
      refine ev H1 (Ex.refl _) _ fun v H2 e2 r => ?_
      cases r
      refine ⟨sz_of (by show 2 ≤ 100000; decide), fun p hp => q p c _ _ (fresh_back ((e.trans e1).trans e2) hp) (((e.trans e1).trans e2).trans (Ex.new hp)) (m0 _).1 (m0 _).2 upd_same⟩
  refine q_setI K er_int (fun _ => .s (.s .z)) (fun H1 e1 => ?_)
  have hl : ER K (tCB (rLenQ K) (tCons (tVar 0) tNil)) [some (V.ref a), some (V.int n), some (V.int 0)] H1 (ns.length : Int) := fun H2 e2 Q q => ⟨.ref a, rfl, a, ns.map V.int, rfl, .inl (ex_l (e1.trans e2) hs), by
    rw [List.length_map]
    exact q _ H2 (Ex.refl _) rfl⟩
  refine q_if0 K (et_t (er_lt (er_varI rfl) hl)) (fun c1 H2 e2 => ?_) (fun c1 H2 e2 => fin 0 H2 (e1.trans e2))
  have hlt : n.toNat < ns.length := by
    simp only [decide_eq_true_eq] at c1
    omega
  have hat : atI (ns.map V.int) n = some (.int ns[n.toNat]) := by
    refine at_of (show n = (n.toNat : Int) by omega) ?_
    rw [List.getElem?_map, List.getElem?_eq_getElem hlt]
    rfl
  have hx : ER K (tOp (rIxL K) (tVar 0) (tVar 1)) [some (V.ref a), some (V.int n), some (V.int 0)] H2 (ns[n.toNat]) := fun H3 e3 Q q => ⟨.ref a, rfl, .int n, rfl, a, _, n, _, rfl, rfl, ex_l ((e1.trans e2).trans e3) hs, hat, q _ H3 (Ex.refl _) rfl⟩
  refine l_set (α := Int) K (er_abs hx) (fun _ => .s (.s .z)) (fun v H3 e3 r => ?_)
  cases r
  exact fin _ H3 ((e1.trans e2).trans e3)
theorem sc_grid_of : FnScope ["field", "low", "high", "step", "base"] ["field"] (defScope s_grid_of) := ⟨rfl, rfl, rfl, by decide +kernel, rfl, by decide +kernel, by decide +kernel⟩
abbrev SP_grid_of (K : PySem.W.Frag) : Sp := sp1 (α := Fld) (δ := (Int × Int)) K (FL) (gridOf)
theorem ok_grid_of {P : Program} {w : World} {K : PySem.W.Frag} {mg : Str → Option Value} {base : Heap} (T : Top K mg) {f : Addr} {fd : FuncData} (F : FnP K "grid_of" s_grid_of f fd) : FnOk P w K mg base CX0 1 f fd ["field"] (SP_grid_of K) := by
  refine ok1 F sc_grid_of rfl (fun x0 => [some x0, none, none, none, none]) (fun _ => rfl) (fun H Q x0 a0 h0 hp q cdv A outer s E hr => ⟨_, PSs.nox (pss_cons (ps_asg (pe_slice sl_tup (pv 0) po_none (po_some pe_int)) (pg_tup rfl (pgs_cons (pg_name (i := 1) sc_grid_of.nd rfl (.inl rfl)) (pgs_cons (pg_name (i := 2) sc_grid_of.nd rfl (.inl rfl)) (pgs_cons (pg_name (i := 3) sc_grid_of.nd rfl (.inl rfl)) (pgs_cons (pg_name (i := 4) sc_grid_of.nd rfl (.inl rfl)) pgs_nil))))))
      (pss_one (ps_ret (pe_tup (pa_cons (pe_op op_sub (pv 4) (pe_op op_mul (pe_op op_fdivW (pe_op op_sub (pv 4) (pv 1)) (pv 3)) (pv 3))) (pa_cons (pe_op op_add (pv 4) (pe_op op_mul (pe_op op_fdivW (pe_op op_sub (pv 2) (pv 4)) (pv 3)) (pv 3))) pa_nil)))))), ?_⟩)
  obtain ⟨l0, lh, hh1, s0, s1, b0, b1⟩ := hp
  refine q_unp (lo := none) (hi := (some 4)) (by walk_at "ev") (fun _ _ h => h) (fun _ _ h => ⟨4, rfl, h⟩) (by decide) rfl rfl (fun H1 e1 => ?_)
  refine (g_cons (.s .z) (g_cons (.s (.s .z)) (g_cons (.s (.s (.s .z))) (g_cons (.s (.s (.s (.s .z)))) (g_nil ?_)))))
  refine l_ret (α := (Int × Int)) K (by walk_at "ev") (fun v2 H2 e2 r2 => ?_)
  refine q v2 H2 (by walk_at "ex") ?_
  refine (congrArg (Rep.rel K H2 v2) ?_).mp r2
  rfl
theorem sc_is_word : FnScope ["thing", "words"] ["thing", "words"] (defScope s_is_word) := ⟨rfl, rfl, rfl, by decide +kernel, rfl, by decide +kernel, by decide +kernel⟩
abbrev SP_is_word (K : PySem.W.Frag) : Sp := sp2 (α := PyData) (β := (Tpl Str)) (δ := Bool) K (fun _ _ => True) (isWord)
theorem ok_is_word {P : Program} {w : World} {K : PySem.W.Frag} {mg : Str → Option Value} {base : Heap} (T : Top K mg) {f : Addr} {fd : FuncData} (F : FnP K "is_word" s_is_word f fd) : FnOk P w K mg base CX0 1 f fd ["thing", "words"] (SP_is_word K) := by
  refine ok2 F sc_is_word rfl (fun x0 x1 => [some x0, some x1]) (fun _ _ => rfl) (fun H Q x0 x1 a0 a1 h0 h1 hp q cdv A outer s E hr => ⟨_, PSs.nox (pss_one (ps_ret (pe_and (pe_callB call_isi (by rfl) T.b_isinstance (by decide +kernel) (pa_cons (pv 0) (pa_cons (pe_bltn (v := .ty "str") (by rfl) T.b_str (by decide +kernel) rfl) pa_nil))) (pe_one (pe_cmpR op_in_seq (pv 0) (pv 1) rfl))))), ?_⟩)
  cases a0 with
  | str s =>
    cases h0
    refine l_ret (α := Bool) K (er_and (er_isi (er_enc (α := Str) (by walk_at "ev")) rfl) (fun _ => er_inT (by walk_at "ev") (er_var rfl h1))) (fun v H1 e1 r => ?_)
    exact q v H1 e1 r
  | _ => exact l_ret (α := Bool) K (er_and (b := false) (er_isi (er_var rfl h0) rfl) (fun z => (by cases z))) (fun v H1 e1 r => q v H1 e1 r)
theorem sc_is_between : FnScope ["thing", "low", "high"] ["thing", "low", "high"] (defScope s_is_between) := ⟨rfl, rfl, rfl, by decide +kernel, rfl, by decide +kernel, by decide +kernel⟩
abbrev SP_is_between (K : PySem.W.Frag) : Sp := sp3 (α := PyData) (β := Int) (γ := Int) (δ := Bool) K (fun _ _ _ => True) (isBetween)
theorem ok_is_between {P : Program} {w : World} {K : PySem.W.Frag} {mg : Str → Option Value} {base : Heap} (T : Top K mg) {f : Addr} {fd : FuncData} (F : FnP K "is_between" s_is_between f fd) : FnOk P w K mg base CX0 1 f fd ["thing", "low", "high"] (SP_is_between K) := by
  refine ok3 F sc_is_between rfl (fun x0 x1 x2 => [some x0, some x1, some x2]) (fun _ _ _ => rfl) (fun H Q x0 x1 x2 a0 a1 a2 h0 h1 h2 hp q cdv A outer s E hr => ⟨_, PSs.nox (pss_one (ps_ret (pe_and (pe_callB call_isi (by rfl) T.b_isinstance (by decide +kernel) (pa_cons (pv 0) (pa_cons (pe_bltn (v := .ty "int") (by rfl) T.b_int (by decide +kernel) rfl) pa_nil))) (pe_and (pe_not (pe_callB call_isi (by rfl) T.b_isinstance (by decide +kernel) (pa_cons (pv 0) (pa_cons (pe_bltn (v := .ty "bool") (by rfl) T.b_bool (by decide +kernel) rfl) pa_nil)))) (pe_one (pe_chain op_le op_le (pv 1) (pv 0) (pv 2))))))), ?_⟩)
  cases h1
  cases h2
  cases a0 with
  | int i =>
    cases h0
    refine l_ret (α := Bool) K (er_and (er_isi (er_enc (α := Int) (by walk_at "ev")) rfl) (fun _ => er_and (er_not (er_isi (er_enc (α := Int) (by walk_at "ev")) rfl)) (fun _ => by walk_at "ev"))) (fun v H1 e1 r => ?_)
    exact q v H1 e1 r
  | bool b =>
    exact l_ret (α := Bool) K (er_and (er_isi (er_var rfl h0) rfl) (fun _ => er_and (b := false) (er_not (er_isi (er_var rfl h0) rfl)) (fun z => (by cases z)))) (fun v H1 e1 r => q v H1 e1 r)
  | _ => exact l_ret (α := Bool) K (er_and (b := false) (er_isi (er_var rfl h0) rfl) (fun z => (by cases z))) (fun v H1 e1 r => q v H1 e1 r)
theorem sc_is_field : FnScope ["thing", "first", "last", "part"] ["thing"] (defScope s_is_field) := ⟨rfl, rfl, rfl, by decide +kernel, rfl, by decide +kernel, by decide +kernel⟩
abbrev SP_is_field (K : PySem.W.Frag) : Sp := sp1 (α := PyData) (δ := Bool) K (fun _ => True) (isField)
theorem ok_is_field {P : Program} {w : World} {K : PySem.W.Frag} {mg : Str → Option Value} {base : Heap} (T : Top K mg) {f_is_between : Addr} {fd_is_between : FuncData} (C_is_between : Cal P w K mg base CX0 1 "is_between" ["thing", "low", "high"] (SP_is_between K) f_is_between fd_is_between) {f_is_word : Addr} {fd_is_word : FuncData} (C_is_word : Cal P w K mg base CX0 1 "is_word" ["thing", "words"] (SP_is_word K) f_is_word fd_is_word) {f_grid_of : Addr} {fd_grid_of : FuncData} (C_grid_of : Cal P w K mg base CX0 1 "grid_of" ["field"] (SP_grid_of K) f_grid_of fd_grid_of) {f : Addr} {fd : FuncData} (F : FnP K "is_field" s_is_field f fd) : FnOk P w K mg base CX0 2 f fd ["thing"] (SP_is_field K) := by
  obtain ⟨ad_ENDS, g_ENDS, tp_ENDS⟩ := T.g_ENDS
  obtain ⟨tk_MOST, g_MOST⟩ := T.g_MOST
  obtain ⟨ad_OFFS, g_OFFS, tp_OFFS⟩ := T.g_OFFS
  refine ok1 F sc_is_field rfl (fun x0 => [some x0, none, none, none]) (fun _ => rfl) (fun H Q x0 a0 h0 hp q cdv A outer s E hr => ⟨_, PSs.nox (pss_cons (ps_if (PW.pt (pw_or (pt_not (pt_val (pe_callB call_isi (by rfl) T.b_isinstance (by decide +kernel) (pa_cons (pv 0) (pa_cons (pe_bltn (v := .ty "tuple") (by rfl) T.b_tuple (by decide +kernel) rfl) pa_nil))))) (pw_or1 (pt_cmpR op_ne (pe_callB call_len_seq (by rfl) T.b_len (by decide +kernel) (pa_cons (pv 0) pa_nil)) pe_int (nomark _))))) (pss_one (ps_ret pe_bl)) pss_nil)
      (pss_cons (ps_if (PW.pt (pw_or (pt_not (pt_val (pe_callB (cr_all rfl) (by rfl) T.b_all (by decide +kernel) (pa_cons (pe_lc (own := [("part", 3)]) (g := gName 3) (tt := tYes)  rfl sc_is_field.nd (pi_tup (pe_slice sl_tup (pv 0) po_none (po_some pe_int))) (blkOk_by (own := [("part", 3)]) (N := ["thing", "first", "last", "part"]) (sc := defScope s_is_field) (by decide +kernel)) (fun _ _ _ _ _ => (pg_name (i := 3) sc_is_field.nd rfl (.inl rfl))) (fun _ _ _ _ _ => pts_nil) (fun _ _ _ _ _ => (pe_call C_is_between.ok (hr.mono (by decide)) (by rfl) C_is_between.mg C_is_between.kp C_is_between.bd .nil pass0 (pa_cons (pv 3) (pa_cons (pe_un un_neg (pe_glob (v := .int 1000000000000) (by rfl) g_MOST ⟨_, rfl⟩)) (pa_cons (pe_glob (v := .int 1000000000000) (by rfl) g_MOST ⟨_, rfl⟩) pa_nil)))))) pa_nil)))) (pw_or (pt_cmpR op_ge (pe_ix ix_tup (pv 0) pe_int (fun _ _ => rfl)) (pe_ix ix_tup (pv 0) pe_int (fun _ _ => rfl)) (nomark _)) (pw_or1 (pt_cmpR op_lt (pe_ix ix_tup (pv 0) pe_int (fun _ _ => rfl)) pe_int (nomark _)))))) (pss_one (ps_ret pe_bl)) pss_nil)
      (pss_cons (ps_if (PW.pt (pw_or (pt_not (pt_val (pe_call C_is_word.ok (hr.mono (by decide)) (by rfl) C_is_word.mg C_is_word.kp C_is_word.bd .nil pass0 (pa_cons (pe_ix ix_tup (pv 0) pe_int (fun _ _ => rfl)) (pa_cons (pe_glob (v := .ref ad_OFFS) (by rfl) g_OFFS rfl) pa_nil))))) (pw_or (pt_not (pt_val (pe_call C_is_word.ok (hr.mono (by decide)) (by rfl) C_is_word.mg C_is_word.kp C_is_word.bd .nil pass0 (pa_cons (pe_ix ix_tup (pv 0) pe_int (fun _ _ => rfl)) (pa_cons (pe_glob (v := .ref ad_ENDS) (by rfl) g_ENDS rfl) pa_nil))))) (pw_or1 (pt_not (pt_val (pe_call C_is_between.ok (hr.mono (by decide)) (by rfl) C_is_between.mg C_is_between.kp C_is_between.bd .nil pass0 (pa_cons (pe_ix ix_tup (pv 0) pe_int (fun _ _ => rfl)) (pa_cons pe_int (pa_cons pe_int pa_nil)))))))))) (pss_one (ps_ret pe_bl)) pss_nil)
      (pss_cons (ps_asg (pe_call C_grid_of.ok (hr.mono (by decide)) (by rfl) C_grid_of.mg C_grid_of.kp C_grid_of.bd .nil pass0 (pa_cons (pv 0) pa_nil)) (pg_tup rfl (pgs_cons (pg_name (i := 1) sc_is_field.nd rfl (.inl rfl)) (pgs_cons (pg_name (i := 2) sc_is_field.nd rfl (.inl rfl)) pgs_nil))))
      (pss_one (ps_ret (pe_cmpR op_le (pv 1) (pv 2) (nomark _)))))))), ?_⟩)
  cases a0 with
  | tuple ds =>
    cases h0 with
    | @tup p vs _ hs hr0 =>
    have rT : Rep.rel K H (.ref p) (Tpl.mk ds) := ⟨p, vs, rfl, hs, dpAll_rels hr0⟩
    have rD : Rep.rel K H (.ref p) (PyData.tuple ds) := .tup hs hr0
    refine q_if0 K (ett_or (ett_not (et_b (er_isi (er_var rfl rD) rfl))) (fun _ => et_t (er_neI (er_lenT (er_var rfl rT)) er_int))) (fun c1 H1 e1 => ?_) (fun c1 H1 e1 => ?_)
    · refine l_ret (α := Bool) K er_bl (fun v H2 e2 r => q v H2 (e1.trans e2) ?_)
      have hn : ds.length ≠ 7 := by
        simp at c1
        exact fun h => c1 (by omega)
      rw [isField_len hn]
      exact r
    have hn : ds.length = 7 := by
      simp at c1
      omega
    obtain ⟨d0, d1, d2, d3, d4, d5, d6, rfl⟩ : ∃ d0 d1 d2 d3 d4 d5 d6, ds = [d0, d1, d2, d3, d4, d5, d6] := len7 hn
    have hlc : ER K (tLc (iTup K (tSl (rSlT K) (tVar 0) tNoPart (tPart (tC (.int 4))))) (gName 3) tYes (tCall (SP_is_between K) [] E0 (tCons (tVar 3) (tCons (tUn (rU fun i => .int (-i)) (tC (.int 1000000000000))) (tCons (tC (.int 1000000000000)) tNil)))) [3]) [some (.ref p), none, none, none] H1 ([d0, d1, d2, d3].map fun d => isBetween d (-1000000000000) 1000000000000) := by
      refine er_lcY _ (wk_tup (er_slT none (some 4) (er_var rfl (Rep.mono e1 rT)) (fun _ _ h => h) (fun _ _ h => ⟨4, rfl, h⟩) (show ¬ ((0 : Nat) = 0 ∧ (4 : Nat) = 7) by decide) rfl)) (Nat.le_of_ble_eq_true rfl) ?_
      intro d v H2 hd e2 r Q' q'
      exact gn_ok (s1 := fun v => [some (.ref p), none, none, some v]) rfl (.s (.s (.s .z))) rfl (fun hw => q' _ H2 (Ex.refl _) hw (er_call3 (er_var rfl r) (er_neg er_int) er_int trivial))
    by_cases hb : isBetween d0 (-1000000000000) 1000000000000 = true ∧ isBetween d1 (-1000000000000) 1000000000000 = true ∧ isBetween d2 (-1000000000000) 1000000000000 = true ∧ isBetween d3 (-1000000000000) 1000000000000 = true
    · obtain ⟨b0, b1, b2, b3⟩ := hb
      obtain ⟨low, rfl, l0, l1⟩ := isBetween_int b0
      obtain ⟨high, rfl, h0, h1⟩ := isBetween_int b1
      obtain ⟨step, rfl, s0, s1⟩ := isBetween_int b2
      obtain ⟨bas, rfl, bs0, bs1⟩ := isBetween_int b3
      cases hr0 with
      | cons z0 hr1 =>
      cases hr1 with
      | cons z1 hr2 =>
      cases hr2 with
      | cons z2 hr3 =>
      cases hr3 with
      | cons z3 hr4 =>
      cases hr4 with
      | cons z4 hr5 =>
      cases hr5 with
      | cons z5 hr6 =>
      cases hr6 with
      | cons z6 hr7 =>
      cases hr7
      cases z0
      cases z1
      cases z2
      cases z3
      rename_i v4 v5 v6
      have hs1 := ex_t e1 hs
      refine q_if0 K (b := !true || (decide (high ≤ low) || decide (step < 1))) (ett_or (ett_not (et_b (er_is (er_all hlc) (by simp only [List.map, List.all, id, b0, b1, b2, b3]; rfl)))) (fun _ => ett_or (et_t (er_ge (er_ixq rfl hs1 rfl rfl) (er_ixq rfl hs1 rfl rfl))) (fun _ => et_t (er_lt (er_ixq rfl hs1 rfl rfl) er_int)))) (fun c2 H2 e2 => ?_) (fun c2 H2 e2 => ?_)
      · refine l_ret (α := Bool) K er_bl (fun v H3 e3 r => q v H3 (e1.trans (e2.trans e3)) ?_)
        refine (congrArg (Rep.rel K H3 v) ?_).mp r
        symm
        simp at c2
        exact isField_no (by omega)
      have c2' : low < high ∧ 1 ≤ step := by
        simp at c2
        omega
      have hs2 := ex_t e2 hs1
      have eqT : ER K (tCall (SP_is_word K) [] E0 (tCons (tOp (rIxT K) (tVar 0) (tC (.int 4))) (tCons (tC (.ref ad_OFFS)) tNil))) [some (.ref p), none, none, none] H2 (isWord d4 (Tpl.mk ["add", "near", "next"])) :=
        er_call2 (er_ixq rfl hs2 rfl (Rep.mono (e1.trans e2) (show Rep.rel K H v4 d4 from z4))) (er_ref (rel_texts tp_OFFS)) trivial
      have eqE : ER K (tCall (SP_is_word K) [] E0 (tCons (tOp (rIxT K) (tVar 0) (tC (.int 5))) (tCons (tC (.ref ad_ENDS)) tNil))) [some (.ref p), none, none, none] H2 (isWord d5 (Tpl.mk ["round", "stay", "stop"])) :=
        er_call2 (er_ixq rfl hs2 rfl (Rep.mono (e1.trans e2) (show Rep.rel K H v5 d5 from z5))) (er_ref (rel_texts tp_ENDS)) trivial
      have eqB : ER K (tCall (SP_is_between K) [] E0 (tCons (tOp (rIxT K) (tVar 0) (tC (.int 6))) (tCons (tC (.int 2)) (tCons (tC (.int 12)) tNil)))) [some (.ref p), none, none, none] H2 (isBetween d6 2 12) :=
        er_call3 (er_ixq rfl hs2 rfl (Rep.mono (e1.trans e2) (show Rep.rel K H v6 d6 from z6))) er_int er_int trivial
      refine q_if0 K (ett_or (ett_not (et_b eqT)) (fun _ => ett_or (ett_not (et_b eqE)) (fun _ => ett_not (et_b eqB)))) (fun c3 H3 e3 => ?_) (fun c3 H3 e3 => ?_)
      · refine l_ret (α := Bool) K er_bl (fun v H4 e4 r => q v H4 (e1.trans (e2.trans (e3.trans e4))) ?_)
        refine (congrArg (Rep.rel K H4 v) ?_).mp r
        symm
        simp only [Bool.or_eq_true, Bool.not_eq_true'] at c3
        exact isField_words c3
      simp only [Bool.or_eq_false_iff, Bool.not_eq_false'] at c3
      obtain ⟨c4, c5, c6⟩ := c3
      obtain ⟨off, rfl, hoff⟩ := isWord_str c4
      obtain ⟨ends, rfl, hends⟩ := isWord_str c5
      obtain ⟨big, rfl, g0, g1⟩ := isBetween_int c6
      cases z4
      cases z5
      cases z6
      have rF : Rep.rel K H (.ref p) (Fld.mk low high step bas off ends big) := ⟨p, rfl, hs⟩
      refine q_unpII K (er_call1 (er_var rfl (Rep.mono (e1.trans (e2.trans e3)) rF)) ⟨l0, c2'.1, h1, c2'.2, s1, bs0, bs1⟩) (fun H4 e4 => ?_)
      refine g_cons (.s .z) (g_cons (.s (.s .z)) (g_nil ?_))
      refine l_ret (α := Bool) K (er_le (er_varI rfl) (er_varI rfl)) (fun v H5 e5 r => q v H5 (by walk_at "ex") ?_)
      refine (congrArg (Rep.rel K H5 v) ?_).mp r
      exact (isField_yes l0 c2'.1 h1 c2'.2 s1 bs0 bs1 hoff hends g0 g1).symm
    · refine q_if0 K (b := true) (ett_or (a := true) (b := false) (ett_not (et_b (a := false) (er_is (er_all hlc) (by
        simp only [List.map, List.all, id, Bool.and_true]
        rw [← Bool.not_eq_true]
        simp only [Bool.and_eq_true]
        exact hb)))) (fun z => (by cases z))) (fun c2 H2 e2 => ?_) (fun c2 H2 e2 => (by cases c2))
      refine l_ret (α := Bool) K er_bl (fun v H3 e3 r => q v H3 (e1.trans (e2.trans e3)) ?_)
      refine (congrArg (Rep.rel K H3 v) ?_).mp r
      exact (isField_ints hb).symm
  | _ =>
    refine q_if0 K (ett_or (b := false) (ett_not (et_b (er_isi (er_var rfl h0) rfl))) (fun z => (by cases z))) (fun c1 H1 e1 => ?_) (fun c1 H1 e1 => (by cases c1))
    exact l_ret (α := Bool) K er_bl (fun v H2 e2 r => q v H2 (e1.trans e2) r)
theorem sc_need_field : FnScope ["field"] ["field"] (defScope s_need_field) := ⟨rfl, rfl, rfl, by decide +kernel, rfl, by decide +kernel, by decide +kernel⟩
abbrev SP_need_field (K : PySem.W.Frag) : Sp := sp1 (α := Fld) (δ := Unit) K (FOk) (fun _ => ())
theorem ok_need_field {P : Program} {w : World} {K : PySem.W.Frag} {mg : Str → Option Value} {base : Heap} (T : Top K mg) {f_is_field : Addr} {fd_is_field : FuncData} (C_is_field : Cal P w K mg base CX0 2 "is_field" ["thing"] (SP_is_field K) f_is_field fd_is_field) {f : Addr} {fd : FuncData} (F : FnP K "need_field" s_need_field f fd) : FnOk P w K mg base CX0 3 f fd ["field"] (SP_need_field K) := by
  refine ok1 F sc_need_field rfl (fun x0 => [some x0]) (fun _ => rfl) (fun H Q x0 a0 h0 hp q cdv A outer s E hr => ⟨_, PSs.nox (pss_one (ps_if (pt_not (pt_val (pe_call C_is_field.ok (hr.mono (by decide)) (by rfl) C_is_field.mg C_is_field.kp C_is_field.bd .nil pass0 (pa_cons (pv 0) pa_nil)))) pss_never pss_nil)), ?_⟩)
  refine l_if0 K (ett_not (et_b (er_call1 (er_enc (α := Fld) (er_var rfl h0)) trivial))) (fun c1 H1 e1 => ?_) (fun c1 H1 e1 => q .non H1 e1 rfl)
  rw [hp.isField] at c1
  cases c1
theorem sc_need_tie : FnScope ["tie"] ["tie"] (defScope s_need_tie) := ⟨rfl, rfl, rfl, by decide +kernel, rfl, by decide +kernel, by decide +kernel⟩
abbrev SP_need_tie (K : PySem.W.Frag) : Sp := sp1 (α := Str) (δ := Unit) K (isTie) (fun _ => ())
theorem ok_need_tie {P : Program} {w : World} {K : PySem.W.Frag} {mg : Str → Option Value} {base : Heap} (T : Top K mg) {f_is_word : Addr} {fd_is_word : FuncData} (C_is_word : Cal P w K mg base CX0 1 "is_word" ["thing", "words"] (SP_is_word K) f_is_word fd_is_word) {f : Addr} {fd : FuncData} (F : FnP K "need_tie" s_need_tie f fd) : FnOk P w K mg base CX0 2 f fd ["tie"] (SP_need_tie K) := by
  obtain ⟨ad_TIES, g_TIES, tp_TIES⟩ := T.g_TIES
  refine ok1 F sc_need_tie rfl (fun x0 => [some x0]) (fun _ => rfl) (fun H Q x0 a0 h0 hp q cdv A outer s E hr => ⟨_, PSs.nox (pss_one (ps_if (pt_not (pt_val (pe_call C_is_word.ok (hr.mono (by decide)) (by rfl) C_is_word.mg C_is_word.kp C_is_word.bd .nil pass0 (pa_cons (pv 0) (pa_cons (pe_glob (v := .ref ad_TIES) (by rfl) g_TIES rfl) pa_nil))))) pss_never pss_nil)), ?_⟩)
  cases h0
  have E0 : Ex H H := Ex.refl H
  have nr1 : (!(isWord (Enc.enc (a0 : Str)) (Tpl.mk [("push" : Str), ("refuse" : Str), ("stop" : Str)]))) = false := by
    rw [tie_word hp]
    rfl
  refine l_no K (et_is (a := (!(isWord (Enc.enc (a0 : Str)) (Tpl.mk [("push" : Str), ("refuse" : Str), ("stop" : Str)])))) (ett_not (et_b (er_call2 (er_enc (α := Str) (er_varS rfl)) (er_ref (rel_texts tp_TIES)) (by walk_at "sd")))) nr1) (fun H1 e1 => ?_)
  have E0 := E0.trans e1
  exact q .non _ E0 rfl
theorem sc_is_row : FnScope ["thing", "key"] ["thing"] (defScope s_is_row) := ⟨rfl, rfl, rfl, by decide +kernel, rfl, by decide +kernel, by decide +kernel⟩
abbrev SP_is_row (K : PySem.W.Frag) : Sp := sp1 (α := PyData) (δ := Bool) K (fun d => ∀ z, d = .str z → z.length ≤ 100000) (isRow)
theorem ok_is_row {P : Program} {w : World} {K : PySem.W.Frag} {mg : Str → Option Value} {base : Heap} (T : Top K mg) {f : Addr} {fd : FuncData} (F : FnP K "is_row" s_is_row f fd) : FnOk P w K mg base CX0 1 f fd ["thing"] (SP_is_row K) := by
  obtain ⟨tk_KEYS, g_KEYS⟩ := T.g_KEYS
  obtain ⟨tk_MOST_KEYS, g_MOST_KEYS⟩ := T.g_MOST_KEYS
  refine ok1 F sc_is_row rfl (fun x0 => [some x0, none]) (fun _ => rfl) (fun H Q x0 a0 h0 hp q cdv A outer s E hr => ⟨_, PSs.nox (pss_one (ps_ret (pe_and (pe_callB call_isi (by rfl) T.b_isinstance (by decide +kernel) (pa_cons (pv 0) (pa_cons (pe_bltn (v := .ty "str") (by rfl) T.b_str (by decide +kernel) rfl) pa_nil))) (pe_and (pe_cmpR op_le (pe_callB call_len_str (by rfl) T.b_len (by decide +kernel) (pa_cons (pv 0) pa_nil)) (pe_glob (v := .int 40) (by rfl) g_MOST_KEYS ⟨_, rfl⟩) (nomark _)) (pe_one (pe_callB (cr_all rfl) (by rfl) T.b_all (by decide +kernel) (pa_cons (pe_lc (own := [("key", 1)]) (g := gName 1) (tt := tYes)  rfl sc_is_row.nd (pi_str (pv 0)) (blkOk_by (own := [("key", 1)]) (N := ["thing", "key"]) (sc := defScope s_is_row) (by decide +kernel)) (fun _ _ _ _ _ => (pg_name (i := 1) sc_is_row.nd rfl (.inl rfl))) (fun _ _ _ _ _ => pts_nil) (fun _ _ _ _ _ => (pe_cmpR op_inS (pv 1) (pe_glob (v := .str "udUDhe") (by rfl) g_KEYS ⟨_, rfl⟩) rfl))) pa_nil))))))), ?_⟩)
  cases a0 with
  | str z =>
    cases h0
    have hz := hp z rfl
    have hlc : z.cps.toList.length ≤ 40 → ∀ H1, Ex H H1 → ER K (tLc (iStr (tVar 0)) (gName 1) tYes (tOp rInS (tVar 1) (tC (.str "udUDhe"))) [1]) [some (.str z), none] H1 ((sgs z).map fun s => decide (s.c ∈ ("udUDhe" : Str).cps.toList)) := by
      intro hl H1 e1
      refine er_lcY _ (wk_str (er_varS rfl)) (by simp only [sgs, List.length_map]; omega) ?_
      intro s v H2 hs e2 r Q' q'
      exact gn_ok (s1 := fun v => [some (.str z), some v]) rfl (.s .z) rfl (fun hw => q' _ H2 (Ex.refl _) hw (er_inS (er_var rfl r) er_str))
    have hle : (z.length : Int) ≤ 40 ↔ z.cps.toList.length ≤ 40 := by
      show ((z.cps.size : Nat) : Int) ≤ 40 ↔ _
      simp only [Array.length_toList]
      omega
    refine l_ret (α := Bool) K (er_and (er_isi (er_enc (α := Str) (er_varS rfl)) rfl) (fun _ => er_and (er_le (er_lenS (er_varS rfl) hz) er_int) (fun hl => er_all (hlc (hle.mp (of_decide_eq_true hl)) _ (Ex.refl _))))) (fun v H1 e1 r => q v H1 e1 ?_)
    refine (congrArg (Rep.rel K H1 v) ?_).mp r
    simp only [isRow, Bool.true_and, hle, sgs, List.map_map, List.all_map]
    congr 1
    refine List.all_congr rfl fun c => ?_
    simp only [Function.comp, id, keys_mem]
  | _ => exact l_ret (α := Bool) K (er_and (b := false) (er_isi (er_var rfl h0) rfl) (fun z => (by cases z))) (fun v H1 e1 r => q v H1 e1 r)
theorem sc_is_key : FnScope ["thing"] ["thing"] (defScope s_is_key) := ⟨rfl, rfl, rfl, by decide +kernel, rfl, by decide +kernel, by decide +kernel⟩
abbrev SP_is_key (K : PySem.W.Frag) : Sp := sp1 (α := Str) (δ := Bool) K (fun z_ => rowOk z_) (fun z_ => decide (z_.length = 1))
theorem ok_is_key {P : Program} {w : World} {K : PySem.W.Frag} {mg : Str → Option Value} {base : Heap} (T : Top K mg) {f_is_row : Addr} {fd_is_row : FuncData} (C_is_row : Cal P w K mg base CX0 1 "is_row" ["thing"] (SP_is_row K) f_is_row fd_is_row) {f : Addr} {fd : FuncData} (F : FnP K "is_key" s_is_key f fd) : FnOk P w K mg base CX0 2 f fd ["thing"] (SP_is_key K) := by
  refine ok1 F sc_is_key rfl (fun x0 => [some x0]) (fun _ => rfl) (fun H Q x0 a0 h0 hp q cdv A outer s E hr => ⟨_, PSs.nox (pss_one (ps_ret (pe_and (pe_call C_is_row.ok (hr.mono (by decide)) (by rfl) C_is_row.mg C_is_row.kp C_is_row.bd .nil pass0 (pa_cons (pv 0) pa_nil)) (pe_one (pe_cmpR op_eq (pe_callB call_len_str (by rfl) T.b_len (by decide +kernel) (pa_cons (pv 0) pa_nil)) pe_int (nomark _)))))), ?_⟩)
  cases h0
  have E0 : Ex H H := Ex.refl H
  refine l_ret (α := Bool) K (er_and (er_call1 (er_enc (α := Str) (er_varS rfl)) (rowOk_len hp)) (fun hc => (er_eqI (er_lenS (er_varS rfl) (by rw [lenL]; have := hp.1; omega)) er_int))) (fun v1 H1 e1 r1 => q v1 H1 (E0.trans e1) ?_)
  refine (congrArg (Rep.rel K H1 v1) (?_ : (((isRow (Enc.enc (a0 : Str))) && (decide ((a0.length : Int) = 1))) : Bool) = _)).mp r1
  rw [show isRow (Enc.enc a0) = true from hp.isRow]
  show (true && decide ((a0.length : Int) = 1)) = decide (a0.length = 1)
  rw [Bool.true_and]
  exact decide_eq_decide.mpr (by omega)
theorem sc_need_press : FnScope ["press"] ["press"] (defScope s_need_press) := ⟨rfl, rfl, rfl, by decide +kernel, rfl, by decide +kernel, by decide +kernel⟩
abbrev SP_need_press (K : PySem.W.Frag) : Sp := sp1 (α := (Str × Sg)) (δ := Unit) K (fun p_ => (p_.1 = "left" ∨ p_.1 = "right") ∧ isKey p_.2.c) (fun _ => ())
theorem ok_need_press {P : Program} {w : World} {K : PySem.W.Frag} {mg : Str → Option Value} {base : Heap} (T : Top K mg) {f_is_word : Addr} {fd_is_word : FuncData} (C_is_word : Cal P w K mg base CX0 1 "is_word" ["thing", "words"] (SP_is_word K) f_is_word fd_is_word) {f_is_key : Addr} {fd_is_key : FuncData} (C_is_key : Cal P w K mg base CX0 2 "is_key" ["thing"] (SP_is_key K) f_is_key fd_is_key) {f : Addr} {fd : FuncData} (F : FnP K "need_press" s_need_press f fd) : FnOk P w K mg base CX0 3 f fd ["press"] (SP_need_press K) := by
  obtain ⟨ad_SIDES, g_SIDES, tp_SIDES⟩ := T.g_SIDES
  refine ok1 F sc_need_press rfl (fun x0 => [some x0]) (fun _ => rfl) (fun H Q x0 a0 h0 hp q cdv A outer s E hr => ⟨_, PSs.nox (pss_one (ps_if (PW.pt (pw_or (pt_not (pt_val (pe_callB call_isi (by rfl) T.b_isinstance (by decide +kernel) (pa_cons (pv 0) (pa_cons (pe_bltn (v := .ty "tuple") (by rfl) T.b_tuple (by decide +kernel) rfl) pa_nil))))) (pw_or (pt_cmpR op_ne (pe_callB call_len_seq (by rfl) T.b_len (by decide +kernel) (pa_cons (pv 0) pa_nil)) pe_int (nomark _)) (pw_or (pt_not (pt_val (pe_call C_is_word.ok (hr.mono (by decide)) (by rfl) C_is_word.mg C_is_word.kp C_is_word.bd .nil pass0 (pa_cons (pe_ix ix_tup (pv 0) pe_int (fun _ _ => rfl)) (pa_cons (pe_glob (v := .ref ad_SIDES) (by rfl) g_SIDES rfl) pa_nil))))) (pw_or1 (pt_not (pt_val (pe_call C_is_key.ok (hr.mono (by decide)) (by rfl) C_is_key.mg C_is_key.kp C_is_key.bd .nil pass0 (pa_cons (pe_ix ix_tup (pv 0) pe_int (fun _ _ => rfl)) pa_nil))))))))) pss_never pss_nil)), ?_⟩)
  have E0 : Ex H H := Ex.refl H
  obtain ⟨hs1, hk⟩ := hp
  have nr1 : ((!true) || ((!decide (2 = 2)) || ((!(isWord (Enc.enc (a0.1 : Str)) (Tpl.mk [("left" : Str), ("right" : Str)]))) || (!(decide ((⟨#[a0.2.c]⟩ : Str).length = 1)))))) = false := by
    rw [side_word hs1]
    rfl
  refine l_no K (et_is (a := ((!true) || ((!decide (2 = 2)) || ((!(isWord (Enc.enc (a0.1 : Str)) (Tpl.mk [("left" : Str), ("right" : Str)]))) || (!(decide ((⟨#[a0.2.c]⟩ : Str).length = 1))))))) (ett_or (ett_not (et_b (er_isi (b := true) (er_enc (α := (Str × Sg)) (er_var rfl h0)) rfl))) (fun hc => (ett_or (et_t (er_neI (er_lenP (er_var rfl h0)) er_int)) (fun hc => (ett_or (ett_not (et_b (er_call2 (er_enc (α := Str) (er_p0 (er_var rfl h0))) (er_ref (rel_texts tp_SIDES)) (by walk_at "sd")))) (fun hc => (ett_not (et_b (er_call1 (er_sg (c := a0.2.c) (er_p1 (er_var rfl h0))) (row1 hk)))))))))) nr1) (fun H1 e1 => ?_)
  have h0 := Rep.mono e1 h0
  have E0 := E0.trans e1
  exact q .non _ E0 rfl
theorem sc_need_presses : FnScope ["field", "tie", "press", "other_press"] ["field", "tie", "press", "other_press"] (defScope s_need_presses) := ⟨rfl, rfl, rfl, by decide +kernel, rfl, by decide +kernel, by decide +kernel⟩
abbrev SP_need_presses (K : PySem.W.Frag) : Sp := sp4 (α := Fld) (β := Str) (γ := (Str × Sg)) (ε := (Str × Sg)) (δ := Unit) K (fun f_ t_ p_ q_ => FOk f_ ∧ isTie t_ ∧ ((p_.1 = "left" ∨ p_.1 = "right") ∧ isKey p_.2.c) ∧ ((q_.1 = "left" ∨ q_.1 = "right") ∧ isKey q_.2.c)) (fun _ _ _ _ => ())
theorem ok_need_presses {P : Program} {w : World} {K : PySem.W.Frag} {mg : Str → Option Value} {base : Heap} (T : Top K mg) {f_need_field : Addr} {fd_need_field : FuncData} (C_need_field : Cal P w K mg base CX0 3 "need_field" ["field"] (SP_need_field K) f_need_field fd_need_field) {f_need_tie : Addr} {fd_need_tie : FuncData} (C_need_tie : Cal P w K mg base CX0 2 "need_tie" ["tie"] (SP_need_tie K) f_need_tie fd_need_tie) {f_need_press : Addr} {fd_need_press : FuncData} (C_need_press : Cal P w K mg base CX0 3 "need_press" ["press"] (SP_need_press K) f_need_press fd_need_press) {f : Addr} {fd : FuncData} (F : FnP K "need_presses" s_need_presses f fd) : FnOk P w K mg base CX0 4 f fd ["field", "tie", "press", "other_press"] (SP_need_presses K) := by
  refine ok4 F sc_need_presses rfl (fun x0 x1 x2 x3 => [some x0, some x1, some x2, some x3]) (fun _ _ _ _ => rfl) (fun H Q x0 x1 x2 x3 a0 a1 a2 a3 h0 h1 h2 h3 hp q cdv A outer s E hr => ⟨_, PSs.nox (pss_cons (ps_expr (pe_call C_need_field.ok (hr.mono (by decide)) (by rfl) C_need_field.mg C_need_field.kp C_need_field.bd .nil pass0 (pa_cons (pv 0) pa_nil)))
      (pss_cons (ps_expr (pe_call C_need_tie.ok (hr.mono (by decide)) (by rfl) C_need_tie.mg C_need_tie.kp C_need_tie.bd .nil pass0 (pa_cons (pv 1) pa_nil)))
      (pss_cons (ps_expr (pe_call C_need_press.ok (hr.mono (by decide)) (by rfl) C_need_press.mg C_need_press.kp C_need_press.bd .nil pass0 (pa_cons (pv 2) pa_nil)))
      (pss_one (ps_expr (pe_call C_need_press.ok (hr.mono (by decide)) (by rfl) C_need_press.mg C_need_press.kp C_need_press.bd .nil pass0 (pa_cons (pv 3) pa_nil))))))), ?_⟩)
  cases h1
  have E0 : Ex H H := Ex.refl H
  obtain ⟨ok_f, ht, hp1, hp2⟩ := hp
  refine q_drop (α := Unit) K (er_call1 (er_var rfl h0) (by walk_at "sd")) (fun H1 e1 => ?_)
  have h0 := Rep.mono e1 h0
  have h2 := Rep.mono e1 h2
  have h3 := Rep.mono e1 h3
  have E0 := E0.trans e1
  refine q_drop (α := Unit) K (er_call1 (er_varS rfl) (by walk_at "sd")) (fun H2 e2 => ?_)
  have h0 := Rep.mono e2 h0
  have h2 := Rep.mono e2 h2
  have h3 := Rep.mono e2 h3
  have E0 := E0.trans e2
  refine q_drop (α := Unit) K (er_call1 (er_var rfl h2) hp1) (fun H3 e3 => ?_)
  have h0 := Rep.mono e3 h0
  have h2 := Rep.mono e3 h2
  have h3 := Rep.mono e3 h3
  have E0 := E0.trans e3
  refine l_drop (α := Unit) K (er_call1 (er_var rfl h3) hp2) (fun H4 e4 => ?_)
  have h0 := Rep.mono e4 h0
  have h2 := Rep.mono e4 h2
  have h3 := Rep.mono e4 h3
  have E0 := E0.trans e4
  exact q .non _ E0 rfl
theorem sc_is_on : FnScope ["field", "value"] ["field", "value"] (defScope s_is_on) := ⟨rfl, rfl, rfl, by decide +kernel, rfl, by decide +kernel, by decide +kernel⟩
abbrev SP_is_on (K : PySem.W.Frag) : Sp := sp2 (α := Fld) (β := Int) (δ := Bool) K (fun f_ _ => 1 ≤ f_.step) (fun f_ v_ => isOn f_ v_)
theorem ok_is_on {P : Program} {w : World} {K : PySem.W.Frag} {mg : Str → Option Value} {base : Heap} (T : Top K mg) {f : Addr} {fd : FuncData} (F : FnP K "is_on" s_is_on f fd) : FnOk P w K mg base CX0 1 f fd ["field", "value"] (SP_is_on K) := by
  refine ok2 F sc_is_on rfl (fun x0 x1 => [some x0, some x1]) (fun _ _ => rfl) (fun H Q x0 x1 a0 a1 h0 h1 hp q cdv A outer s E hr => ⟨_, PSs.nox (pss_one (ps_ret (pe_cmpR op_eq (pe_op op_mod (pe_op op_sub (pv 1) (pe_ix ix_tup (pv 0) pe_int (fun _ _ => rfl))) (pe_ix ix_tup (pv 0) pe_int (fun _ _ => rfl))) pe_int (nomark _)))), ?_⟩)
  cases h1
  have E0 : Ex H H := Ex.refl H
  refine l_ret (α := Bool) K (er_eqI (er_mod (er_sub (er_varI rfl) (er_f3 (er_var rfl h0))) (er_f2 (er_var rfl h0)) (by walk_at "sd")) er_int) (fun v1 H1 e1 r1 => q v1 H1 (E0.trans e1) ?_)
  refine (congrArg (Rep.rel K H1 v1) (?_ : ((decide (((a1 - a0.base) % a0.step) = 0)) : Bool) = _)).mp r1
  rfl
theorem sc_rests_here : FnScope ["field", "low", "high", "step", "base", "some", "rest"] ["field"] (defScope s_rests_here) := ⟨rfl, rfl, rfl, by decide +kernel, rfl, by decide +kernel, by decide +kernel⟩
abbrev SP_rests_here (K : PySem.W.Frag) : Sp := sp1 (α := Fld) (δ := (List Int)) K (FOk) (restsHere)
theorem ok_rests_here {P : Program} {w : World} {K : PySem.W.Frag} {mg : Str → Option Value} {base : Heap} (T : Top K mg) {f_is_on : Addr} {fd_is_on : FuncData} (C_is_on : Cal P w K mg base CX0 1 "is_on" ["field", "value"] (SP_is_on K) f_is_on fd_is_on) {f : Addr} {fd : FuncData} (F : FnP K "rests_here" s_rests_here f fd) : FnOk P w K mg base CX0 2 f fd ["field"] (SP_rests_here K) := by
  refine ok1 F sc_rests_here rfl (fun x0 => [some x0, none, none, none, none, none, none]) (fun _ => rfl) (fun H Q x0 a0 h0 hp q cdv A outer s E hr => ⟨_, PSs.nox (pss_cons (ps_asg (pe_slice sl_tup (pv 0) po_none (po_some pe_int)) (pg_tup rfl (pgs_cons (pg_name (i := 1) sc_rests_here.nd rfl (.inl rfl)) (pgs_cons (pg_name (i := 2) sc_rests_here.nd rfl (.inl rfl)) (pgs_cons (pg_name (i := 3) sc_rests_here.nd rfl (.inr rfl)) (pgs_cons (pg_name (i := 4) sc_rests_here.nd rfl (.inl rfl)) pgs_nil))))))
      (pss_cons (ps_set (i := 5) sc_rests_here.nd rfl (.inl rfl) (pe_lst (pa_cons pe_int (pa_cons pe_int (pa_cons (pe_op op_fdivW (pe_op op_add (pv 3) pe_int) pe_int) (pa_cons (pe_op op_sub (pv 3) pe_int) pa_nil))))))
      (pss_cons (ps_if (PW.pt (pw_or (pt_cmpR op_eq (pe_ix ix_tup (pv 0) pe_int (fun _ _ => rfl)) pe_str (nomark _)) (pw_or (pt_not (pt_val (pe_call C_is_on.ok (hr.mono (by decide)) (by rfl) C_is_on.mg C_is_on.kp C_is_on.bd .nil pass0 (pa_cons (pv 0) (pa_cons (pv 1) pa_nil))))) (pw_or1 (pt_not (pt_val (pe_call C_is_on.ok (hr.mono (by decide)) (by rfl) C_is_on.mg C_is_on.kp C_is_on.bd .nil pass0 (pa_cons (pv 0) (pa_cons (pv 2) pa_nil))))))))) (pss_one (ps_set (i := 5) sc_rests_here.nd rfl (.inl rfl) (pe_op op_cat (pv 5) (pe_lst (pa_cons (pe_op op_mod (pe_op op_sub (pv 1) (pv 4)) (pv 3)) (pa_cons (pe_op op_mod (pe_op op_sub (pv 2) (pv 4)) (pv 3)) pa_nil)))))) pss_nil)
      (pss_one (ps_ret (pe_sortSet (by rfl) T.b_sorted (by rfl) T.b_set (pe_lc (own := [("rest", 6)]) (g := gName 6) (tt := tYes)  rfl sc_rests_here.nd (pi_list (pv 5)) (blkOk_by (own := [("rest", 6)]) (N := ["field", "low", "high", "step", "base", "some", "rest"]) (sc := defScope s_rests_here) (by decide +kernel)) (fun _ _ _ _ _ => (pg_name (i := 6) sc_rests_here.nd rfl (.inl rfl))) (fun _ _ _ _ _ => pts_nil) (fun _ _ _ _ _ => (pe_op op_mod (pv 6) (pv 3)))))))))), ?_⟩)
  have E0 : Ex H H := Ex.refl H
  have ok_f := hp
  obtain ⟨l0_f, lh_f, h1_f, s0_f, s1_f, b0_f, b1_f, off_f, ends_f, g0_f, g1_f, on_f⟩ := ok_f
  have ok_f : FOk a0 := ⟨l0_f, lh_f, h1_f, s0_f, s1_f, b0_f, b1_f, off_f, ends_f, g0_f, g1_f, on_f⟩
  refine q_unp (lo := none) (hi := (some 4)) (er_var rfl h0) (fun _ _ h => h) (fun _ _ h => ⟨4, rfl, h⟩) (by decide) rfl rfl (fun H1 e1 => ?_)
  have h0 := Rep.mono e1 h0
  have E0 := E0.trans e1
  refine (g_cons (.s .z) (g_cons (.s (.s .z)) (g_cons (.s (.s (.s .z))) (g_cons (.s (.s (.s (.s .z)))) (g_nil ?_)))))
  refine q_set (α := (List Int)) K (er_lst (eas_cons er_int (eas_cons er_int (eas_cons (er_div (er_add (er_varI rfl) er_int) er_int (cdivw (by walk_at "sd") (by walk_at "sd"))) (eas_cons (er_sub (er_varI rfl) er_int) eas_nil)))) (Nat.le_of_ble_eq_true rfl)) (fun _ => (.s (.s (.s (.s (.s .z)))))) (fun v2 H2 e2 r_2 => ?_)
  have h0 := Rep.mono e2 h0
  have E0 := E0.trans e2
  refine q_ifD K (b := ((decide (a0.off = ("add" : Str))) || ((!(isOn a0 a0.low)) || (!(isOn a0 a0.high))))) (fun σ' H' => ∃ (w_some_ : V), ∃ (some_ : (List Int)), σ' = [some x0, some (V.int a0.low), some (V.int a0.high), some (V.int a0.step), some (V.int a0.base), some w_some_, none] ∧ Ey H2 H' ∧ (Rep.rel K H' w_some_ some_ ∧ (some_ = restsAllH a0)) ∧ Ex H H') (fun σ' Z3 pp3 => ?_) (ett_or (et_t (er_eqS (er_f4 (er_var rfl h0)) er_str)) (fun hc => (ett_or (ett_not (et_b (er_call2 (er_var rfl h0) (er_varI rfl) (by walk_at "sd")))) (fun hc => (ett_not (et_b (er_call2 (er_var rfl h0) (er_varI rfl) (by walk_at "sd")))))))) (fun c3 H3 e3 D3 dn3 => ?_) (fun c3 H3 e3 D3 dn3 => ?_)
  rotate_left
  · skip
    have h0 := Rep.mono e3 h0
    have r_2 := Rep.mono e3 r_2
    have E0 := E0.trans e3
    have jx3 := e3.y
    have hcond := c3
    refine l_set (α := (List Int)) K (er_cat (er_var rfl r_2) (er_lst (eas_cons (er_mod (er_sub (er_varI rfl) (er_varI rfl)) (er_varI rfl) (by walk_at "sd")) (eas_cons (er_mod (er_sub (er_varI rfl) (er_varI rfl)) (er_varI rfl) (by walk_at "sd")) eas_nil)) (Nat.le_of_ble_eq_true rfl)) (Nat.le_of_ble_eq_true rfl)) (fun _ => (.s (.s (.s (.s (.s .z)))))) (fun v4 H4 e4 r_4 => ?_)
    have h0 := Rep.mono e4 h0
    have r_2 := Rep.mono e4 r_2
    have jx3 := jx3.trans e4.y
    have E0 := E0.trans e4
    exact dn3 _ _ ⟨_, (([0, 1, ((a0.step + 1) / 2), (a0.step - 1)] : List Int) ++ ([((a0.low - a0.base) % a0.step), ((a0.high - a0.base) % a0.step)] : List Int)), rfl, jx3, ⟨r_4, by
      unfold restsAllH
      rw [if_pos (show offEnd a0 = true by unfold offEnd; rw [Bool.or_assoc]; exact hcond)]
      rfl⟩, E0⟩
  · skip
    have h0 := Rep.mono e3 h0
    have r_2 := Rep.mono e3 r_2
    have E0 := E0.trans e3
    have jx3 := e3.y
    have hcond := c3
    refine l_next ?_
    exact dn3 _ _ ⟨_, ([0, 1, ((a0.step + 1) / 2), (a0.step - 1)] : List Int), rfl, jx3, ⟨r_2, by
      unfold restsAllH
      rw [if_neg (show ¬ offEnd a0 = true by unfold offEnd; rw [Bool.or_assoc, hcond]; exact Bool.false_ne_true)]
      rfl⟩, E0⟩
  obtain ⟨w_some_, some_, rfl, pp3, ⟨r_some_, i_some_⟩, E0⟩ := pp3
  have h0 := Rep.moY pp3 h0
  refine l_ret (α := (List Int)) K (er_sortSet (er_lcY (fun rest : Int => (rest % a0.step)) (wk_list (er_var rfl r_some_)) (by rw [i_some_]; exact Nat.le_trans restsAllH_len (by decide)) (fun rest w6 H6 hx6 e6 r6 Q6 q6 => gn_ok (s0 := [some x0, some (V.int a0.low), some (V.int a0.high), some (V.int a0.step), some (V.int a0.base), some w_some_, none]) (s1 := fun w6 => [some x0, some (V.int a0.low), some (V.int a0.high), some (V.int a0.step), some (V.int a0.base), some w_some_, some w6]) rfl (.s (.s (.s (.s (.s (.s .z)))))) rfl (fun hw => q6 _ H6 (Ex.refl _) hw (er_mod (er_var rfl r6) (er_varI rfl) (by walk_at "sd"))))) (by rw [List.length_map, i_some_]; exact Nat.le_trans restsAllH_len (by decide))) (fun v5 H5 e5 r5 => q v5 H5 (E0.trans e5) ?_)
  refine (congrArg (Rep.rel K H5 v5) (?_ : ((sortU (some_.map fun rest => (rest % a0.step))) : (List Int)) = _)).mp r5
  rw [i_some_]
  rfl
theorem sc_block : FnScope ["field", "centre", "before", "behind", "low", "high", "step", "base", "place", "found", "index", "value", "rest"] ["field", "centre", "before", "behind"] (defScope s_block) := ⟨rfl, rfl, rfl, by decide +kernel, rfl, by decide +kernel, by decide +kernel⟩
abbrev SP_block (K : PySem.W.Frag) : Sp := sp4 (α := Fld) (β := Int) (γ := Int) (ε := Int) (δ := (List Int)) K (fun f_ c_ a_ b_ => FOk f_ ∧ (f_.low ≤ c_ ∧ c_ ≤ f_.high) ∧ 0 ≤ a_ ∧ 0 ≤ b_ ∧ a_ + b_ ≤ 26) (fun f_ c_ a_ b_ => blockH f_ c_ a_ b_)
theorem ok_block {P : Program} {w : World} {K : PySem.W.Frag} {mg : Str → Option Value} {base : Heap} (T : Top K mg) {f_rests_here : Addr} {fd_rests_here : FuncData} (C_rests_here : Cal P w K mg base CX0 2 "rests_here" ["field"] (SP_rests_here K) f_rests_here fd_rests_here) {f : Addr} {fd : FuncData} (F : FnP K "block" s_block f fd) : FnOk P w K mg base CX0 3 f fd ["field", "centre", "before", "behind"] (SP_block K) := by
  refine ok4 F sc_block rfl (fun x0 x1 x2 x3 => [some x0, some x1, some x2, some x3, none, none, none, none, none, none, none, none, none]) (fun _ _ _ _ => rfl) (fun H Q x0 x1 x2 x3 a0 a1 a2 a3 h0 h1 h2 h3 hp q cdv A outer s E hr => ⟨_, PSs.nox (pss_cons (ps_asg (pe_slice sl_tup (pv 0) po_none (po_some pe_int)) (pg_tup rfl (pgs_cons (pg_name (i := 4) sc_block.nd rfl (.inr rfl)) (pgs_cons (pg_name (i := 5) sc_block.nd rfl (.inr rfl)) (pgs_cons (pg_name (i := 6) sc_block.nd rfl (.inr rfl)) (pgs_cons (pg_name (i := 7) sc_block.nd rfl (.inr rfl)) pgs_nil))))))
      (pss_cons (ps_par (i := 8) (j := 9) rfl sc_block.nd rfl rfl (by decide) rfl rfl (pa_cons (pe_op op_fdivW (pe_op op_sub (pv 1) (pv 7)) (pv 6)) (pa_cons (pe_lst pa_nil) pa_nil)) (by rfl))
      (pss_cons (ps_for PassesOwn.never rfl (pi_range2 (by rfl) T.b_range (pa_cons (pe_op op_sub (pv 8) (pv 2)) (pa_cons (pe_op op_add (pe_op op_add (pv 8) (pv 3)) pe_int) pa_nil))) (pg_name (i := 10) sc_block.nd rfl (.inr rfl)) (pss_one (ps_set (i := 9) sc_block.nd rfl (.inl rfl) (pe_op op_cat (pv 9) (pe_lc (own := [("rest", 12)]) (g := gName 12) (tt := tYes)  rfl sc_block.nd (pi_list (pe_call C_rests_here.ok (hr.mono (by decide)) (by rfl) C_rests_here.mg C_rests_here.kp C_rests_here.bd .nil pass0 (pa_cons (pv 0) pa_nil))) (blkOk_by (own := [("rest", 12)]) (N := ["field", "centre", "before", "behind", "low", "high", "step", "base", "place", "found", "index", "value", "rest"]) (sc := defScope s_block) (by decide +kernel)) (fun _ _ _ _ _ => (pg_name (i := 12) sc_block.nd rfl (.inl rfl))) (fun _ _ _ _ _ => pts_nil) (fun _ _ _ _ _ => (pe_op op_add (pe_op op_add (pv 7) (pe_op op_mul (pv 10) (pv 6))) (pv 12))))))))
      (pss_one (ps_ret (pe_lc (own := [("value", 11)]) (g := gName 11)  rfl sc_block.nd (pi_list (pv 9)) (blkOk_by (own := [("value", 11)]) (N := ["field", "centre", "before", "behind", "low", "high", "step", "base", "place", "found", "index", "value", "rest"]) (sc := defScope s_block) (by decide +kernel)) (fun _ _ _ _ _ => (pg_name (i := 11) sc_block.nd rfl (.inl rfl))) (fun _ _ _ _ _ => (pts_one (pt_chain op_le op_le (pv 4) (pv 11) (pv 5)))) (fun _ _ _ _ _ => (pv 11)))))))), ?_⟩)
  cases h1
  cases h2
  cases h3
  have E0 : Ex H H := Ex.refl H
  obtain ⟨ok_f, hin, hab⟩ := hp
  obtain ⟨l0_f, lh_f, h1_f, s0_f, s1_f, b0_f, b1_f, off_f, ends_f, g0_f, g1_f, on_f⟩ := ok_f
  have ok_f : FOk a0 := ⟨l0_f, lh_f, h1_f, s0_f, s1_f, b0_f, b1_f, off_f, ends_f, g0_f, g1_f, on_f⟩
  have hda := div_abs (x := a1 - a0.base) s0_f
  refine q_unp (lo := none) (hi := (some 4)) (er_var rfl h0) (fun _ _ h => h) (fun _ _ h => ⟨4, rfl, h⟩) (by decide) rfl rfl (fun H1 e1 => ?_)
  have h0 := Rep.mono e1 h0
  have E0 := E0.trans e1
  refine (g_cons (.s (.s (.s (.s .z)))) (g_cons (.s (.s (.s (.s (.s .z))))) (g_cons (.s (.s (.s (.s (.s (.s .z)))))) (g_cons (.s (.s (.s (.s (.s (.s (.s .z))))))) (g_nil ?_)))))
  refine n_par (α := Int) (β := (List Int)) K (P1 := fun z => z = ((a1 - a0.base) / a0.step)) (P2 := fun z => z = ([] : List Int)) ?_ (fun H2a e2a => ?_) (fun _ _ => (.s (.s (.s (.s (.s (.s (.s (.s .z))))))))) (fun _ _ => (.s (.s (.s (.s (.s (.s (.s (.s (.s .z)))))))))) (fun place found v2a v2b H2 p_place p_found e2 r_place r_found => ?_)
  · exact (en_is (er_div (er_sub (er_varI rfl) (er_varI rfl)) (er_varI rfl) (cdivw (by walk_at "sd") (by walk_at "sd"))))
  · skip
    have h0 := Rep.mono e2a h0
    exact (en_is (er_lst eas_nil (Nat.le_of_ble_eq_true rfl)))
  have h0 := Rep.mono e2 h0
  have E0 := E0.trans e2
  cases r_place
  have d_place := p_place
  replace p_found := p_found.symm
  subst p_found
  refine q_for K (α := Int) (xs := (rng (place - a2) (((place + a3) + 1) - (place - a2) : Int).toNat)) (wk_rng2 (er_sub (er_varI rfl) (er_varI rfl)) (er_add (er_add (er_varI rfl) (er_varI rfl)) er_int) ⟨by walk_at "sd", by walk_at "sd", by walk_at "sd", by walk_at "sd"⟩) (fun pre3 σ' H' => ∃ o3_10, ∃ (w_found1 : V), ∃ (found1 : (List Int)), σ' = [some x0, some (V.int a1), some (V.int a2), some (V.int a3), some (V.int a0.low), some (V.int a0.high), some (V.int a0.step), some (V.int a0.base), some (V.int place), some w_found1, o3_10, none, none] ∧ Ey H2 H' ∧ (Rep.rel K H' w_found1 found1 ∧ (found1 = [] ++ pre3.flatMap (rowH a0))) ∧ Ex H H') (fun H1 e1 => ⟨_, _, ([] : List Int), rfl, e1.y, ⟨(Rep.mono e1 r_found), rfl⟩, E0.trans e1⟩) (fun L3 pre3 y3 post3 v3 σ' A3 B3 b3 hx3 p3 pp3 c3 r3 => ?_) (fun σ' Z3 z3 pp3 => ?_)
  · obtain ⟨o3_10, w_found1, found1, rfl, q3, ⟨r_found1, i_found1⟩, E0⟩ := pp3
    have hm3 : y3 ∈ (rng (place - a2) (((place + a3) + 1) - (place - a2) : Int).toNat) := by
      rw [hx3]
      exact List.mem_append_right _ (List.mem_cons_self ..)
    have hr3 := rng_mem.mp hm3
    have t3 := p3.trans c3.y
    have g3 := q3.trans c3.y
    have h0 := Rep.moY g3 h0
    have E0 := E0.trans c3
    have r_found1 := Rep.mono c3 r_found1
    cases r3
    refine g_name1 (.s (.s (.s (.s (.s (.s (.s (.s (.s (.s .z)))))))))) ?_
    obtain ⟨found2, d_found2⟩ : ∃ z : (List Int), z = (found1 ++ ((restsHere a0).map fun rest => ((a0.base + (y3 * a0.step)) + rest))) := ⟨_, rfl⟩
    refine l_set (α := (List Int)) K (er_is (er_cat (er_var rfl r_found1) (er_lcY (fun rest : Int => ((a0.base + (y3 * a0.step)) + rest)) (wk_list (er_call1 (er_var rfl h0) ok_f)) (Nat.le_trans restsHere_len (by decide)) (fun rest w5 H5 hx5 e5 r5 Q5 q5 => gn_ok (s0 := [some x0, some (V.int a1), some (V.int a2), some (V.int a3), some (V.int a0.low), some (V.int a0.high), some (V.int a0.step), some (V.int a0.base), some (V.int place), some w_found1, some (V.int y3), none, none]) (s1 := fun w5 => [some x0, some (V.int a1), some (V.int a2), some (V.int a3), some (V.int a0.low), some (V.int a0.high), some (V.int a0.step), some (V.int a0.base), some (V.int place), some w_found1, some (V.int y3), none, some w5]) rfl (.s (.s (.s (.s (.s (.s (.s (.s (.s (.s (.s (.s .z)))))))))))) rfl (fun hw => q5 _ H5 (Ex.refl _) hw (er_add (er_add (er_varI rfl) (er_mul (er_varI rfl) (er_varI rfl) (by walk_at "mc"))) (er_var rfl r5))))) (by rw [i_found1, List.length_map]; have k2 := flat_pre (g := rowH a0) (n := 6) (m := 27) hx3 (by rw [rng_len]; omega) (fun _ => rowH_len); have k3 := restsHere_len (f := a0); rw [List.nil_append]; omega)) d_found2.symm) (fun _ => (.s (.s (.s (.s (.s (.s (.s (.s (.s .z)))))))))) (fun v4 H4 e4 r_4 => ?_)
    have h0 := Rep.mono e4 h0
    have r_found1 := Rep.mono e4 r_found1
    have g3 := g3.trans e4.y
    have t3 := t3.trans e4.y
    have E0 := E0.trans e4
    exact ⟨t3, _, _, found2, rfl, g3, ⟨r_4, by rw [d_found2, i_found1, List.flatMap_append, List.append_assoc]; simp only [List.flatMap_cons, List.flatMap_nil, List.append_nil]; rfl⟩, E0⟩
  obtain ⟨o3_10, w_found1, found1, rfl, q3, ⟨r_found1, i_found1⟩, E0⟩ := pp3
  have h0 := Rep.moY q3 h0
  refine l_ret (α := (List Int)) K (er_lc (fun value : Int => ((decide (a0.low ≤ value)) && (decide (value ≤ a0.high)))) (fun value : Int => value) (wk_list (er_var rfl r_found1)) (by rw [i_found1, List.nil_append, rawH_eq (by first | exact d_place.1 | exact d_place)]; exact Nat.le_trans (rawH_len hab) (by decide)) (fun value w7 H7 hx7 e7 r7 Q7 q7 => gn_ok (s0 := [some x0, some (V.int a1), some (V.int a2), some (V.int a3), some (V.int a0.low), some (V.int a0.high), some (V.int a0.step), some (V.int a0.base), some (V.int place), some w_found1, o3_10, none, none]) (s1 := fun w7 => [some x0, some (V.int a1), some (V.int a2), some (V.int a3), some (V.int a0.low), some (V.int a0.high), some (V.int a0.step), some (V.int a0.base), some (V.int place), some w_found1, o3_10, some w7, none]) rfl (.s (.s (.s (.s (.s (.s (.s (.s (.s (.s (.s .z))))))))))) rfl (fun hw => q7 _ H7 (Ex.refl _) hw (et_t (er_chain (r1 := (fun i j => (decide (i ≤ j)))) (r2 := (fun i j => (decide (i ≤ j)))) (er_varI rfl) (er_var rfl r7) (er_varI rfl))) (fun hf => (er_var rfl r7))))) (fun v6 H6 e6 r6 => q v6 H6 (E0.trans e6) ?_)
  refine (congrArg (Rep.rel K H6 v6) (?_ : (((found1.filter fun value => ((decide (a0.low ≤ value)) && (decide (value ≤ a0.high)))).map fun value => value) : (List Int)) = _)).mp r6
  rw [i_found1, List.map_id', List.nil_append, rawH_eq (by assumption)]
  rfl
theorem sc_pairs_of : FnScope ["field", "low", "high", "near", "every", "middle", "found", "left", "some", "right"] ["field"] (defScope s_pairs_of) := ⟨rfl, rfl, rfl, by decide +kernel, rfl, by decide +kernel, by decide +kernel⟩
abbrev SP_pairs_of (K : PySem.W.Frag) : Sp := sp1 (α := Fld) (δ := (List (Int × Int))) K (FOk) (pairsOf)
theorem ok_pairs_of {P : Program} {w : World} {K : PySem.W.Frag} {mg : Str → Option Value} {base : Heap} (T : Top K mg) {f_block : Addr} {fd_block : FuncData} (C_block : Cal P w K mg base CX0 3 "block" ["field", "centre", "before", "behind"] (SP_block K) f_block fd_block) {f : Addr} {fd : FuncData} (F : FnP K "pairs_of" s_pairs_of f fd) : FnOk P w K mg base CX0 4 f fd ["field"] (SP_pairs_of K) := by
  obtain ⟨tk_FEW, g_FEW⟩ := T.g_FEW
  refine ok1 F sc_pairs_of rfl (fun x0 => [some x0, none, none, none, none, none, none, none, none, none]) (fun _ => rfl) (fun H Q x0 a0 h0 hp q cdv A outer s E hr => ⟨_, PSs.nox (pss_cons (ps_asg (pe_slice sl_tup (pv 0) po_none (po_some pe_int)) (pg_tup rfl (pgs_cons (pg_name (i := 1) sc_pairs_of.nd rfl (.inl rfl)) (pgs_cons (pg_name (i := 2) sc_pairs_of.nd rfl (.inl rfl)) pgs_nil))))
      (pss_cons (ps_set (i := 3) sc_pairs_of.nd rfl (.inl rfl) (pe_op op_add (pe_op op_mul pe_int (pe_ix ix_tup (pv 0) pe_int (fun _ _ => rfl))) pe_int))
      (pss_cons (ps_if (pt_cmpR op_le (pe_op op_sub (pv 2) (pv 1)) (pe_glob (v := .int 24) (by rfl) g_FEW ⟨_, rfl⟩) (nomark _)) (pss_one (ps_set (i := 4) sc_pairs_of.nd rfl (.inl rfl) (pe_listRg rfl (by rfl) T.b_list (prg_2 (by rfl) T.b_range (pv 1) (pe_op op_add (pv 2) pe_int))))) (pss_cons (ps_set (i := 5) sc_pairs_of.nd rfl (.inl rfl) (pe_call C_block.ok (hr.mono (by decide)) (by rfl) C_block.mg C_block.kp C_block.bd .nil pass0 (pa_cons (pv 0) (pa_cons (pe_op op_fdivW (pe_op op_add (pv 1) (pv 2)) pe_int) (pa_cons pe_int (pa_cons pe_int pa_nil))))))
      (pss_one (ps_set (i := 4) sc_pairs_of.nd rfl (.inl rfl) (pe_op op_cat (pe_op op_cat (pe_op op_cat (pe_lst (pa_cons (pv 1) (pa_cons (pv 2) pa_nil))) (pe_call C_block.ok (hr.mono (by decide)) (by rfl) C_block.mg C_block.kp C_block.bd .nil pass0 (pa_cons (pv 0) (pa_cons (pv 1) (pa_cons pe_int (pa_cons (pv 3) pa_nil)))))) (pv 5)) (pe_call C_block.ok (hr.mono (by decide)) (by rfl) C_block.mg C_block.kp C_block.bd .nil pass0 (pa_cons (pv 0) (pa_cons (pv 2) (pa_cons (pv 3) (pa_cons pe_int pa_nil))))))))))
      (pss_cons (ps_set (i := 6) sc_pairs_of.nd rfl (.inl rfl) (pe_lst pa_nil))
      (pss_cons (ps_for PassesOwn.never rfl (pi_list (pe_sortSet (by rfl) T.b_sorted (by rfl) T.b_set (pv 4))) (pg_name (i := 7) sc_pairs_of.nd rfl (.inr rfl)) (pss_cons (ps_set (i := 8) sc_pairs_of.nd rfl (.inl rfl) (pe_ifExp (pt_cmpR op_le (pe_op op_sub (pv 2) (pv 1)) (pe_glob (v := .int 24) (by rfl) g_FEW ⟨_, rfl⟩) (nomark _)) (pv 4) (pe_op op_cat (pv 4) (pe_call C_block.ok (hr.mono (by decide)) (by rfl) C_block.mg C_block.kp C_block.bd .nil pass0 (pa_cons (pv 0) (pa_cons (pv 7) (pa_cons pe_int (pa_cons (pv 3) pa_nil))))))))
      (pss_one (ps_set (i := 6) sc_pairs_of.nd rfl (.inl rfl) (pe_op op_cat (pv 6) (pe_lc (own := [("right", 9)]) (g := gName 9)  rfl sc_pairs_of.nd (pi_list (pe_sortSet (by rfl) T.b_sorted (by rfl) T.b_set (pv 8))) (blkOk_by (own := [("right", 9)]) (N := ["field", "low", "high", "near", "every", "middle", "found", "left", "some", "right"]) (sc := defScope s_pairs_of) (by decide +kernel)) (fun _ _ _ _ _ => (pg_name (i := 9) sc_pairs_of.nd rfl (.inl rfl))) (fun _ _ _ _ _ => (pts_one (pt_cmpR op_le (pv 7) (pv 9) (nomark _)))) (fun _ _ _ _ _ => (pe_tup (pa_cons (pv 7) (pa_cons (pv 9) pa_nil))))))))))
      (pss_one (ps_ret (pv 6)))))))), ?_⟩)
  have E0 : Ex H H := Ex.refl H
  have ok_f := hp
  obtain ⟨l0_f, lh_f, h1_f, s0_f, s1_f, b0_f, b1_f, off_f, ends_f, g0_f, g1_f, on_f⟩ := ok_f
  have ok_f : FOk a0 := ⟨l0_f, lh_f, h1_f, s0_f, s1_f, b0_f, b1_f, off_f, ends_f, g0_f, g1_f, on_f⟩
  refine q_unp (lo := none) (hi := (some 2)) (er_var rfl h0) (fun _ _ h => h) (fun _ _ h => ⟨2, rfl, h⟩) (by decide) rfl rfl (fun H1 e1 => ?_)
  have h0 := Rep.mono e1 h0
  have E0 := E0.trans e1
  refine (g_cons (.s .z) (g_cons (.s (.s .z)) (g_nil ?_)))
  obtain ⟨near, d_near⟩ : ∃ z : Int, z = ((2 * a0.big) + 2) := ⟨_, rfl⟩
  refine q_setI K (er_is (er_add (er_mul er_int (er_f6 (er_var rfl h0)) (by walk_at "mc")) er_int) d_near.symm) (fun _ => (.s (.s (.s .z)))) (fun H2 e2 => ?_)
  have h0 := Rep.mono e2 h0
  have E0 := E0.trans e2
  refine q_ifD K (b := (decide ((a0.high - a0.low) ≤ 24))) (fun σ' H' => ∃ o3_5, ∃ (w_every : V), ∃ (every : (List Int)), σ' = [some x0, some (V.int a0.low), some (V.int a0.high), some (V.int near), some w_every, o3_5, none, none, none, none] ∧ Ey H2 H' ∧ (Rep.rel K H' w_every every ∧ (every = everyH a0)) ∧ Ex H H') (fun σ' Z3 pp3 => ?_) (et_t (er_le (er_sub (er_varI rfl) (er_varI rfl)) er_int)) (fun c3 H3 e3 D3 dn3 => ?_) (fun c3 H3 e3 D3 dn3 => ?_)
  rotate_left
  · skip
    have h0 := Rep.mono e3 h0
    have E0 := E0.trans e3
    have jx3 := e3.y
    have hcond := c3
    obtain ⟨every1, d_every1⟩ : ∃ z : (List Int), z = (rng a0.low ((a0.high + 1) - a0.low : Int).toNat) := ⟨_, rfl⟩
    refine l_set (α := (List Int)) K (er_is (er_listRg2 (er_varI rfl) (er_add (er_varI rfl) er_int) ⟨by omega, by omega, by omega, by omega⟩ (by simp only [decide_eq_true_eq] at hcond; omega)) d_every1.symm) (fun _ => (.s (.s (.s (.s .z))))) (fun v4 H4 e4 r_4 => ?_)
    have h0 := Rep.mono e4 h0
    have jx3 := jx3.trans e4.y
    have E0 := E0.trans e4
    exact dn3 _ _ ⟨_, _, every1, rfl, jx3, ⟨r_4, by
      unfold everyH
      rw [if_pos (of_decide_eq_true hcond)]
      exact d_every1⟩, E0⟩
  · skip
    have h0 := Rep.mono e3 h0
    have E0 := E0.trans e3
    have jx3 := e3.y
    have hcond := c3
    obtain ⟨middle, d_middle⟩ : ∃ z : (List Int), z = (blockH a0 ((a0.low + a0.high) / 2) 0 0) := ⟨_, rfl⟩
    refine q_set (α := (List Int)) K (er_is (er_call4 (er_var rfl h0) (er_div (er_add (er_varI rfl) (er_varI rfl)) er_int (cdivw (by walk_at "sd") (by walk_at "sd"))) er_int er_int ⟨ok_f, by first | omega | exact everyH_in lh_f (by rw [← i_every]; exact sortU_mem.mp (by assumption)), by omega, by omega, by omega⟩) d_middle.symm) (fun _ => (.s (.s (.s (.s (.s .z)))))) (fun v5 H5 e5 r_5 => ?_)
    have h0 := Rep.mono e5 h0
    have jx3 := jx3.trans e5.y
    have E0 := E0.trans e5
    obtain ⟨every2, d_every2⟩ : ∃ z : (List Int), z = (((([a0.low, a0.high] : List Int) ++ (blockH a0 a0.low 0 near)) ++ middle) ++ (blockH a0 a0.high near 0)) := ⟨_, rfl⟩
    refine l_set (α := (List Int)) K (er_is (er_cat (er_cat (er_cat (er_lst (eas_cons (er_varI rfl) (eas_cons (er_varI rfl) eas_nil)) (Nat.le_of_ble_eq_true rfl)) (er_call4 (er_var rfl h0) (er_varI rfl) er_int (er_varI rfl) ⟨ok_f, by first | omega | exact everyH_in lh_f (by rw [← i_every]; exact sortU_mem.mp (by assumption)), by omega, by omega, by omega⟩) (by first | (have k1 := everyH_len (f := a0) g0_f g1_f; rw [← i_every] at k1; have k2 := blockH_len (f := a0) (c := Y_1) (a := 0) (b := near) (by omega); omega) | (have k2 := blockH_len (f := a0) (c := a0.low) (a := 0) (b := near) (by omega); have k3 := blockH_len (f := a0) (c := (a0.low + a0.high) / 2) (a := 0) (b := 0) (by omega); have k4 := blockH_len (f := a0) (c := a0.high) (a := near) (b := 0) (by omega); simp only [d_middle, List.length_append, List.length_cons, List.length_nil]; omega))) (er_var rfl r_5) (by first | (have k1 := everyH_len (f := a0) g0_f g1_f; rw [← i_every] at k1; have k2 := blockH_len (f := a0) (c := Y_1) (a := 0) (b := near) (by omega); omega) | (have k2 := blockH_len (f := a0) (c := a0.low) (a := 0) (b := near) (by omega); have k3 := blockH_len (f := a0) (c := (a0.low + a0.high) / 2) (a := 0) (b := 0) (by omega); have k4 := blockH_len (f := a0) (c := a0.high) (a := near) (b := 0) (by omega); simp only [d_middle, List.length_append, List.length_cons, List.length_nil]; omega))) (er_call4 (er_var rfl h0) (er_varI rfl) (er_varI rfl) er_int ⟨ok_f, by first | omega | exact everyH_in lh_f (by rw [← i_every]; exact sortU_mem.mp (by assumption)), by omega, by omega, by omega⟩) (by first | (have k1 := everyH_len (f := a0) g0_f g1_f; rw [← i_every] at k1; have k2 := blockH_len (f := a0) (c := Y_1) (a := 0) (b := near) (by omega); omega) | (have k2 := blockH_len (f := a0) (c := a0.low) (a := 0) (b := near) (by omega); have k3 := blockH_len (f := a0) (c := (a0.low + a0.high) / 2) (a := 0) (b := 0) (by omega); have k4 := blockH_len (f := a0) (c := a0.high) (a := near) (b := 0) (by omega); simp only [d_middle, List.length_append, List.length_cons, List.length_nil]; omega))) d_every2.symm) (fun _ => (.s (.s (.s (.s .z))))) (fun v6 H6 e6 r_6 => ?_)
    have h0 := Rep.mono e6 h0
    have r_5 := Rep.mono e6 r_5
    have jx3 := jx3.trans e6.y
    have E0 := E0.trans e6
    exact dn3 _ _ ⟨_, _, every2, rfl, jx3, ⟨r_6, by
      unfold everyH
      rw [if_neg (of_decide_eq_false hcond), d_every2, d_middle, d_near]
      rfl⟩, E0⟩
  obtain ⟨o3_5, w_every, every, rfl, pp3, ⟨r_every, i_every⟩, E0⟩ := pp3
  have h0 := Rep.moY pp3 h0
  
  refine q_set (α := (List (Int × Int))) K (er_lst eas_nil (Nat.le_of_ble_eq_true rfl)) (fun _ => (.s (.s (.s (.s (.s (.s .z))))))) (fun v7 H7 e7 r_7 => ?_)
  have h0 := Rep.mono e7 h0
  have r_every := Rep.mono e7 r_every
  have E0 := E0.trans e7
  refine q_for K (α := Int) (xs := (sortU every)) (wk_list (er_sortSet (er_var rfl r_every) (by have k1 := everyH_len (f := a0) g0_f g1_f; rw [← i_every] at k1; omega))) (fun pre8 σ' H' => ∃ o8_7 o8_8, ∃ (w_found : V), ∃ (found : (List (Int × Int))), σ' = [some x0, some (V.int a0.low), some (V.int a0.high), some (V.int near), some w_every, o3_5, some w_found, o8_7, o8_8, none] ∧ Ey H7 H' ∧ (Rep.rel K H' w_found found ∧ (found = pre8.flatMap (pairsAt a0))) ∧ Ex H H') (fun H1 e1 => ⟨_, _, _, ([] : List (Int × Int)), rfl, e1.y, ⟨(Rep.mono e1 r_7), rfl⟩, E0.trans e1⟩) (fun L8 pre8 y8 post8 v8 σ' A8 B8 b8 hx8 p8 pp8 c8 r8 => ?_) (fun σ' Z8 z8 pp8 => ?_)
  · obtain ⟨o8_7, o8_8, w_found, found, rfl, q8, ⟨r_found, i_found⟩, E0⟩ := pp8
    have hm8 : y8 ∈ (sortU every) := by
      rw [hx8]
      exact List.mem_append_right _ (List.mem_cons_self ..)
    have t8 := p8.trans c8.y
    have g8 := q8.trans c8.y
    have h0 := Rep.moY g8 h0
    have r_every := Rep.moY g8 r_every
    have E0 := E0.trans c8
    have r_found := Rep.mono c8 r_found
    cases r8
    refine g_name1 (.s (.s (.s (.s (.s (.s (.s .z))))))) ?_
    obtain ⟨some_, d_some_⟩ : ∃ z : (List Int), z = (if (decide ((a0.high - a0.low) ≤ 24)) = true then every else (every ++ (blockH a0 y8 0 near))) := ⟨_, rfl⟩
    refine q_set (α := (List Int)) K (er_is (er_if (et_t (er_le (er_sub (er_varI rfl) (er_varI rfl)) er_int)) (fun hc => (er_var rfl r_every)) (fun hc => (er_cat (er_var rfl r_every) (er_call4 (er_var rfl h0) (er_varI rfl) er_int (er_varI rfl) ⟨ok_f, by first | omega | exact everyH_in lh_f (by rw [← i_every]; exact sortU_mem.mp (by assumption)), by omega, by omega, by omega⟩) (by first | (have k1 := everyH_len (f := a0) g0_f g1_f; rw [← i_every] at k1; have k2 := blockH_len (f := a0) (c := y8) (a := 0) (b := near) (by omega); omega) | (have k2 := blockH_len (f := a0) (c := a0.low) (a := 0) (b := near) (by omega); have k3 := blockH_len (f := a0) (c := (a0.low + a0.high) / 2) (a := 0) (b := 0) (by omega); have k4 := blockH_len (f := a0) (c := a0.high) (a := near) (b := 0) (by omega); simp only [d_middle, List.length_append, List.length_cons, List.length_nil]; omega))))) d_some_.symm) (fun _ => (.s (.s (.s (.s (.s (.s (.s (.s .z))))))))) (fun v9 H9 e9 r_9 => ?_)
    have h0 := Rep.mono e9 h0
    have r_every := Rep.mono e9 r_every
    have r_found := Rep.mono e9 r_found
    have g8 := g8.trans e9.y
    have t8 := t8.trans e9.y
    have E0 := E0.trans e9
    have hsm : some_ = someH a0 y8 := by
      rw [d_some_, i_every, d_near]
      unfold someH
      by_cases hw : a0.high - a0.low ≤ 24
      · rw [if_pos hw, if_pos (decide_eq_true hw)]
      · rw [if_neg hw, if_neg (by rw [decide_eq_true_eq]; exact hw)]
        rfl
    obtain ⟨found1, d_found1⟩ : ∃ z : (List (Int × Int)), z = (found ++ (((sortU some_).filter fun right => (decide (y8 ≤ right))).map fun right => (y8, right))) := ⟨_, rfl⟩
    refine l_set (α := (List (Int × Int))) K (er_is (er_catB (er_var rfl r_found) (er_lc (fun right : Int => (decide (y8 ≤ right))) (fun right : Int => (y8, right)) (wk_list (er_sortSet (er_var rfl r_9) (by have k4 := someH_len (f := a0) (l := y8) g0_f g1_f; rw [← hsm] at k4; omega))) (by have k3 := sortU_len (xs := some_); have k4 := someH_len (f := a0) (l := y8) g0_f g1_f; rw [← hsm] at k4; omega) (fun right w11 H11 hx11 e11 r11 Q11 q11 => gn_ok (s0 := [some x0, some (V.int a0.low), some (V.int a0.high), some (V.int near), some w_every, o3_5, some w_found, some (V.int y8), some v9, none]) (s1 := fun w11 => [some x0, some (V.int a0.low), some (V.int a0.high), some (V.int near), some w_every, o3_5, some w_found, some (V.int y8), some v9, some w11]) rfl (.s (.s (.s (.s (.s (.s (.s (.s (.s .z))))))))) rfl (fun hw => q11 _ H11 (Ex.refl _) hw (et_t (er_le (er_varI rfl) (er_var rfl r11))) (fun hf => (er_tup2 (er_varI rfl) (er_var rfl r11)))))) (by rw [i_found, List.length_map]; have k1 := pairs_pre hx8 (Nat.le_trans sortU_len (by rw [i_every]; exact everyH_len g0_f g1_f)) g0_f g1_f; have k2 := List.length_filter_le (fun right => decide (y8 ≤ right)) (sortU some_); have k3 := sortU_len (xs := some_); have k4 := someH_len (f := a0) (l := y8) g0_f g1_f; rw [← hsm] at k4; omega)) d_found1.symm) (fun _ => (.s (.s (.s (.s (.s (.s .z))))))) (fun v10 H10 e10 r_10 => ?_)
    have h0 := Rep.mono e10 h0
    have r_every := Rep.mono e10 r_every
    have r_found := Rep.mono e10 r_found
    have r_9 := Rep.mono e10 r_9
    have g8 := g8.trans e10.y
    have t8 := t8.trans e10.y
    have E0 := E0.trans e10
    exact ⟨t8, _, _, _, found1, rfl, g8, ⟨r_10, by rw [d_found1, i_found, hsm, List.flatMap_append]; simp only [List.flatMap_cons, List.flatMap_nil, List.append_nil]; rfl⟩, E0⟩
  obtain ⟨o8_7, o8_8, w_found, found, rfl, q8, ⟨r_found, i_found⟩, E0⟩ := pp8
  have h0 := Rep.moY q8 h0
  have r_every := Rep.moY q8 r_every
  refine l_ret (α := (List (Int × Int))) K (er_var rfl r_found) (fun v12 H12 e12 r12 => q v12 H12 (E0.trans e12) ?_)
  refine (congrArg (Rep.rel K H12 v12) (?_ : (found : (List (Int × Int))) = _)).mp r12
  rw [i_found, i_every]
  rfl
theorem sc_settled : FnScope ["tie", "pair", "side", "new", "left", "right", "one", "other"] ["tie", "pair", "side", "new"] (defScope s_settled) := ⟨rfl, rfl, rfl, by decide +kernel, rfl, by decide +kernel, by decide +kernel⟩
abbrev SP_settled (K : PySem.W.Frag) : Sp := sp4 (α := Str) (β := (Int × Int)) (γ := Str) (ε := Int) (δ := (Int × Int)) K (fun _ _ _ _ => True) (fun t_ p_ s_ n_ => settle t_ p_ s_ n_)
theorem ok_settled {P : Program} {w : World} {K : PySem.W.Frag} {mg : Str → Option Value} {base : Heap} (T : Top K mg) {f : Addr} {fd : FuncData} (F : FnP K "settled" s_settled f fd) : FnOk P w K mg base CX0 1 f fd ["tie", "pair", "side", "new"] (SP_settled K) := by
  refine ok4 F sc_settled rfl (fun x0 x1 x2 x3 => [some x0, some x1, some x2, some x3, none, none, none, none]) (fun _ _ _ _ => rfl) (fun H Q x0 x1 x2 x3 a0 a1 a2 a3 h0 h1 h2 h3 hp q cdv A outer s E hr => ⟨_, PSs.nox (pss_cons (ps_asg (pv 1) (pg_tup rfl (pgs_cons (pg_name (i := 4) sc_settled.nd rfl (.inl rfl)) (pgs_cons (pg_name (i := 5) sc_settled.nd rfl (.inl rfl)) pgs_nil))))
      (pss_cons (ps_asg (pe_ifExp (pt_cmpR op_eq (pv 2) pe_str (nomark _)) (pe_tup (pa_cons (pv 3) (pa_cons (pv 5) pa_nil))) (pe_tup (pa_cons (pv 4) (pa_cons (pv 3) pa_nil)))) (pg_tup rfl (pgs_cons (pg_name (i := 6) sc_settled.nd rfl (.inl rfl)) (pgs_cons (pg_name (i := 7) sc_settled.nd rfl (.inl rfl)) pgs_nil))))
      (pss_cons (ps_if (pt_cmpR op_le (pv 6) (pv 7) (nomark _)) (pss_one (ps_ret (pe_tup (pa_cons (pv 6) (pa_cons (pv 7) pa_nil))))) pss_nil)
      (pss_cons (ps_if (pt_cmpR op_eq (pv 0) pe_str (nomark _)) (pss_one (ps_ret (pe_tup (pa_cons (pv 3) (pa_cons (pv 3) pa_nil))))) pss_nil)
      (pss_cons (ps_if (pt_cmpR op_eq (pv 0) pe_str (nomark _)) (pss_one (ps_ret (pv 1))) pss_nil)
      (pss_one (ps_ret (pe_ifExp (pt_cmpR op_eq (pv 2) pe_str (nomark _)) (pe_tup (pa_cons (pv 5) (pa_cons (pv 5) pa_nil))) (pe_tup (pa_cons (pv 4) (pa_cons (pv 4) pa_nil))))))))))), ?_⟩)
  cases h0
  cases h2
  cases h3
  have E0 : Ex H H := Ex.refl H
  refine q_unpP (α := Int) (β := Int) K (er_var rfl h1) (fun v1a v1b H1 e1 r_1a r_1b => ?_)
  have h1 := Rep.mono e1 h1
  have E0 := E0.trans e1
  cases r_1a
  cases r_1b
  refine (g_cons (.s (.s (.s (.s .z)))) (g_cons (.s (.s (.s (.s (.s .z))))) (g_nil ?_)))
  obtain ⟨one, d_one⟩ : ∃ z : (Int × Int), z = (if (decide (a2 = ("left" : Str))) = true then (a3, a1.2) else (a1.1, a3)) := ⟨_, rfl⟩
  refine q_unpP (α := Int) (β := Int) K (er_is (er_if (et_t (er_eqS (er_varS rfl) er_str)) (fun hc => (er_tup2 (er_varI rfl) (er_varI rfl))) (fun hc => (er_tup2 (er_varI rfl) (er_varI rfl)))) d_one.symm) (fun v2a v2b H2 e2 r_2a r_2b => ?_)
  have h1 := Rep.mono e2 h1
  have E0 := E0.trans e2
  cases r_2a
  cases r_2b
  refine (g_cons (.s (.s (.s (.s (.s (.s .z)))))) (g_cons (.s (.s (.s (.s (.s (.s (.s .z))))))) (g_nil ?_)))
  refine q_if0 K (b := (decide (one.1 ≤ one.2))) (et_t (er_le (er_varI rfl) (er_varI rfl))) (fun c3 H3 e3 => ?_) (fun c3 H3 e3 => ?_)
  · skip
    have h1 := Rep.mono e3 h1
    have E0 := E0.trans e3
    have hcond := c3
    refine l_ret (α := (Int × Int)) K (er_tup2 (er_varI rfl) (er_varI rfl)) (fun v4 H4 e4 r4 => q v4 H4 (E0.trans e4) ?_)
    refine (congrArg (Rep.rel K H4 v4) (?_ : ((one.1, one.2) : (Int × Int)) = _)).mp r4
    exact sd1 d_one hcond
  have h1 := Rep.mono e3 h1
  have E0 := E0.trans e3
  have hcond := c3
  refine q_if0 K (b := (decide (a0 = ("push" : Str)))) (et_t (er_eqS (er_varS rfl) er_str)) (fun c5 H5 e5 => ?_) (fun c5 H5 e5 => ?_)
  · skip
    have h1 := Rep.mono e5 h1
    have E0 := E0.trans e5
    have hcond := c5
    refine l_ret (α := (Int × Int)) K (er_tup2 (er_varI rfl) (er_varI rfl)) (fun v6 H6 e6 r6 => q v6 H6 (E0.trans e6) ?_)
    refine (congrArg (Rep.rel K H6 v6) (?_ : ((a3, a3) : (Int × Int)) = _)).mp r6
    exact sd2 d_one c3 c5
  have h1 := Rep.mono e5 h1
  have E0 := E0.trans e5
  have hcond := c5
  refine q_if0 K (b := (decide (a0 = ("refuse" : Str)))) (et_t (er_eqS (er_varS rfl) er_str)) (fun c7 H7 e7 => ?_) (fun c7 H7 e7 => ?_)
  · skip
    have h1 := Rep.mono e7 h1
    have E0 := E0.trans e7
    have hcond := c7
    refine l_ret (α := (Int × Int)) K (er_var rfl h1) (fun v8 H8 e8 r8 => q v8 H8 (E0.trans e8) ?_)
    refine (congrArg (Rep.rel K H8 v8) (?_ : (a1 : (Int × Int)) = _)).mp r8
    exact sd3 d_one c3 c5 c7
  have h1 := Rep.mono e7 h1
  have E0 := E0.trans e7
  have hcond := c7
  refine l_ret (α := (Int × Int)) K (er_if (et_t (er_eqS (er_varS rfl) er_str)) (fun hc => (er_tup2 (er_varI rfl) (er_varI rfl))) (fun hc => (er_tup2 (er_varI rfl) (er_varI rfl)))) (fun v9 H9 e9 r9 => q v9 H9 (E0.trans e9) ?_)
  refine (congrArg (Rep.rel K H9 v9) (?_ : ((if (decide (a2 = ("left" : Str))) = true then (a1.2, a1.2) else (a1.1, a1.1)) : (Int × Int)) = _)).mp r9
  exact sd4 d_one c3 c5 c7
theorem sc_aim_of : FnScope ["field", "value", "many", "step", "base", "off"] ["field", "value", "many"] (defScope s_aim_of) := ⟨rfl, rfl, rfl, by decide +kernel, rfl, by decide +kernel, by decide +kernel⟩
abbrev SP_aim_of (K : PySem.W.Frag) : Sp := sp3 (α := Fld) (β := Int) (γ := Int) (δ := Int) K (fun f _ _ => FL f) (aimOf)
theorem ok_aim_of {P : Program} {w : World} {K : PySem.W.Frag} {mg : Str → Option Value} {base : Heap} (T : Top K mg) {f : Addr} {fd : FuncData} (F : FnP K "aim_of" s_aim_of f fd) : FnOk P w K mg base CX0 1 f fd ["field", "value", "many"] (SP_aim_of K) := by
  refine ok3 F sc_aim_of rfl (fun x0 x1 x2 => [some x0, some x1, some x2, none, none, none]) (fun _ _ _ => rfl) (fun H Q x0 x1 x2 a0 a1 a2 h0 h1 h2 hp q cdv A outer s E hr => ⟨_, PSs.nox (pss_cons (ps_asg (pe_slice sl_tup (pv 0) (po_some pe_int) (po_some pe_int)) (pg_tup rfl (pgs_cons (pg_name (i := 3) sc_aim_of.nd rfl (.inl rfl)) (pgs_cons (pg_name (i := 4) sc_aim_of.nd rfl (.inl rfl)) (pgs_cons (pg_name (i := 5) sc_aim_of.nd rfl (.inl rfl)) pgs_nil)))))
      (pss_cons (ps_if (pt_cmpR op_eq (pv 5) pe_str (nomark _)) (pss_one (ps_ret (pe_op op_add (pv 1) (pe_op op_mul (pv 2) (pv 3))))) pss_nil)
      (pss_cons (ps_if (pt_cmpR op_eq (pv 5) pe_str (nomark _)) (pss_one (ps_ret (pe_op op_add (pv 4) (pe_op op_mul (pe_op op_add (pe_op op_fdivW (pe_op op_add (pe_op op_mul pe_int (pe_op op_sub (pv 1) (pv 4))) (pv 3)) (pe_op op_mul pe_int (pv 3))) (pv 2)) (pv 3))))) pss_nil)
      (pss_cons (ps_if (pt_cmpR op_gt (pv 2) pe_int (nomark _)) (pss_one (ps_ret (pe_op op_add (pv 4) (pe_op op_mul (pe_op op_add (pe_op op_fdivW (pe_op op_sub (pv 1) (pv 4)) (pv 3)) (pv 2)) (pv 3))))) pss_nil)
      (pss_one (ps_ret (pe_op op_add (pv 4) (pe_op op_mul (pe_op op_add (pe_un un_neg (pe_op op_fdivW (pe_op op_sub (pv 4) (pv 1)) (pv 3))) (pv 2)) (pv 3))))))))), ?_⟩)
  cases h1
  cases h2
  obtain ⟨l0, lh, hh1, s0, s1, b0, b1⟩ := hp
  refine q_unp (lo := (some 2)) (hi := (some 5)) (by walk_at "ev") (fun _ _ h => ⟨2, rfl, h⟩) (fun _ _ h => ⟨5, rfl, h⟩) (by decide) rfl rfl (fun H1 e1 => ?_)
  refine (g_cons (.s (.s (.s .z))) (g_cons (.s (.s (.s (.s .z)))) (g_cons (.s (.s (.s (.s (.s .z))))) (g_nil ?_))))
  refine q_if0 K (by walk_at "et") (fun c2 H2 e2 => ?_) (fun c2 H2 e2 => ?_)
  · simp only [Bool.and_eq_true, Bool.or_eq_true, decide_eq_true_eq, Bool.not_eq_true', decide_eq_false_iff_not] at c2
    refine l_ret (α := Int) K (by walk_at "ev") (fun v3 H3 e3 r3 => ?_)
    refine q v3 H3 (by walk_at "ex") ?_
    refine (congrArg (Rep.rel K H3 v3) ?_).mp r3
    simp only [aimOf, if_pos c2]
  rw [← Bool.not_eq_true] at c2; simp only [Bool.and_eq_true, Bool.or_eq_true, decide_eq_true_eq, Bool.not_eq_true', decide_eq_false_iff_not] at c2
  refine q_if0 K (by walk_at "et") (fun c4 H4 e4 => ?_) (fun c4 H4 e4 => ?_)
  · simp only [Bool.and_eq_true, Bool.or_eq_true, decide_eq_true_eq, Bool.not_eq_true', decide_eq_false_iff_not] at c4
    refine l_ret (α := Int) K (by walk_at "ev") (fun v5 H5 e5 r5 => ?_)
    refine q v5 H5 (by walk_at "ex") ?_
    refine (congrArg (Rep.rel K H5 v5) ?_).mp r5
    simp only [aimOf, if_neg c2, if_pos c4]
  rw [← Bool.not_eq_true] at c4; simp only [Bool.and_eq_true, Bool.or_eq_true, decide_eq_true_eq, Bool.not_eq_true', decide_eq_false_iff_not] at c4
  refine q_if0 K (by walk_at "et") (fun c6 H6 e6 => ?_) (fun c6 H6 e6 => ?_)
  · simp only [Bool.and_eq_true, Bool.or_eq_true, decide_eq_true_eq, Bool.not_eq_true', decide_eq_false_iff_not] at c6
    refine l_ret (α := Int) K (by walk_at "ev") (fun v7 H7 e7 r7 => ?_)
    refine q v7 H7 (by walk_at "ex") ?_
    refine (congrArg (Rep.rel K H7 v7) ?_).mp r7
    simp only [aimOf, if_neg c2, if_neg c4, if_pos c6]
  rw [← Bool.not_eq_true] at c6; simp only [Bool.and_eq_true, Bool.or_eq_true, decide_eq_true_eq, Bool.not_eq_true', decide_eq_false_iff_not] at c6
  refine l_ret (α := Int) K (by walk_at "ev") (fun v8 H8 e8 r8 => ?_)
  refine q v8 H8 (by walk_at "ex") ?_
  refine (congrArg (Rep.rel K H8 v8) ?_).mp r8
  simp only [aimOf, if_neg c2, if_neg c4, if_neg c6]
theorem sc_many_steps : FnScope ["field", "key"] ["field", "key"] (defScope s_many_steps) := ⟨rfl, rfl, rfl, by decide +kernel, rfl, by decide +kernel, by decide +kernel⟩
abbrev SP_many_steps (K : PySem.W.Frag) : Sp := sp2 (α := Fld) (β := Sg) (δ := Int) K (fun _ s => isMove s.c) (fun f s => manySteps f s.c)
theorem ok_many_steps {P : Program} {w : World} {K : PySem.W.Frag} {mg : Str → Option Value} {base : Heap} (T : Top K mg) {f : Addr} {fd : FuncData} (F : FnP K "many_steps" s_many_steps f fd) : FnOk P w K mg base CX0 1 f fd ["field", "key"] (SP_many_steps K) := by
  refine ok2 F sc_many_steps rfl (fun x0 x1 => [some x0, some x1]) (fun _ _ => rfl) (fun H Q x0 x1 a0 a1 h0 h1 hp q cdv A outer s E hr => ⟨_, PSs.nox (pss_one (ps_ret (pe_dget (hu_of hr) (pe_disp (pps_cons pe_str pe_int (pps_cons pe_str (pe_un un_neg pe_int) (pps_cons pe_str (pe_ix ix_tup (pv 0) pe_int (fun _ _ => rfl)) (pps_cons pe_str (pe_un un_neg (pe_ix ix_tup (pv 0) pe_int (fun _ _ => rfl))) pps_nil)))) rfl rfl (fun z => by cases z) (by decide)) (pv 1) (fun _ _ => rfl)))), ?_⟩)
  cases h1
  obtain ⟨c⟩ := a1
  refine l_ret (α := Int) K (er_dsp (i := manySteps a0 c) (eps_cons er_int (eps_cons (er_neg er_int) (eps_cons (er_f6 (er_var rfl h0)) (eps_cons (er_neg (er_f6 (er_var rfl h0))) eps_nil)))) (er_sg (er_var rfl rfl)) (Nat.le_of_ble_eq_true rfl) ?_) (fun v H1 e1 r => q v H1 e1 r)
  rcases hp with z | z | z | z <;> (have z1 : c = _ := z; subst z1; rfl)
theorem sc_press_key : FnScope ["field", "value", "key", "low", "high", "aim", "above"] ["field", "value", "key"] (defScope s_press_key) := ⟨rfl, rfl, rfl, by decide +kernel, rfl, by decide +kernel, by decide +kernel⟩
abbrev SP_press_key (K : PySem.W.Frag) : Sp := sp3 (α := Fld) (β := Int) (γ := Sg) (δ := Int) K (fun f _ s => FL f ∧ isKey s.c) (fun f v s => pressKey f v s.c)
theorem ok_press_key {P : Program} {w : World} {K : PySem.W.Frag} {mg : Str → Option Value} {base : Heap} (T : Top K mg) {f_many_steps : Addr} {fd_many_steps : FuncData} (C_many_steps : Cal P w K mg base CX0 1 "many_steps" ["field", "key"] (SP_many_steps K) f_many_steps fd_many_steps) {f_aim_of : Addr} {fd_aim_of : FuncData} (C_aim_of : Cal P w K mg base CX0 1 "aim_of" ["field", "value", "many"] (SP_aim_of K) f_aim_of fd_aim_of) {f : Addr} {fd : FuncData} (F : FnP K "press_key" s_press_key f fd) : FnOk P w K mg base CX0 2 f fd ["field", "value", "key"] (SP_press_key K) := by
  refine ok3 F sc_press_key rfl (fun x0 x1 x2 => [some x0, some x1, some x2, none, none, none, none]) (fun _ _ _ => rfl) (fun H Q x0 x1 x2 a0 a1 a2 h0 h1 h2 hp q cdv A outer s E hr => ⟨_, PSs.nox (pss_cons (ps_asg (pe_slice sl_tup (pv 0) po_none (po_some pe_int)) (pg_tup rfl (pgs_cons (pg_name (i := 3) sc_press_key.nd rfl (.inl rfl)) (pgs_cons (pg_name (i := 4) sc_press_key.nd rfl (.inl rfl)) pgs_nil))))
      (pss_cons (ps_if (pt_cmpR op_inS (pv 2) pe_str rfl) (pss_one (ps_ret (pe_dget (hu_of hr) (pe_disp (pps_cons pe_str (pv 3) (pps_cons pe_str (pv 4) pps_nil)) rfl rfl (fun z => by cases z) (by decide)) (pv 2) (fun _ _ => rfl)))) pss_nil)
      (pss_cons (ps_set (i := 5) sc_press_key.nd rfl (.inl rfl) (pe_call C_aim_of.ok (hr.mono (by decide)) (by rfl) C_aim_of.mg C_aim_of.kp C_aim_of.bd .nil pass0 (pa_cons (pv 0) (pa_cons (pv 1) (pa_cons (pe_call C_many_steps.ok (hr.mono (by decide)) (by rfl) C_many_steps.mg C_many_steps.kp C_many_steps.bd .nil pass0 (pa_cons (pv 0) (pa_cons (pv 2) pa_nil))) pa_nil)))))
      (pss_cons (ps_if (pt_chain op_le op_le (pv 3) (pv 5) (pv 4)) (pss_one (ps_ret (pv 5))) pss_nil)
      (pss_cons (ps_if (pt_cmpR op_eq (pe_ix ix_tup (pv 0) pe_int (fun _ _ => rfl)) pe_str (nomark _)) (pss_one (ps_ret (pv 1))) pss_nil)
      (pss_cons (ps_set (i := 6) sc_press_key.nd rfl (.inl rfl) (pe_cmpR op_gt (pv 5) (pv 4) (nomark _)))
      (pss_cons (ps_if (pt_cmpR op_eq (pe_ix ix_tup (pv 0) pe_int (fun _ _ => rfl)) pe_str (nomark _)) (pss_one (ps_set (i := 6) sc_press_key.nd rfl (.inl rfl) (pe_not (pv 6)))) pss_nil)
      (pss_one (ps_ret (pe_ifExp (pt_val (pv 6)) (pv 4) (pv 3))))))))))), ?_⟩)
  cases h1
  cases h2
  obtain ⟨c⟩ := a2
  obtain ⟨hf, hk⟩ := hp
  have ehe : ∀ c : Nat, c ∈ ("he" : Str).cps.toList ↔ c = 104 ∨ c = 101 := by
    intro c
    have e : ("he" : Str).cps.toList = [104, 101] := by decide
    rw [e]
    simp only [List.mem_cons, List.not_mem_nil, or_false]
  refine q_unp (lo := none) (hi := (some 2)) (by walk_at "ev") (fun _ _ h => h) (fun _ _ h => ⟨2, rfl, h⟩) (by decide) rfl rfl (fun H1 e1 => ?_)
  refine (g_cons (.s (.s (.s .z))) (g_cons (.s (.s (.s (.s .z)))) (g_nil ?_)))
  have hs : ∀ H1, ER K (tVar 2) [some x0, some (V.int a1), some (V.str ⟨#[c]⟩), some (V.int a0.low), some (V.int a0.high), none, none] H1 (Sg.mk c) := fun H1 => er_var rfl rfl
  refine q_if0 K (et_t (er_inS (hs H1) er_str)) (fun c2 H2 e2 => ?_) (fun c2 H2 e2 => ?_)
  · simp only [decide_eq_true_eq, ehe] at c2
    refine l_ret (α := Int) K (er_dsp (i := if c = 104 then a0.low else a0.high) (eps_cons (er_varI rfl) (eps_cons (er_varI rfl) eps_nil)) (er_sg (hs H2)) (Nat.le_of_ble_eq_true rfl) ?_) (fun v H3 e3 r => q v H3 (by walk_at "ex") ?_)
    · rcases c2 with z | z <;> (subst z; rfl)
    · refine (congrArg (Rep.rel K H3 v) ?_).mp r
      rcases c2 with z | z <;> (subst z; rfl)
  have hc : ¬ (c = 104 ∨ c = 101) := by
    simp only [decide_eq_false_iff_not, ehe] at c2
    exact c2
  have hm : isMove c := by
    rcases hk with z | z | z | z | z | z
    · exact .inl z
    · exact .inr (.inl z)
    · exact .inr (.inr (.inl z))
    · exact .inr (.inr (.inr z))
    · exact absurd (.inl z) hc
    · exact absurd (.inr z) hc
  have hpk : pressKey a0 a1 c = (if a0.low ≤ aimOf a0 a1 (manySteps a0 c) ∧ aimOf a0 a1 (manySteps a0 c) ≤ a0.high then aimOf a0 a1 (manySteps a0 c)
      else if a0.ends = "stay" then a1 else if a0.ends = "round" then (if aimOf a0 a1 (manySteps a0 c) > a0.high then a0.low else a0.high) else (if aimOf a0 a1 (manySteps a0 c) > a0.high then a0.high else a0.low)) := by
    unfold pressKey
    rw [if_neg (fun z => hc (.inl z)), if_neg (fun z => hc (.inr z))]
  have h0' := Rep.mono (e1.trans e2) h0
  refine q_setI K (er_call3 (er_var rfl h0') (er_varI rfl) (er_call2 (er_var rfl h0') (hs H2) hm) hf) (fun _ => (.s (.s (.s (.s (.s .z)))))) (fun H3 e3 => ?_)
  generalize aimOf a0 a1 (manySteps a0 c) = aim at hpk
  refine q_if0 K (et_t (er_chain (er_varI rfl) (er_varI rfl) (er_varI rfl))) (fun c4 H4 e4 => ?_) (fun c4 H4 e4 => ?_)
  · simp only [Bool.and_eq_true, decide_eq_true_eq] at c4
    refine l_ret (α := Int) K (er_varI rfl) (fun v H5 e5 r => q v H5 (by walk_at "ex") ?_)
    rw [hpk, if_pos c4]
    exact r
  rw [← Bool.not_eq_true] at c4
  simp only [Bool.and_eq_true, decide_eq_true_eq] at c4
  rw [if_neg c4] at hpk
  refine q_if0 K (et_t (er_eqS (by walk_at "ev") er_str)) (fun c5 H5 e5 => ?_) (fun c5 H5 e5 => ?_)
  · simp only [decide_eq_true_eq] at c5
    refine l_ret (α := Int) K (er_varI rfl) (fun v H6 e6 r => q v H6 (by walk_at "ex") ?_)
    rw [hpk, if_pos c5]
    exact r
  simp only [decide_eq_false_iff_not] at c5
  rw [if_neg c5] at hpk
  refine q_setB K (er_gt (er_varI rfl) (er_varI rfl)) (fun _ => (.s (.s (.s (.s (.s (.s .z))))))) (fun H6 e6 => ?_)
  refine q_if0 K (et_t (er_eqS (by walk_at "ev") er_str)) (fun c7 H7 e7 => ?_) (fun c7 H7 e7 => ?_)
  · simp only [decide_eq_true_eq] at c7
    rw [if_pos c7] at hpk
    refine l_set (α := Bool) K (er_not (er_varB rfl)) (fun _ => (.s (.s (.s (.s (.s (.s .z))))))) (fun v8 H8 e8 r8 => ?_)
    cases r8
    refine l_ret (α := Int) K (er_if (et_b (er_varB rfl)) (fun _ => er_varI rfl) (fun _ => er_varI rfl)) (fun v H9 e9 r => q v H9 (by walk_at "ex") ?_)
    rw [hpk]
    refine (congrArg (Rep.rel K H9 v) ?_).mp r
    by_cases z : a0.high < aim
    · rw [if_pos z, decide_eq_true z]
      rfl
    · rw [if_neg z, decide_eq_false z]
      rfl
  simp only [decide_eq_false_iff_not] at c7
  rw [if_neg c7] at hpk
  refine l_ret (α := Int) K (er_if (et_b (er_varB rfl)) (fun _ => er_varI rfl) (fun _ => er_varI rfl)) (fun v H9 e9 r => q v H9 (by walk_at "ex") ?_)
  rw [hpk]
  refine (congrArg (Rep.rel K H9 v) ?_).mp r
  by_cases z : a0.high < aim
  · rw [if_pos z, decide_eq_true z]
    rfl
  · rw [if_neg z, decide_eq_false z]
    rfl
theorem sc_press_tied : FnScope ["field", "tie", "pair", "press", "side", "key"] ["field", "tie", "pair", "press"] (defScope s_press_tied) := ⟨rfl, rfl, rfl, by decide +kernel, rfl, by decide +kernel, by decide +kernel⟩
abbrev SP_press_tied (K : PySem.W.Frag) : Sp := sp4 (α := Fld) (β := Str) (γ := (Int × Int)) (ε := (Str × Sg)) (δ := (Int × Int)) K (fun f_ t_ p_ r_ => FL f_ ∧ (r_.1 = "left" ∨ r_.1 = "right") ∧ isKey r_.2.c) (fun f_ t_ p_ r_ => pressTied f_ t_ p_ r_.1 r_.2.c)
theorem ok_press_tied {P : Program} {w : World} {K : PySem.W.Frag} {mg : Str → Option Value} {base : Heap} (T : Top K mg) {f_press_key : Addr} {fd_press_key : FuncData} (C_press_key : Cal P w K mg base CX0 2 "press_key" ["field", "value", "key"] (SP_press_key K) f_press_key fd_press_key) {f_settled : Addr} {fd_settled : FuncData} (C_settled : Cal P w K mg base CX0 1 "settled" ["tie", "pair", "side", "new"] (SP_settled K) f_settled fd_settled) {f : Addr} {fd : FuncData} (F : FnP K "press_tied" s_press_tied f fd) : FnOk P w K mg base CX0 3 f fd ["field", "tie", "pair", "press"] (SP_press_tied K) := by
  refine ok4 F sc_press_tied rfl (fun x0 x1 x2 x3 => [some x0, some x1, some x2, some x3, none, none]) (fun _ _ _ _ => rfl) (fun H Q x0 x1 x2 x3 a0 a1 a2 a3 h0 h1 h2 h3 hp q cdv A outer s E hr => ⟨_, PSs.nox (pss_cons (ps_asg (pv 3) (pg_tup rfl (pgs_cons (pg_name (i := 4) sc_press_tied.nd rfl (.inl rfl)) (pgs_cons (pg_name (i := 5) sc_press_tied.nd rfl (.inl rfl)) pgs_nil))))
      (pss_one (ps_ret (pe_call C_settled.ok (hr.mono (by decide)) (by rfl) C_settled.mg C_settled.kp C_settled.bd .nil pass0 (pa_cons (pv 1) (pa_cons (pv 2) (pa_cons (pv 4) (pa_cons (pe_call C_press_key.ok (hr.mono (by decide)) (by rfl) C_press_key.mg C_press_key.kp C_press_key.bd .nil pass0 (pa_cons (pv 0) (pa_cons (pe_ix ix_tup (pv 2) (pe_callTy call_int1 (by rfl) T.b_int (by decide +kernel) (pa_cons (pe_cmpR op_eq (pv 4) pe_str (nomark _)) pa_nil)) (fun _ _ => rfl)) (pa_cons (pv 5) pa_nil)))) pa_nil)))))))), ?_⟩)
  cases h1
  have E0 : Ex H H := Ex.refl H
  obtain ⟨fl_f, hs1, hk⟩ := hp
  refine q_unpP (α := Str) (β := Sg) K (er_var rfl h3) (fun v1a v1b H1 e1 r_1a r_1b => ?_)
  have h0 := Rep.mono e1 h0
  have h2 := Rep.mono e1 h2
  have h3 := Rep.mono e1 h3
  have E0 := E0.trans e1
  cases r_1a
  cases r_1b
  refine (g_cons (.s (.s (.s (.s .z)))) (g_cons (.s (.s (.s (.s (.s .z))))) (g_nil ?_)))
  refine l_ret (α := (Int × Int)) K (er_call4 (er_varS rfl) (er_var rfl h2) (er_varS rfl) (er_call3 (er_var rfl h0) (er_ixT (x := (sideOf a2 a3.1)) (er_pairT (er_var rfl h2)) (er_intB (er_eqS (er_varS rfl) er_str)) (side_at hs1)) (er_var (x := a3.2) rfl rfl) (by walk_at "sd")) (by walk_at "sd")) (fun v2 H2 e2 r2 => q v2 H2 (E0.trans e2) ?_)
  refine (congrArg (Rep.rel K H2 v2) (?_ : ((settle a1 a2 a3.1 (pressKey a0 (sideOf a2 a3.1) a3.2.c)) : (Int × Int)) = _)).mp r2
  rfl
theorem sc_order_of : FnScope ["field", "tie", "press", "other_press", "pair", "one"] ["field", "tie", "press", "other_press"] (defScope s_order_of) := ⟨rfl, rfl, rfl, by decide +kernel, rfl, by decide +kernel, by decide +kernel⟩
abbrev SP_order_of (K : PySem.W.Frag) : Sp := sp4 (α := Fld) (β := Str) (γ := (Str × Sg)) (ε := (Str × Sg)) (δ := (Option (Int × Int))) K (fun f_ t_ p_ q_ => FOk f_ ∧ isTie t_ ∧ ((p_.1 = "left" ∨ p_.1 = "right") ∧ isKey p_.2.c) ∧ ((q_.1 = "left" ∨ q_.1 = "right") ∧ isKey q_.2.c)) (fun f_ t_ p_ q_ => orderOf f_ t_ p_ q_)
theorem ok_order_of {P : Program} {w : World} {K : PySem.W.Frag} {mg : Str → Option Value} {base : Heap} (T : Top K mg) {f_pairs_of : Addr} {fd_pairs_of : FuncData} (C_pairs_of : Cal P w K mg base CX0 4 "pairs_of" ["field"] (SP_pairs_of K) f_pairs_of fd_pairs_of) {f_press_tied : Addr} {fd_press_tied : FuncData} (C_press_tied : Cal P w K mg base CX0 3 "press_tied" ["field", "tie", "pair", "press"] (SP_press_tied K) f_press_tied fd_press_tied) {f : Addr} {fd : FuncData} (F : FnP K "order_of" s_order_of f fd) : FnOk P w K mg base CX0 5 f fd ["field", "tie", "press", "other_press"] (SP_order_of K) := by
  refine ok4 F sc_order_of rfl (fun x0 x1 x2 x3 => [some x0, some x1, some x2, some x3, none, none]) (fun _ _ _ _ => rfl) (fun H Q x0 x1 x2 x3 a0 a1 a2 a3 h0 h1 h2 h3 hp q cdv A outer s E hr => ⟨_, PSs.nox (pss_cons (ps_for PassesOwn.never rfl (pi_list (pe_call C_pairs_of.ok (hr.mono (by decide)) (by rfl) C_pairs_of.mg C_pairs_of.kp C_pairs_of.bd .nil pass0 (pa_cons (pv 0) pa_nil))) (pg_name (i := 4) sc_order_of.nd rfl (.inl rfl)) (pss_cons (ps_set (i := 5) sc_order_of.nd rfl (.inl rfl) (pe_call C_press_tied.ok (hr.mono (by decide)) (by rfl) C_press_tied.mg C_press_tied.kp C_press_tied.bd .nil pass0 (pa_cons (pv 0) (pa_cons (pv 1) (pa_cons (pe_call C_press_tied.ok (hr.mono (by decide)) (by rfl) C_press_tied.mg C_press_tied.kp C_press_tied.bd .nil pass0 (pa_cons (pv 0) (pa_cons (pv 1) (pa_cons (pv 4) (pa_cons (pv 2) pa_nil))))) (pa_cons (pv 3) pa_nil))))))
      (pss_one (ps_if (pt_cmpR (op_neD hr.units) (pv 5) (pe_call C_press_tied.ok (hr.mono (by decide)) (by rfl) C_press_tied.mg C_press_tied.kp C_press_tied.bd .nil pass0 (pa_cons (pv 0) (pa_cons (pv 1) (pa_cons (pe_call C_press_tied.ok (hr.mono (by decide)) (by rfl) C_press_tied.mg C_press_tied.kp C_press_tied.bd .nil pass0 (pa_cons (pv 0) (pa_cons (pv 1) (pa_cons (pv 4) (pa_cons (pv 3) pa_nil))))) (pa_cons (pv 2) pa_nil))))) (nomark _)) (pss_one (ps_ret (pv 4))) pss_nil))))
      (pss_one (ps_ret pe_non))), ?_⟩)
  cases h1
  have E0 : Ex H H := Ex.refl H
  obtain ⟨ok_f, ht, hp1, hp2⟩ := hp
  obtain ⟨l0_f, lh_f, h1_f, s0_f, s1_f, b0_f, b1_f, off_f, ends_f, g0_f, g1_f, on_f⟩ := ok_f
  have ok_f : FOk a0 := ⟨l0_f, lh_f, h1_f, s0_f, s1_f, b0_f, b1_f, off_f, ends_f, g0_f, g1_f, on_f⟩
  refine q_for K (α := (Int × Int)) (xs := (pairsOf a0)) (wk_list (er_call1 (er_var rfl h0) ok_f)) (fun pre1 σ' H' => ∃ o1_4 o1_5, σ' = [some x0, some (V.str a1), some x2, some x3, o1_4, o1_5] ∧ Ey H H' ∧ (∀ q_ ∈ pre1, partsAt a0 a1 a2 a3 q_ = false) ∧ Ex H H') (fun H1 e1 => ⟨_, _, rfl, e1.y, (fun _ h => nomatch h), E0.trans e1⟩) (fun L1 pre1 y1 post1 v1 σ' A1 B1 b1 hx1 p1 pp1 c1 r1 => ?_) (fun σ' Z1 z1 pp1 => ?_)
  · obtain ⟨o1_4, o1_5, rfl, q1, ip1_0, E0⟩ := pp1
    have hm1 : y1 ∈ (pairsOf a0) := by
      rw [hx1]
      exact List.mem_append_right _ (List.mem_cons_self ..)
    have t1 := p1.trans c1.y
    have g1 := q1.trans c1.y
    have h0 := Rep.moY g1 h0
    have h2 := Rep.moY g1 h2
    have h3 := Rep.moY g1 h3
    have E0 := E0.trans c1
    refine g_name1 (.s (.s (.s (.s .z)))) ?_
    obtain ⟨one, d_one⟩ : ∃ z : (Int × Int), z = (pressTied a0 a1 (pressTied a0 a1 y1 a2.1 a2.2.c) a3.1 a3.2.c) := ⟨_, rfl⟩
    refine q_set (α := (Int × Int)) K (er_is (er_call4 (er_var rfl h0) (er_varS rfl) (er_call4 (er_var rfl h0) (er_varS rfl) (er_var rfl r1) (er_var rfl h2) ⟨ok_f.fl, hp1⟩) (er_var rfl h3) ⟨ok_f.fl, hp2⟩) d_one.symm) (fun _ => (.s (.s (.s (.s (.s .z)))))) (fun v2 H2 e2 r_2 => ?_)
    have h0 := Rep.mono e2 h0
    have h2 := Rep.mono e2 h2
    have h3 := Rep.mono e2 h3
    have r1 := Rep.mono e2 r1
    have g1 := g1.trans e2.y
    have t1 := t1.trans e2.y
    have E0 := E0.trans e2
    refine l_if0 K (b := (!decide (one = (pressTied a0 a1 (pressTied a0 a1 y1 a3.1 a3.2.c) a2.1 a2.2.c)))) (et_t (er_neT (α := (Int × Int)) (er_var rfl r_2) (er_call4 (er_var rfl h0) (er_varS rfl) (er_call4 (er_var rfl h0) (er_varS rfl) (er_var rfl r1) (er_var rfl h3) ⟨ok_f.fl, hp2⟩) (er_var rfl h2) ⟨ok_f.fl, hp1⟩) (by walk_at "sd") (by walk_at "sd") (by decide))) (fun c3 H3 e3 => ?_) (fun c3 H3 e3 => ?_)
    · skip
      have h0 := Rep.mono e3 h0
      have h2 := Rep.mono e3 h2
      have h3 := Rep.mono e3 h3
      have r1 := Rep.mono e3 r1
      have r_2 := Rep.mono e3 r_2
      have g1 := g1.trans e3.y
      have t1 := t1.trans e3.y
      have E0 := E0.trans e3
      have hcond := c3
      refine l_ret (α := (Option (Int × Int))) K (er_some (er_var rfl r1)) (fun v4 H4 e4 r4 => q v4 H4 (E0.trans e4) ?_)
      refine (congrArg (Rep.rel K H4 v4) (?_ : ((some y1) : (Option (Int × Int))) = _)).mp r4
      exact (orderOf_some hx1 ip1_0 (by unfold partsAt; rw [← d_one]; exact hcond)).symm
    · skip
      have h0 := Rep.mono e3 h0
      have h2 := Rep.mono e3 h2
      have h3 := Rep.mono e3 h3
      have r1 := Rep.mono e3 r1
      have r_2 := Rep.mono e3 r_2
      have g1 := g1.trans e3.y
      have t1 := t1.trans e3.y
      have E0 := E0.trans e3
      have hcond := c3
      exact ⟨t1, _, _, rfl, g1, fun x hx => by
        rcases List.mem_append.mp hx with z | z
        · exact ip1_0 x z
        · rw [List.mem_singleton.mp z]
          unfold partsAt
          rw [← d_one]
          exact hcond, E0⟩
  obtain ⟨o1_4, o1_5, rfl, q1, ip1_0, E0⟩ := pp1
  have h0 := Rep.moY q1 h0
  have h2 := Rep.moY q1 h2
  have h3 := Rep.moY q1 h3
  refine l_ret (α := (Option (Int × Int))) K (er_noneO (α := (Int × Int))) (fun v5 H5 e5 r5 => q v5 H5 (E0.trans e5) ?_)
  refine (congrArg (Rep.rel K H5 v5) (?_ : ((none : Option (Int × Int)) : (Option (Int × Int))) = _)).mp r5
  exact (orderOf_none ip1_0).symm
theorem sc_order_pair : FnScope ["field", "tie", "press", "other_press"] ["field", "tie", "press", "other_press"] (defScope s_order_pair) := ⟨rfl, rfl, rfl, by decide +kernel, rfl, by decide +kernel, by decide +kernel⟩
abbrev SP_order_pair (K : PySem.W.Frag) : Sp := sp4 (α := Fld) (β := Str) (γ := (Str × Sg)) (ε := (Str × Sg)) (δ := (Option (Int × Int))) K (fun f_ t_ p_ q_ => FOk f_ ∧ isTie t_ ∧ ((p_.1 = "left" ∨ p_.1 = "right") ∧ isKey p_.2.c) ∧ ((q_.1 = "left" ∨ q_.1 = "right") ∧ isKey q_.2.c)) (fun f_ t_ p_ q_ => orderOf f_ t_ p_ q_)
theorem ok_order_pair {P : Program} {w : World} {K : PySem.W.Frag} {mg : Str → Option Value} {base : Heap} (T : Top K mg) {f_need_presses : Addr} {fd_need_presses : FuncData} (C_need_presses : Cal P w K mg base CX0 4 "need_presses" ["field", "tie", "press", "other_press"] (SP_need_presses K) f_need_presses fd_need_presses) {f_order_of : Addr} {fd_order_of : FuncData} (C_order_of : Cal P w K mg base CX0 5 "order_of" ["field", "tie", "press", "other_press"] (SP_order_of K) f_order_of fd_order_of) {f : Addr} {fd : FuncData} (F : FnP K "order_pair" s_order_pair f fd) : FnOk P w K mg base CX0 6 f fd ["field", "tie", "press", "other_press"] (SP_order_pair K) := by
  refine ok4 F sc_order_pair rfl (fun x0 x1 x2 x3 => [some x0, some x1, some x2, some x3]) (fun _ _ _ _ => rfl) (fun H Q x0 x1 x2 x3 a0 a1 a2 a3 h0 h1 h2 h3 hp q cdv A outer s E hr => ⟨_, PSs.nox (pss_cons (ps_expr (pe_call C_need_presses.ok (hr.mono (by decide)) (by rfl) C_need_presses.mg C_need_presses.kp C_need_presses.bd .nil pass0 (pa_cons (pv 0) (pa_cons (pv 1) (pa_cons (pv 2) (pa_cons (pv 3) pa_nil))))))
      (pss_one (ps_ret (pe_call C_order_of.ok (hr.mono (by decide)) (by rfl) C_order_of.mg C_order_of.kp C_order_of.bd .nil pass0 (pa_cons (pv 0) (pa_cons (pv 1) (pa_cons (pv 2) (pa_cons (pv 3) pa_nil)))))))), ?_⟩)
  cases h1
  have E0 : Ex H H := Ex.refl H
  have hq := hp
  obtain ⟨ok_f, ht, hp1, hp2⟩ := hp
  refine q_drop (α := Unit) K (er_call4 (er_var rfl h0) (er_varS rfl) (er_var rfl h2) (er_var rfl h3) hq) (fun H1 e1 => ?_)
  have h0 := Rep.mono e1 h0
  have h2 := Rep.mono e1 h2
  have h3 := Rep.mono e1 h3
  have E0 := E0.trans e1
  refine l_ret (α := (Option (Int × Int))) K (er_call4 (er_var rfl h0) (er_varS rfl) (er_var rfl h2) (er_var rfl h3) hq) (fun v2 H2 e2 r2 => q v2 H2 (E0.trans e2) ?_)
  refine (congrArg (Rep.rel K H2 v2) (?_ : ((orderOf a0 a1 a2 a3) : (Option (Int × Int))) = _)).mp r2
  rfl
theorem sc_order_matters : FnScope ["field", "tie", "press", "other_press"] ["field", "tie", "press", "other_press"] (defScope s_order_matters) := ⟨rfl, rfl, rfl, by decide +kernel, rfl, by decide +kernel, by decide +kernel⟩
abbrev SP_order_matters (K : PySem.W.Frag) : Sp := sp4 (α := Fld) (β := Str) (γ := (Str × Sg)) (ε := (Str × Sg)) (δ := Bool) K (fun f_ t_ p_ q_ => FOk f_ ∧ isTie t_ ∧ ((p_.1 = "left" ∨ p_.1 = "right") ∧ isKey p_.2.c) ∧ ((q_.1 = "left" ∨ q_.1 = "right") ∧ isKey q_.2.c)) (fun f_ t_ p_ q_ => (!(orderOf f_ t_ p_ q_).isNone))
theorem ok_order_matters {P : Program} {w : World} {K : PySem.W.Frag} {mg : Str → Option Value} {base : Heap} (T : Top K mg) {f_need_presses : Addr} {fd_need_presses : FuncData} (C_need_presses : Cal P w K mg base CX0 4 "need_presses" ["field", "tie", "press", "other_press"] (SP_need_presses K) f_need_presses fd_need_presses) {f_order_of : Addr} {fd_order_of : FuncData} (C_order_of : Cal P w K mg base CX0 5 "order_of" ["field", "tie", "press", "other_press"] (SP_order_of K) f_order_of fd_order_of) {f : Addr} {fd : FuncData} (F : FnP K "order_matters" s_order_matters f fd) : FnOk P w K mg base CX0 6 f fd ["field", "tie", "press", "other_press"] (SP_order_matters K) := by
  refine ok4 F sc_order_matters rfl (fun x0 x1 x2 x3 => [some x0, some x1, some x2, some x3]) (fun _ _ _ _ => rfl) (fun H Q x0 x1 x2 x3 a0 a1 a2 a3 h0 h1 h2 h3 hp q cdv A outer s E hr => ⟨_, PSs.nox (pss_cons (ps_expr (pe_call C_need_presses.ok (hr.mono (by decide)) (by rfl) C_need_presses.mg C_need_presses.kp C_need_presses.bd .nil pass0 (pa_cons (pv 0) (pa_cons (pv 1) (pa_cons (pv 2) (pa_cons (pv 3) pa_nil))))))
      (pss_one (ps_ret (pe_cmpR op_notN1 (pe_call C_order_of.ok (hr.mono (by decide)) (by rfl) C_order_of.mg C_order_of.kp C_order_of.bd .nil pass0 (pa_cons (pv 0) (pa_cons (pv 1) (pa_cons (pv 2) (pa_cons (pv 3) pa_nil))))) pe_non (nomark _))))), ?_⟩)
  cases h1
  have E0 : Ex H H := Ex.refl H
  have hq := hp
  obtain ⟨ok_f, ht, hp1, hp2⟩ := hp
  refine q_drop (α := Unit) K (er_call4 (er_var rfl h0) (er_varS rfl) (er_var rfl h2) (er_var rfl h3) hq) (fun H1 e1 => ?_)
  have h0 := Rep.mono e1 h0
  have h2 := Rep.mono e1 h2
  have h3 := Rep.mono e1 h3
  have E0 := E0.trans e1
  refine l_ret (α := Bool) K (er_isNNone (er_call4 (er_var rfl h0) (er_varS rfl) (er_var rfl h2) (er_var rfl h3) hq)) (fun v2 H2 e2 r2 => q v2 H2 (E0.trans e2) ?_)
  refine (congrArg (Rep.rel K H2 v2) (?_ : ((!(orderOf a0 a1 a2 a3).isNone) : Bool) = _)).mp r2
  rfl
theorem sc_L_draw : FnScope ["_law_source_here", "_law_size", "_law_drawn"] ["_law_source_here", "_law_size"] (defScope s_L_draw) := ⟨rfl, rfl, rfl, by decide +kernel, rfl, by decide +kernel, by decide +kernel⟩
abbrev SP_L_draw (K : PySem.W.Frag) : Sp := SP_draw K
theorem ok_L_draw {P : Program} {w : World} {K : PySem.W.Frag} {mg : Str → Option Value} {base : Heap} (T : Top K mg) {f : Addr} {fd : FuncData} (F : FnP K "_law_draw" s_L_draw f fd) : FnOk P w K mg base CX0 1 f fd ["_law_source_here", "_law_size"] (SP_L_draw K) := by
  refine draw_of (F.ok sc_L_draw (sp := spDraw) ?_ (fun cdv A outer s H vs Q E hr hs => ?_)) rfl
  · rintro vs H Q E ⟨S, x, y, n, rfl, _⟩
    rfl
  obtain ⟨S, x, y, n, rfl, hS, y0, y1, n0, n1, q⟩ := hs
  refine ⟨_, PSs.nox (pss_cons (ps_if (pt_cmpR op_gt (pe_ix ix_list (pv 0) pe_int (fun _ _ => rfl)) pe_int (nomark _)) (pss_cons (ps_set (i := 2) sc_L_draw.nd rfl (.inl rfl) (pe_op op_mod (pe_callTy call_int1 (by rfl) T.b_int (by decide +kernel) (pa_cons (pe_ix ix_list (pv 0) pe_int (fun _ _ => rfl)) pa_nil)) (pv 1)))
      (pss_cons (ps_asg (pe_op op_fdivW (pe_ix ix_list (pv 0) pe_int (fun _ _ => rfl)) (pv 1)) (pg_sub (pv 0) pe_int set_list))
      (pss_one (ps_ret (pv 2))))) pss_nil)
      (pss_cons (ps_asg (pe_op op_mod (pe_callTy call_int1 (by rfl) T.b_int (by decide +kernel) (pa_cons (pe_op op_mul (pe_ix ix_list (pv 0) pe_int (fun _ _ => rfl)) pe_int) pa_nil)) pe_int) (pg_sub (pv 0) pe_int set_list))
      (pss_one (ps_ret (pe_op op_mod (pe_callTy call_int1 (by rfl) T.b_int (by decide +kernel) (pa_cons (pe_op op_fdivW (pe_op op_mod (pe_callTy call_int1 (by rfl) T.b_int (by decide +kernel) (pa_cons (pe_op op_mul (pe_ix ix_list (pv 0) pe_int (fun _ _ => rfl)) (pe_ix ix_list (pv 0) pe_int (fun _ _ => rfl))) pa_nil)) pe_int) pe_int) pa_nil)) (pv 1)))))), ?_⟩
  show (_ : TS) _ [some (V.ref S), some (V.int n), none] H
  have rl : ∀ x y H', H' S = some (.lst [V.int x, V.int y]) → Rep.rel K H' (V.ref S) [x, y] := fun x y H' h => ⟨S, [.int x, .int y], rfl, h, .cons rfl (.cons rfl .nil)⟩
  have m1 : ∀ z : Int, 0 ≤ z % n ∧ z % n < n := fun z => ⟨Int.emod_nonneg z (by omega), Int.emod_lt_of_pos z (by omega)⟩
  refine q_if0 K (et_t (er_gt (er_ixL (er_var rfl (rl x y H hS)) er_int rfl) er_int)) (fun c1 H1 e1 => ?_) (fun c1 H1 e1 => ?_)
  · refine q_setI K (er_mod (er_int1 (er_ixL (er_var rfl (rl x y H1 (e1 _ _ hS))) er_int rfl)) (er_varI rfl) (by omega)) (fun _ => .s (.s .z)) (fun H2 e2 => ?_)
    have ev : ER K (tOp (rI CDivW fun i j => .int (i / j)) (tOp (rIxL K) (tVar 0) (tC (.int 0))) (tVar 1)) [some (V.ref S), some (V.int n), some (V.int (x % n))] H2 (x / n) :=
      er_div (er_ixL (er_var rfl (rl x y H2 (e2 _ _ (e1 _ _ hS)))) er_int rfl) (er_varI rfl) (cdivw (by omega) (by omega))
    refine ev H2 (Ex.refl _) _ fun v H3 e3 r => ?_
    cases r
    have hS3 := e3 _ _ (e2 _ _ (e1 _ _ hS))
    refine ⟨.ref S, rfl, S, _, 0, 0, rfl, rfl, hS3, rfl, ?_⟩
    refine ⟨_, rfl, q (x % n) (x / n) y _ (m1 x).1 (m1 x).2 y0 y1 (fun a o ha h => ?_) upd_same⟩
    rw [upd_ne ha]
    exact e3 _ _ (e2 _ _ (e1 _ _ h))
  · have ev : ER K (tOp (rI (fun _ j => 0 < j) fun i j => .int (i % j)) (tCB rInt1 (tCons (tOp (rI CMul fun i j => .int (i * j)) (tOp (rIxL K) (tVar 0) (tC (.int 1))) (tC (.int 48271))) tNil)) (tC (.int 2147483647))) [some (V.ref S), some (V.int n), none] H1 (y * 48271 % 2147483647) :=
      er_mod (er_int1 (er_mul (er_ixL (er_var rfl (rl x y H1 (e1 _ _ hS))) er_int rfl) er_int (.inr ⟨by decide, by decide⟩))) er_int (by decide)
    refine ev H1 (Ex.refl _) _ fun v H3 e3 r => ?_
    cases r
    have hS3 := e3 _ _ (e1 _ _ hS)
    refine ⟨.ref S, rfl, S, _, 1, 1, rfl, rfl, hS3, rfl, ?_⟩
    have z0 := Int.emod_nonneg (y * 48271) (show (2147483647 : Int) ≠ 0 by decide)
    have z1 := Int.emod_lt_of_pos (y * 48271) (show (0 : Int) < 2147483647 by decide)
    generalize y * 48271 % 2147483647 = z at z0 z1
    have hS4 : (upd H3 S (.lst ([V.int x, V.int y].set 1 (V.int z)))) S = some (.lst [V.int x, V.int z]) := upd_same
    have hr4 := rl x z _ hS4
    refine l_ret (α := Int) K (er_mod (er_int1 (er_div (er_mod (er_int1 (er_mul (er_ixL (er_var rfl hr4) er_int rfl) (er_ixL (er_var rfl hr4) er_int rfl) (.inl ⟨by omega, by omega⟩))) er_int (by decide)) er_int (cdivw (by decide) (by decide)))) (er_varI rfl) (by omega)) (fun v H5 e5 r => ?_)
    cases r
    refine q _ x z H5 (m1 _).1 (m1 _).2 z0 z1 (fun a o ha h => ?_) (e5 _ _ hS4)
    refine e5 _ _ ?_
    rw [upd_ne ha]
    exact e3 _ _ (e1 _ _ h)
theorem sc_L_choice : FnScope ["_law_source_here", "_law_items"] ["_law_source_here", "_law_items"] (defScope s_L_choice) := ⟨rfl, rfl, rfl, by decide +kernel, rfl, by decide +kernel, by decide +kernel⟩
abbrev SP_L_choice (K : PySem.W.Frag) : Sp := SP_choice K
theorem ok_L_choice {P : Program} {w : World} {K : PySem.W.Frag} {mg : Str → Option Value} {base : Heap} (T : Top K mg) {f_L_draw : Addr} {fd_L_draw : FuncData} (C_L_draw : Cal P w K mg base CX0 1 "_law_draw" ["_law_source_here", "_law_size"] (SP_L_draw K) f_L_draw fd_L_draw) {f : Addr} {fd : FuncData} (F : FnP K "_law_choice" s_L_choice f fd) : FnOk P w K mg base CX0 2 f fd ["_law_source_here", "_law_items"] (SP_L_choice K) := by
  refine F.ok sc_L_choice (fun vs H Q E hs => ?_) (fun cdv A outer s H vs Q E hr hs => ?_)
  · obtain ⟨v, l, xs, rfl, _⟩ := hs
    rfl
  obtain ⟨v, l, xs, rfl, hS, hl, l1, l2, q⟩ := hs
  refine ⟨_, PSs.nox (pss_one (ps_ret (pe_ix ix_list (pv 1) (pe_call C_L_draw.ok (hr.mono (by decide)) (by rfl) C_L_draw.mg C_L_draw.kp C_L_draw.bd .nil pass0 (pa_cons (pv 0) (pa_cons (pe_callB call_len_seq (by rfl) T.b_len (by decide +kernel) (pa_cons (pv 1) pa_nil)) pa_nil))) (fun _ _ => rfl)))), ?_⟩
  show (_ : TS) _ [some v, some (V.ref l)] H
  have hlen : EN K (tCB (rLenQ K) (tCons (tVar 1) tNil)) [some v, some (V.ref l)] H (fun n : Int => n = (xs.length : Int)) := fun H2 e2 Q q => ⟨.ref l, rfl, l, xs, rfl, .inl (sq_of (e2 _ _ hl)), q _ _ H2 rfl (Ex.refl _) rfl⟩
  have hd := en_draw (K := K) (E := E0) (P := fun d => 0 ≤ d ∧ d < (xs.length : Int)) (er_var (n := 0) rfl hS) hlen (fun n hn => by omega) (fun n d hn d0 d1 => ⟨d0, by omega⟩)
  refine ⟨.ref l, rfl, ?_⟩
  refine hd H (Ex.refl _) _ fun d v2 H2 ⟨d0, d1⟩ e2 r => ?_
  cases r
  have hlt : d.toNat < xs.length := by omega
  refine ⟨l, xs, d, xs[d.toNat], rfl, rfl, sq_of (e2 _ _ hl), ?_, q _ H2 (List.getElem_mem hlt) e2⟩
  exact at_of (show d = (d.toNat : Int) by omega) (List.getElem?_eq_getElem hlt)
theorem sc_L_field : FnScope ["_law_source_here", "_law_wide", "_law_step", "_law_low", "_law_more", "_law_high", "_law_inside", "_law_base", "_law_first", "_law_big", "_law_off", "_law_ends"] ["_law_source_here", "_law_wide"] (defScope s_L_field) := ⟨rfl, rfl, rfl, by decide +kernel, rfl, by decide +kernel, by decide +kernel⟩
abbrev SP_L_field (K : PySem.W.Frag) : Sp := spn2 (α := Src) (β := Int) (δ := Fld) K (fun _ w => 1 ≤ w ∧ w ≤ 1000000000000) (fun _ w f => FieldPost w f)
theorem ok_L_field {P : Program} {w : World} {K : PySem.W.Frag} {mg : Str → Option Value} {base : Heap} (T : Top K mg) {f_L_draw : Addr} {fd_L_draw : FuncData} (C_L_draw : Cal P w K mg base CX0 1 "_law_draw" ["_law_source_here", "_law_size"] (SP_L_draw K) f_L_draw fd_L_draw) {f_L_choice : Addr} {fd_L_choice : FuncData} (C_L_choice : Cal P w K mg base CX0 2 "_law_choice" ["_law_source_here", "_law_items"] (SP_L_choice K) f_L_choice fd_L_choice) {f : Addr} {fd : FuncData} (F : FnP K "_law_field" s_L_field f fd) : FnOk P w K mg base CX0 3 f fd ["_law_source_here", "_law_wide"] (SP_L_field K) := by
  refine okn2 F sc_L_field rfl (fun x0 x1 => [some x0, some x1, none, none, none, none, none, none, none, none, none, none]) (fun _ _ => rfl) (fun H Q x0 x1 a0 wide h0 h1 hp q cdv A outer s E hr => ⟨_, PSs.nox (pss_cons (ps_set (i := 2) sc_L_field.nd rfl (.inl rfl) (pe_call C_L_choice.ok (hr.mono (by decide)) (by rfl) C_L_choice.mg C_L_choice.kp C_L_choice.bd .nil pass0 (pa_cons (pv 0) (pa_cons (pe_lst (pa_cons pe_int (pa_cons pe_int (pa_cons pe_int (pa_cons pe_int (pa_cons pe_int (pa_cons (pe_op op_add pe_int (pe_call C_L_draw.ok (hr.mono (by decide)) (by rfl) C_L_draw.mg C_L_draw.kp C_L_draw.bd .nil pass0 (pa_cons (pv 0) (pa_cons pe_int pa_nil)))) pa_nil))))))) pa_nil))))
      (pss_cons (ps_if (PW.pt (pw_and (pt_cmpR op_gt (pv 1) pe_int (nomark _)) (pw_and1 (pt_cmpR op_eq (pe_call C_L_draw.ok (hr.mono (by decide)) (by rfl) C_L_draw.mg C_L_draw.kp C_L_draw.bd .nil pass0 (pa_cons (pv 0) (pa_cons pe_int pa_nil))) pe_int (nomark _))))) (pss_one (ps_set (i := 2) sc_L_field.nd rfl (.inl rfl) (pe_op op_add pe_int (pe_call C_L_draw.ok (hr.mono (by decide)) (by rfl) C_L_draw.mg C_L_draw.kp C_L_draw.bd .nil pass0 (pa_cons (pv 0) (pa_cons (pe_op op_fdivW (pv 1) pe_int) pa_nil)))))) pss_nil)
      (pss_cons (ps_set (i := 3) sc_L_field.nd rfl (.inl rfl) (pe_call C_L_choice.ok (hr.mono (by decide)) (by rfl) C_L_choice.mg C_L_choice.kp C_L_choice.bd .nil pass0 (pa_cons (pv 0) (pa_cons (pe_lst (pa_cons pe_int (pa_cons pe_int (pa_cons (pe_un un_neg pe_int) (pa_cons (pe_op op_sub (pe_call C_L_draw.ok (hr.mono (by decide)) (by rfl) C_L_draw.mg C_L_draw.kp C_L_draw.bd .nil pass0 (pa_cons (pv 0) (pa_cons pe_int pa_nil))) pe_int) pa_nil))))) pa_nil))))
      (pss_cons (ps_set (i := 4) sc_L_field.nd rfl (.inl rfl) (pe_lst (pa_cons (pv 2) (pa_cons (pe_op op_mul pe_int (pv 2)) (pa_cons (pe_op op_add (pv 2) pe_int) (pa_cons (pe_op op_add pe_int (pe_call C_L_draw.ok (hr.mono (by decide)) (by rfl) C_L_draw.mg C_L_draw.kp C_L_draw.bd .nil pass0 (pa_cons (pv 0) (pa_cons (pe_op op_mul pe_int (pv 2)) pa_nil)))) (pa_cons (pe_op op_add pe_int (pe_call C_L_draw.ok (hr.mono (by decide)) (by rfl) C_L_draw.mg C_L_draw.kp C_L_draw.bd .nil pass0 (pa_cons (pv 0) (pa_cons (pv 1) pa_nil)))) pa_nil)))))))
      (pss_cons (ps_set (i := 5) sc_L_field.nd rfl (.inl rfl) (pe_callB (call_min2 rfl) (by rfl) T.b_min (by decide +kernel) (pa_cons (pe_op op_pow pe_int pe_int) (pa_cons (pe_op op_add (pv 3) (pe_call C_L_choice.ok (hr.mono (by decide)) (by rfl) C_L_choice.mg C_L_choice.kp C_L_choice.bd .nil pass0 (pa_cons (pv 0) (pa_cons (pv 4) pa_nil)))) pa_nil))))
      (pss_cons (ps_set (i := 6) sc_L_field.nd rfl (.inl rfl) (pe_op op_add (pv 3) (pe_call C_L_draw.ok (hr.mono (by decide)) (by rfl) C_L_draw.mg C_L_draw.kp C_L_draw.bd .nil pass0 (pa_cons (pv 0) (pa_cons (pe_op op_add (pe_op op_sub (pv 5) (pv 3)) pe_int) pa_nil)))))
      (pss_cons (ps_set (i := 7) sc_L_field.nd rfl (.inl rfl) (pe_call C_L_choice.ok (hr.mono (by decide)) (by rfl) C_L_choice.mg C_L_choice.kp C_L_choice.bd .nil pass0 (pa_cons (pv 0) (pa_cons (pe_lst (pa_cons pe_int (pa_cons (pv 3) (pa_cons (pv 5) (pa_cons (pv 6) (pa_cons (pe_op op_sub (pv 6) (pv 2)) pa_nil)))))) pa_nil))))
      (pss_cons (ps_set (i := 8) sc_L_field.nd rfl (.inl rfl) (pe_op op_sub (pv 7) (pe_op op_mul (pe_op op_fdivW (pe_op op_sub (pv 7) (pv 3)) (pv 2)) (pv 2))))
      (pss_cons (ps_if (pt_cmpR op_gt (pv 8) (pv 5) (nomark _)) (pss_one (ps_set (i := 7) sc_L_field.nd rfl (.inl rfl) (pv 6))) pss_nil)
      (pss_cons (ps_set (i := 9) sc_L_field.nd rfl (.inl rfl) (pe_op op_add pe_int (pe_call C_L_draw.ok (hr.mono (by decide)) (by rfl) C_L_draw.mg C_L_draw.kp C_L_draw.bd .nil pass0 (pa_cons (pv 0) (pa_cons (pe_call C_L_choice.ok (hr.mono (by decide)) (by rfl) C_L_choice.mg C_L_choice.kp C_L_choice.bd .nil pass0 (pa_cons (pv 0) (pa_cons (pe_lst (pa_cons pe_int (pa_cons pe_int (pa_cons pe_int pa_nil)))) pa_nil))) pa_nil)))))
      (pss_cons (ps_par (i := 10) (j := 11) rfl sc_L_field.nd rfl rfl (by decide) rfl rfl (pa_cons (pe_call C_L_choice.ok (hr.mono (by decide)) (by rfl) C_L_choice.mg C_L_choice.kp C_L_choice.bd .nil pass0 (pa_cons (pv 0) (pa_cons (pe_lst (pa_cons pe_str (pa_cons pe_str (pa_cons pe_str pa_nil)))) pa_nil))) (pa_cons (pe_call C_L_choice.ok (hr.mono (by decide)) (by rfl) C_L_choice.mg C_L_choice.kp C_L_choice.bd .nil pass0 (pa_cons (pv 0) (pa_cons (pe_lst (pa_cons pe_str (pa_cons pe_str (pa_cons pe_str pa_nil)))) pa_nil))) pa_nil)) (by rfl))
      (pss_one (ps_ret (pe_tup (pa_cons (pv 3) (pa_cons (pv 5) (pa_cons (pv 2) (pa_cons (pv 7) (pa_cons (pv 10) (pa_cons (pv 11) (pa_cons (pv 9) pa_nil))))))))))))))))))))), ?_⟩)
  cases h1
  obtain ⟨w0, w1⟩ := hp
  have sr : ∀ {H' : Hp} {a b c d e f g h i j k : Option V}, Ex H H' → ER K (tVar 0) [some x0, a, b, c, d, e, f, g, h, i, j, k] H' Src.mk := fun e => er_var rfl (Rep.mono e h0)
  refine n_setI K (P := fun s => 1 ≤ s ∧ s ≤ 12) (en_pick (sr (Ex.refl _)) (ens_cons (en_of er_int (by omega)) (ens_cons (en_of er_int (by omega)) (ens_cons (en_of er_int (by omega)) (ens_cons (en_of er_int (by omega)) (ens_cons (en_of er_int (by omega)) (ens_cons (en_add en_c (en_draw (P := fun d => 0 ≤ d ∧ d < 12) (sr (Ex.refl _)) en_c (fun n hn => by omega) (fun n d hn d0 d1 => by omega)) (fun i j hi hj => by omega)) ens_nil)))))) (by omega) (by omega)) (fun _ => .s (.s .z)) (fun st0 H1 hst e1 => ?_)
  refine q_ifJ K (P := fun b => b = true → 1000 < wide) (fun σ' H' => ∃ st : Int, σ' = [some x0, some (.int wide), some (.int st), none, none, none, none, none, none, none, none, none] ∧ Ex H H' ∧ 1 ≤ st ∧ (st ≤ 12 ∨ (1000 < wide ∧ st ≤ wide / 5))) ?cont
    (etn_and (P1 := fun b => b = true → 1000 < wide) (etn_of (et_t (er_gt (er_varI rfl) er_int)) (fun z => of_decide_eq_true z)) (fun z => etn_t (en_eqI (en_draw (P := fun _ => True) (sr e1) en_c (fun n hn => by omega) (fun _ _ _ _ _ => trivial)) en_c)) (fun _ z => (by cases z)) (fun b z _ _ => z rfl)) ?c1 ?c2
  case c1 =>
    intro D2 hW hb H2 e2
    have hb' := hb rfl
    refine nl_set (α := Int) K (P := fun st => 1 ≤ st ∧ st ≤ wide / 5) (en_add en_c (en_draw (P := fun d => 0 ≤ d ∧ d < wide / 5) (sr (e1.trans e2)) (en_of (P := fun n => n = wide / 5) (er_div (er_varI rfl) er_int (cdivw (by omega) (by omega))) rfl) (fun n hn => by omega) (fun n d hn d0 d1 => by omega)) (fun i j hi hj => by omega)) (fun _ => .s (.s .z)) (fun st v H3 hst e3 r => ?_)
    cases r
    exact hW _ _ ⟨st, rfl, (e1.trans e2).trans e3, hst.1, .inr ⟨hb', hst.2⟩⟩
  case c2 =>
    intro D2 hW hb H2 e2
    exact hW _ _ ⟨st0, rfl, e1.trans e2, hst.1, .inl hst.2⟩
  rintro _ H2 ⟨st, rfl, e2, s0, sst⟩
  have s1 : st ≤ 1000000000000 := by omega
  refine n_setI K (P := fun z => -30 ≤ z ∧ z ≤ 29) (en_pick (sr e2) (ens_cons (en_of er_int (by omega)) (ens_cons (en_of er_int (by omega)) (ens_cons (en_of (er_neg er_int) (by omega)) (ens_cons (en_sub (en_draw (P := fun d => 0 ≤ d ∧ d < 60) (sr e2) en_c (fun n hn => by omega) (fun n d hn d0 d1 => by omega)) en_c (fun i j hi hj => by omega)) ens_nil)))) (by omega) (by omega)) (fun _ => .s (.s (.s .z))) (fun low H3 hlow e3 => ?_)
  have e03 := e2.trans e3
  refine n_set (α := List Int) K (P := fun xs => xs.length = 5 ∧ ∀ z ∈ xs, 1 ≤ z ∧ z ≤ max (8 * st) wide) (en_lst (ens_cons (en_of (er_varI rfl) (by omega)) (ens_cons (en_of (er_mul er_int (er_varI rfl) (.inl ⟨by omega, by omega⟩)) (by omega)) (ens_cons (en_of (er_add (er_varI rfl) er_int) (by omega)) (ens_cons (en_add en_c (en_draw (P := fun d => 0 ≤ d ∧ d < 8 * st) (sr e03) (en_of (P := fun n => n = 8 * st) (er_mul er_int (er_varI rfl) (.inl ⟨by omega, by omega⟩)) rfl) (fun n hn => by omega) (fun n d hn d0 d1 => by omega)) (fun i j hi hj => by omega)) (ens_cons (en_add en_c (en_draw (P := fun d => 0 ≤ d ∧ d < wide) (sr e03) (en_v rfl) (fun n hn => by omega) (fun n d hn d0 d1 => by omega)) (fun i j hi hj => by omega)) ens_nil))))) (by omega)) (fun _ => .s (.s (.s (.s .z)))) (fun more vm H4 hmore e4 rm => ?_)
  have e04 := e03.trans e4
  have hpow : ((10 : Int) ^ (12 : Int).toNat) = 1000000000000 := by decide
  refine n_setI K (P := fun z => low < z ∧ z ≤ 1000000000000 ∧ z - low ≤ max (8 * st) wide) (en_min2 (en_of (P := fun z => z = 1000000000000) (er_powc ⟨by decide, by decide, by decide⟩ hpow) rfl) (en_add (en_v rfl) (en_choice (P := fun z => 1 ≤ z ∧ z ≤ max (8 * st) wide) (sr e04) (en_of (er_var rfl rm) ⟨by omega, by omega, hmore.2⟩)) (P := fun z => low < z ∧ z - low ≤ max (8 * st) wide) (fun i j hi hj => by omega)) (fun i j hi hj => by omega)) (fun _ => .s (.s (.s (.s (.s .z))))) (fun high H5 hhigh e5 => ?_)
  have e05 := e04.trans e5
  refine n_setI K (P := fun z => low ≤ z ∧ z ≤ high) (en_add (en_v rfl) (en_draw (P := fun d => 0 ≤ d ∧ d < high - low + 1) (sr e05) (en_of (P := fun n => n = high - low + 1) (er_add (er_sub (er_varI rfl) (er_varI rfl)) er_int) rfl) (fun n hn => by omega) (fun n d hn d0 d1 => by omega)) (fun i j hi hj => by omega)) (fun _ => .s (.s (.s (.s (.s (.s .z)))))) (fun ins H6 hins e6 => ?_)
  have e06 := e05.trans e6
  refine n_setI K (P := fun z => min 0 (low - st) ≤ z ∧ z ≤ max 0 high) (en_pick (sr e06) (ens_cons (en_of er_int (by omega)) (ens_cons (en_of (er_varI rfl) (by omega)) (ens_cons (en_of (er_varI rfl) (by omega)) (ens_cons (en_of (er_varI rfl) (by omega)) (ens_cons (en_of (er_sub (er_varI rfl) (er_varI rfl)) (by omega)) ens_nil))))) (by omega) (by omega)) (fun _ => .s (.s (.s (.s (.s (.s (.s .z))))))) (fun bas0 H7 hbas0 e7 => ?_)
  have e07 := e06.trans e7
  refine q_setI K (er_sub (er_varI rfl) (er_mul (er_div (er_sub (er_varI rfl) (er_varI rfl)) (er_varI rfl) (cdivw (by omega) (by omega))) (er_varI rfl) (.inr ⟨by omega, by omega⟩))) (fun _ => .s (.s (.s (.s (.s (.s (.s (.s .z)))))))) (fun H8 e8 => ?_)
  have e08 := e07.trans e8
  refine q_ifJ K (P := fun b => b = decide (high < bas0 - (bas0 - low) / st * st)) (fun σ' H' => ∃ (bas fst : Int), σ' = [some x0, some (.int wide), some (.int st), some (.int low), some vm, some (.int high), some (.int ins), some (.int bas), some (.int fst), none, none, none] ∧ Ex H H' ∧ min 0 (low - st) ≤ bas ∧ bas ≤ max 0 high ∧ bas - (bas - low) / st * st ≤ high) ?cont2
    (etn_of (et_t (er_gt (er_varI rfl) (er_varI rfl))) rfl) ?d1 ?d2
  case d1 =>
    intro D2 hW hb H9 e9
    refine l_set (α := Int) K (er_varI rfl) (fun _ => .s (.s (.s (.s (.s (.s (.s .z))))))) (fun v H10 e10 r => ?_)
    cases r
    refine hW _ _ ⟨ins, _, rfl, (e08.trans e9).trans e10, by omega, by omega, ?_⟩
    have h1 : (0 : Int) ≤ (ins - low) / st * st := Int.mul_nonneg (Int.ediv_nonneg (by omega) (by omega)) (by omega)
    omega
  case d2 =>
    intro D2 hW hb H9 e9
    refine hW _ _ ⟨bas0, _, rfl, e08.trans e9, hbas0.1, hbas0.2, ?_⟩
    have hb' := of_decide_eq_false hb.symm
    omega
  rintro _ H9 ⟨bas, fst, rfl, e09, bb0, bb1, hon⟩
  refine n_setI K (P := fun g => 2 ≤ g ∧ g ≤ 12) (en_add en_c (en_draw (P := fun d => 0 ≤ d ∧ d < 11) (sr e09) (en_pick (P := fun n => 1 ≤ n ∧ n ≤ 11) (sr e09) (ens_cons (en_of er_int (by omega)) (ens_cons (en_of er_int (by omega)) (ens_cons (en_of er_int (by omega)) ens_nil))) (by omega) (by omega)) (fun n hn => by omega) (fun n d hn d0 d1 => by omega)) (fun i j hi hj => by omega)) (fun _ => .s (.s (.s (.s (.s (.s (.s (.s (.s .z))))))))) (fun big H10 hbig e10 => ?_)
  have e010 := e09.trans e10
  refine n_par (α := Str) (β := Str) K (P1 := fun s => s = "add" ∨ s = "near" ∨ s = "next") (P2 := fun s => s = "round" ∨ s = "stay" ∨ s = "stop") (en_pick (sr e010) (ens_cons (en_of er_str (.inl rfl)) (ens_cons (en_of er_str (.inr (.inl rfl))) (ens_cons (en_of er_str (.inr (.inr rfl))) ens_nil))) (by omega) (by omega))
    (fun H11 e11 => en_pick (sr (e010.trans e11)) (ens_cons (en_of er_str (.inl rfl)) (ens_cons (en_of er_str (.inr (.inl rfl))) (ens_cons (en_of er_str (.inr (.inr rfl))) ens_nil))) (by omega) (by omega)) (fun _ _ => .s (.s (.s (.s (.s (.s (.s (.s (.s (.s .z)))))))))) (fun _ _ => .s (.s (.s (.s (.s (.s (.s (.s (.s (.s (.s .z))))))))))) (fun off ends v w H11 hoff hends e11 r1 r2 => ?_)
  cases r1
  cases r2
  refine l_ret (α := Fld) K (er_mkF (f := ⟨low, high, st, bas, off, ends, big⟩) (er_varI rfl) (er_varI rfl) (er_varI rfl) (er_varI rfl) (er_varS rfl) (er_varS rfl) (er_varI rfl)) (fun v H12 e12 r => ?_)
  refine q _ v H12 ⟨⟨?_, hhigh.1, hhigh.2.1, s0, s1, (by show -1000000000000 ≤ bas; omega), (by show bas ≤ 1000000000000; omega), hoff, hends, hbig.1, hbig.2, on_of (show 0 < st by omega) hon⟩, hlow.1, hlow.2, hhigh.2.2, sst, bb0, bb1⟩ ((e010.trans e11).trans e12) r
  show -1000000000000 ≤ low
  omega
theorem sc_L_value : FnScope ["_law_source_here", "_law_field_here", "_law_low", "_law_high", "_law_step", "_law_base", "_law_way", "_law_found", "_law_more"] ["_law_source_here", "_law_field_here"] (defScope s_L_value) := ⟨rfl, rfl, rfl, by decide +kernel, rfl, by decide +kernel, by decide +kernel⟩
abbrev SP_L_value (K : PySem.W.Frag) : Sp := spn2 (α := Src) (β := Fld) (δ := Int) K (fun _ f => FL f) (fun _ f v => f.low ≤ v ∧ v ≤ f.high)
theorem ok_L_value {P : Program} {w : World} {K : PySem.W.Frag} {mg : Str → Option Value} {base : Heap} (T : Top K mg) {f_L_draw : Addr} {fd_L_draw : FuncData} (C_L_draw : Cal P w K mg base CX0 1 "_law_draw" ["_law_source_here", "_law_size"] (SP_L_draw K) f_L_draw fd_L_draw) {f_L_choice : Addr} {fd_L_choice : FuncData} (C_L_choice : Cal P w K mg base CX0 2 "_law_choice" ["_law_source_here", "_law_items"] (SP_L_choice K) f_L_choice fd_L_choice) {f : Addr} {fd : FuncData} (F : FnP K "_law_value" s_L_value f fd) : FnOk P w K mg base CX0 3 f fd ["_law_source_here", "_law_field_here"] (SP_L_value K) := by
  refine okn2 F sc_L_value rfl (fun x0 x1 => [some x0, some x1, none, none, none, none, none, none, none]) (fun _ _ => rfl) (fun H Q x0 x1 a0 a1 h0 h1 hp q cdv A outer s E hr => ⟨_, PSs.nox (pss_cons (ps_asg (pe_slice sl_tup (pv 1) po_none (po_some pe_int)) (pg_tup rfl (pgs_cons (pg_name (i := 2) sc_L_value.nd rfl (.inl rfl)) (pgs_cons (pg_name (i := 3) sc_L_value.nd rfl (.inl rfl)) (pgs_cons (pg_name (i := 4) sc_L_value.nd rfl (.inl rfl)) (pgs_cons (pg_name (i := 5) sc_L_value.nd rfl (.inl rfl)) pgs_nil))))))
      (pss_cons (ps_set (i := 6) sc_L_value.nd rfl (.inl rfl) (pe_call C_L_draw.ok (hr.mono (by decide)) (by rfl) C_L_draw.mg C_L_draw.kp C_L_draw.bd .nil pass0 (pa_cons (pv 0) (pa_cons pe_int pa_nil))))
      (pss_cons (ps_set (i := 7) sc_L_value.nd rfl (.inl rfl) (pe_op op_add (pv 2) (pe_call C_L_draw.ok (hr.mono (by decide)) (by rfl) C_L_draw.mg C_L_draw.kp C_L_draw.bd .nil pass0 (pa_cons (pv 0) (pa_cons (pe_op op_add (pe_op op_sub (pv 3) (pv 2)) pe_int) pa_nil)))))
      (pss_cons (ps_if (pt_cmpR op_eq (pv 6) pe_int (nomark _)) (pss_one (ps_set (i := 7) sc_L_value.nd rfl (.inl rfl) (pe_call C_L_choice.ok (hr.mono (by decide)) (by rfl) C_L_choice.mg C_L_choice.kp C_L_choice.bd .nil pass0 (pa_cons (pv 0) (pa_cons (pe_lst (pa_cons (pv 2) (pa_cons (pv 3) (pa_cons (pe_op op_add (pv 2) pe_int) (pa_cons (pe_op op_sub (pv 3) pe_int) pa_nil))))) pa_nil))))) (pss_one (ps_if (pt_cmpR op_lt (pv 6) pe_int (nomark _)) (pss_cons (ps_set (i := 8) sc_L_value.nd rfl (.inl rfl) (pe_call C_L_choice.ok (hr.mono (by decide)) (by rfl) C_L_choice.mg C_L_choice.kp C_L_choice.bd .nil pass0 (pa_cons (pv 0) (pa_cons (pe_lst (pa_cons pe_int (pa_cons pe_int (pa_cons pe_int (pa_cons (pe_un un_neg pe_int) (pa_cons (pe_op op_fdivW (pv 4) pe_int) (pa_cons (pe_op op_fdivW (pe_op op_add (pv 4) pe_int) pe_int) pa_nil))))))) pa_nil))))
      (pss_one (ps_set (i := 7) sc_L_value.nd rfl (.inl rfl) (pe_op op_add (pe_op op_add (pv 5) (pe_op op_mul (pe_op op_fdivW (pe_op op_sub (pv 7) (pv 5)) (pv 4)) (pv 4))) (pv 8))))) pss_nil)))
      (pss_one (ps_ret (pe_callB (call_max2 rfl) (by rfl) T.b_max (by decide +kernel) (pa_cons (pv 2) (pa_cons (pe_callB (call_min2 rfl) (by rfl) T.b_min (by decide +kernel) (pa_cons (pv 3) (pa_cons (pv 7) pa_nil))) pa_nil))))))))), ?_⟩)
  obtain ⟨l0, lh, hh1, s0, s1, b0, b1⟩ := hp
  have sr : ∀ {H' : Hp} {b c d e f g h i : Option V}, Ex H H' → ER K (tVar 0) [some x0, b, c, d, e, f, g, h, i] H' Src.mk := fun e => er_var rfl (Rep.mono e h0)
  refine q_unp (lo := none) (hi := (some 4)) (er_var rfl h1) (fun _ _ h => h) (fun _ _ h => ⟨4, rfl, h⟩) (by decide) rfl rfl (fun H1 e1 => ?_)
  refine (g_cons (.s (.s .z)) (g_cons (.s (.s (.s .z))) (g_cons (.s (.s (.s (.s .z)))) (g_cons (.s (.s (.s (.s (.s .z))))) (g_nil ?_)))))
  refine n_setI K (P := fun _ => True) (en_draw (sr e1) en_c (fun n hn => by omega) (fun _ _ _ _ _ => trivial)) (fun _ => .s (.s (.s (.s (.s (.s .z)))))) (fun way H2 _ e2 => ?_)
  have e02 := e1.trans e2
  refine n_setI K (P := fun _ => True) (en_add (P2 := fun _ => True) (en_v rfl) (en_draw (sr e02) (en_of (P := fun n => n = a1.high - a1.low + 1) (er_add (er_sub (er_varI rfl) (er_varI rfl)) er_int) rfl) (fun n hn => by omega) (fun _ _ _ _ _ => trivial)) (fun _ _ _ _ => trivial)) (fun _ => .s (.s (.s (.s (.s (.s (.s .z))))))) (fun fnd H3 _ e3 => ?_)
  have e03 := e02.trans e3
  refine q_ifJ K (P := fun _ => True) (fun σ' H' => ∃ (fnd : Int) (o : Option V), σ' = [some x0, some x1, some (.int a1.low), some (.int a1.high), some (.int a1.step), some (.int a1.base), some (.int way), some (.int fnd), o] ∧ Ex H H') ?cont
    (etn_of (et_t (er_eqI (er_varI rfl) er_int)) trivial) ?c1 ?c2
  case c1 =>
    intro D2 hW hb H4 e4
    refine nl_set (α := Int) K (P := fun _ => True) (en_pick (sr (e03.trans e4)) (ens_cons (en_of (er_varI rfl) trivial) (ens_cons (en_of (er_varI rfl) trivial) (ens_cons (en_of (er_add (er_varI rfl) er_int) trivial) (ens_cons (en_of (er_sub (er_varI rfl) er_int) trivial) ens_nil)))) (by omega) (by omega)) (fun _ => .s (.s (.s (.s (.s (.s (.s .z))))))) (fun st v H5 _ e5 r => ?_)
    cases r
    exact hW _ _ ⟨st, _, rfl, (e03.trans e4).trans e5⟩
  case c2 =>
    intro D2 hW hb H4 e4
    refine l_if0 K (et_t (er_lt (er_varI rfl) er_int)) (fun c5 H5 e5 => ?_) (fun c5 H5 e5 => hW _ _ ⟨fnd, _, rfl, (e03.trans e4).trans e5⟩)
    have e05 := (e03.trans e4).trans e5
    refine n_setI K (P := fun _ => True) (en_pick (sr e05) (ens_cons (en_of er_int trivial) (ens_cons (en_of er_int trivial) (ens_cons (en_of er_int trivial) (ens_cons (en_of (er_neg er_int) trivial) (ens_cons (en_of (er_div (er_varI rfl) er_int (cdivw (by omega) (by omega))) trivial) (ens_cons (en_of (er_div (er_add (er_varI rfl) er_int) er_int (cdivw (by omega) (by omega))) trivial) ens_nil)))))) (by omega) (by omega)) (fun _ => .s (.s (.s (.s (.s (.s (.s (.s .z)))))))) (fun more H6 _ e6 => ?_)
    refine l_set (α := Int) K (er_add (er_add (er_varI rfl) (er_mul (er_div (er_sub (er_varI rfl) (er_varI rfl)) (er_varI rfl) (cdivw (by omega) (by omega))) (er_varI rfl) (.inr ⟨by omega, by omega⟩))) (er_varI rfl)) (fun _ => .s (.s (.s (.s (.s (.s (.s .z))))))) (fun v H7 e7 r => ?_)
    cases r
    exact hW _ _ ⟨_, _, rfl, (e05.trans e6).trans e7⟩
  rintro _ H4 ⟨fnd, o, rfl, e04⟩
  refine l_ret (α := Int) K (er_max2 (er_varI rfl) (er_min2 (er_varI rfl) (er_varI rfl))) (fun v H5 e5 r => ?_)
  exact q _ v H5 (by omega) (e04.trans e5) r
theorem sc_L_nearest : FnScope ["_law_field_here", "_law_value_here", "_law_step", "_law_base", "_law_below"] ["_law_field_here", "_law_value_here"] (defScope s_L_nearest) := ⟨rfl, rfl, rfl, by decide +kernel, rfl, by decide +kernel, by decide +kernel⟩
abbrev SP_L_nearest (K : PySem.W.Frag) : Sp := sp2 (α := Fld) (β := Int) (δ := Int) K (fun f _ => FL f) (lawNearest)
theorem ok_L_nearest {P : Program} {w : World} {K : PySem.W.Frag} {mg : Str → Option Value} {base : Heap} (T : Top K mg) {f : Addr} {fd : FuncData} (F : FnP K "_law_nearest" s_L_nearest f fd) : FnOk P w K mg base CX0 1 f fd ["_law_field_here", "_law_value_here"] (SP_L_nearest K) := by
  refine ok2 F sc_L_nearest rfl (fun x0 x1 => [some x0, some x1, none, none, none]) (fun _ _ => rfl) (fun H Q x0 x1 a0 a1 h0 h1 hp q cdv A outer s E hr => ⟨_, PSs.nox (pss_cons (ps_asg (pe_slice sl_tup (pv 0) (po_some pe_int) (po_some pe_int)) (pg_tup rfl (pgs_cons (pg_name (i := 2) sc_L_nearest.nd rfl (.inl rfl)) (pgs_cons (pg_name (i := 3) sc_L_nearest.nd rfl (.inl rfl)) pgs_nil))))
      (pss_cons (ps_set (i := 4) sc_L_nearest.nd rfl (.inl rfl) (pe_op op_add (pv 3) (pe_op op_mul (pe_op op_fdivW (pe_op op_sub (pv 1) (pv 3)) (pv 2)) (pv 2))))
      (pss_one (ps_ret (pe_ifExp (pt_cmpR op_lt (pe_op op_mul pe_int (pe_op op_sub (pv 1) (pv 4))) (pv 2) (nomark _)) (pv 4) (pe_op op_add (pv 4) (pv 2))))))), ?_⟩)
  cases h1
  obtain ⟨l0, lh, hh1, s0, s1, b0, b1⟩ := hp
  refine q_unp (lo := (some 2)) (hi := (some 4)) (er_var rfl h0) (fun _ _ h => ⟨2, rfl, h⟩) (fun _ _ h => ⟨4, rfl, h⟩) (by decide) rfl rfl (fun H1 e1 => ?_)
  refine (g_cons (.s (.s .z)) (g_cons (.s (.s (.s .z))) (g_nil ?_)))
  refine q_setI K (er_add (er_varI rfl) (er_mul (er_div (er_sub (er_varI rfl) (er_varI rfl)) (er_varI rfl) (cdivw (by omega) (by omega))) (er_varI rfl) (.inr ⟨by omega, by omega⟩))) (fun _ => (.s (.s (.s (.s .z))))) (fun H2 e2 => ?_)
  refine l_ret (α := Int) K (er_if (et_t (er_lt (er_mul er_int (er_sub (er_varI rfl) (er_varI rfl)) (.inl ⟨by omega, by omega⟩)) (er_varI rfl))) (fun _ => er_varI rfl) (fun _ => er_add (er_varI rfl) (er_varI rfl))) (fun v H3 e3 r => q v H3 (e1.trans (e2.trans e3)) ?_)
  refine (congrArg (Rep.rel K H3 v) ?_).mp r
  simp only [lawNearest, decide_eq_true_eq]
theorem sc_L_key : FnScope ["_law_field_here", "_law_value_here", "_law_key_here", "_law_low", "_law_high", "_law_step", "_law_base", "_law_off", "_law_ends", "_law_big", "_law_many", "_law_up", "_law_aim", "_law_below", "_law_above"] ["_law_field_here", "_law_value_here", "_law_key_here"] (defScope s_L_key) := ⟨rfl, rfl, rfl, by decide +kernel, rfl, by decide +kernel, by decide +kernel⟩
abbrev SP_L_key (K : PySem.W.Frag) : Sp := sp3 (α := Fld) (β := Int) (γ := Sg) (δ := Int) K (fun f _ s => FOk f ∧ isKey s.c) (fun f v s => pressKey f v s.c)
theorem ok_L_key {P : Program} {w : World} {K : PySem.W.Frag} {mg : Str → Option Value} {base : Heap} (T : Top K mg) {f_L_nearest : Addr} {fd_L_nearest : FuncData} (C_L_nearest : Cal P w K mg base CX0 1 "_law_nearest" ["_law_field_here", "_law_value_here"] (SP_L_nearest K) f_L_nearest fd_L_nearest) {f : Addr} {fd : FuncData} (F : FnP K "_law_key" s_L_key f fd) : FnOk P w K mg base CX0 2 f fd ["_law_field_here", "_law_value_here", "_law_key_here"] (SP_L_key K) := by
  refine ok3 F sc_L_key rfl (fun x0 x1 x2 => [some x0, some x1, some x2, none, none, none, none, none, none, none, none, none, none, none, none]) (fun _ _ _ => rfl) (fun H Q x0 x1 x2 a0 a1 a2 h0 h1 h2 hp q cdv A outer s E hr => ⟨_, PSs.nox (pss_cons (ps_asg (pv 0) (pg_tup rfl (pgs_cons (pg_name (i := 3) sc_L_key.nd rfl (.inl rfl)) (pgs_cons (pg_name (i := 4) sc_L_key.nd rfl (.inl rfl)) (pgs_cons (pg_name (i := 5) sc_L_key.nd rfl (.inl rfl)) (pgs_cons (pg_name (i := 6) sc_L_key.nd rfl (.inl rfl)) (pgs_cons (pg_name (i := 7) sc_L_key.nd rfl (.inl rfl)) (pgs_cons (pg_name (i := 8) sc_L_key.nd rfl (.inl rfl)) (pgs_cons (pg_name (i := 9) sc_L_key.nd rfl (.inl rfl)) pgs_nil)))))))))
      (pss_cons (ps_if (PW.pt (pw_or (pt_cmpR op_eq (pv 2) pe_str (nomark _)) (pw_or1 (pt_cmpR op_eq (pv 2) pe_str (nomark _))))) (pss_one (ps_ret (pe_ifExp (pt_cmpR op_eq (pv 2) pe_str (nomark _)) (pv 3) (pv 4)))) pss_nil)
      (pss_cons (ps_par (i := 10) (j := 11) rfl sc_L_key.nd rfl rfl (by decide) rfl rfl (pa_cons (pe_ifExp (pt_cmpR op_inS (pv 2) pe_str rfl) (pv 9) pe_int) (pa_cons (pe_cmpR op_inS (pv 2) pe_str rfl) pa_nil)) (by rfl))
      (pss_cons (ps_if (pt_cmpR op_eq (pv 7) pe_str (nomark _)) (pss_one (ps_set (i := 12) sc_L_key.nd rfl (.inl rfl) (pe_ifExp (pt_val (pv 11)) (pe_op op_add (pv 1) (pe_op op_mul (pv 10) (pv 5))) (pe_op op_sub (pv 1) (pe_op op_mul (pv 10) (pv 5)))))) (pss_one (ps_if (pt_cmpR op_eq (pv 7) pe_str (nomark _)) (pss_one (ps_set (i := 12) sc_L_key.nd rfl (.inl rfl) (pe_op op_add (pe_call C_L_nearest.ok (hr.mono (by decide)) (by rfl) C_L_nearest.mg C_L_nearest.kp C_L_nearest.bd .nil pass0 (pa_cons (pv 0) (pa_cons (pv 1) pa_nil))) (pe_ifExp (pt_val (pv 11)) (pe_op op_mul (pv 10) (pv 5)) (pe_op op_sub pe_int (pe_op op_mul (pv 10) (pv 5))))))) (pss_cons (ps_set (i := 13) sc_L_key.nd rfl (.inl rfl) (pe_op op_add (pv 6) (pe_op op_mul (pe_op op_fdivW (pe_op op_sub (pv 1) (pv 6)) (pv 5)) (pv 5))))
      (pss_cons (ps_set (i := 14) sc_L_key.nd rfl (.inl rfl) (pe_ifExp (pt_cmpR op_eq (pv 13) (pv 1) (nomark _)) (pv 13) (pe_op op_add (pv 13) (pv 5))))
      (pss_one (ps_set (i := 12) sc_L_key.nd rfl (.inl rfl) (pe_ifExp (pt_val (pv 11)) (pe_op op_add (pv 13) (pe_op op_mul (pv 10) (pv 5))) (pe_op op_sub (pv 14) (pe_op op_mul (pv 10) (pv 5)))))))))))
      (pss_cons (ps_if (pt_chain op_le op_le (pv 3) (pv 12) (pv 4)) (pss_one (ps_ret (pv 12))) pss_nil)
      (pss_cons (ps_if (pt_cmpR op_eq (pv 8) pe_str (nomark _)) (pss_one (ps_ret (pv 1))) pss_nil)
      (pss_one (ps_ret (pe_ifExp (pt_cmpR op_eq (pe_cmpR op_gt (pv 12) (pv 4) (nomark _)) (pe_cmpR op_eq (pv 8) pe_str (nomark _)) (nomark _)) (pv 4) (pv 3)))))))))), ?_⟩)
  cases h1
  cases h2
  obtain ⟨c⟩ := a2
  obtain ⟨hf, hk⟩ := hp
  have hf2 := hf.fl
  obtain ⟨l0, lh, hh1, s0, s1, b0, b1, hp_off, hp_ends, g0, g1, _⟩ := hf
  have hs : ∀ {H' : Hp} {a b c2 d e f g h i j k l m n : Option V}, ER K (tVar 2) [a, b, some (V.str ⟨#[c]⟩), c2, d, e, f, g, h, i, j, k, l, m, n] H' (Sg.mk c) := er_var rfl rfl
  refine q_unpF rfl (er_var rfl h0) (fun H1 e1 => ?_)
  refine (g_cons (.s (.s (.s .z))) (g_cons (.s (.s (.s (.s .z)))) (g_cons (.s (.s (.s (.s (.s .z))))) (g_cons (.s (.s (.s (.s (.s (.s .z)))))) (g_cons (.s (.s (.s (.s (.s (.s (.s .z))))))) (g_cons (.s (.s (.s (.s (.s (.s (.s (.s .z)))))))) (g_cons (.s (.s (.s (.s (.s (.s (.s (.s (.s .z))))))))) (g_nil ?_))))))))
  refine q_if0 K (ett_or (et_t (er_eqS (er_sg hs) er_str)) (fun _ => et_t (er_eqS (er_sg hs) er_str))) (fun c2 H2 e2 => ?_) (fun c2 H2 e2 => ?_)
  · have hc : c = 104 ∨ c = 101 := by
      simp only [Bool.or_eq_true, decide_eq_true_eq] at c2
      exact c2.imp sg_eq.mp sg_eq.mp
    refine l_ret (α := Int) K (er_if (et_t (er_eqS (er_sg hs) er_str)) (fun _ => er_varI rfl) (fun _ => er_varI rfl)) (fun v H3 e3 r => q v H3 (e1.trans (e2.trans e3)) ?_)
    refine (congrArg (Rep.rel K H3 v) ?_).mp r
    rcases hc with z | z <;> (subst z; rfl)
  have hc : ¬ (c = 104 ∨ c = 101) := by
    rw [← Bool.not_eq_true] at c2
    simp only [Bool.or_eq_true, decide_eq_true_eq] at c2
    exact fun z => c2 (z.imp sg_eq.mpr sg_eq.mpr)
  have hm : isMove c := by
    rcases hk with z | z | z | z | z | z
    · exact .inl z
    · exact .inr (.inl z)
    · exact .inr (.inr (.inl z))
    · exact .inr (.inr (.inr z))
    · exact absurd (.inl z) hc
    · exact absurd (.inr z) hc
  obtain ⟨many, up, hmany, hup, hms, hmb⟩ : ∃ (many : Int) (up : Bool), (if decide (c ∈ ("UD" : Str).cps.toList) = true then a0.big else 1) = many ∧ decide (c ∈ ("uU" : Str).cps.toList) = up ∧ manySteps a0 c = (if up = true then many else -many) ∧ 1 ≤ many ∧ many ≤ 12 := by
    rcases hm with z | z | z | z <;> subst z
    · exact ⟨1, true, rfl, rfl, rfl, by omega, by omega⟩
    · exact ⟨1, false, rfl, rfl, rfl, by omega, by omega⟩
    · exact ⟨a0.big, true, rfl, rfl, rfl, by omega, by omega⟩
    · exact ⟨a0.big, false, rfl, rfl, rfl, by omega, by omega⟩
  refine q_par (α := Int) (β := Bool) (x := many) (y := up) K (er_is (er_if (et_t (er_inS hs er_str)) (fun _ => er_varI rfl) (fun _ => er_int)) hmany) (fun H3a e3a => er_is (er_inS hs er_str) hup) (fun _ _ => (.s (.s (.s (.s (.s (.s (.s (.s (.s (.s .z))))))))))) (fun _ _ => (.s (.s (.s (.s (.s (.s (.s (.s (.s (.s (.s .z)))))))))))) (fun v3a v3b H3 e3 r3a r3b => ?_)
  cases r3a
  cases r3b
  have e03 := (e1.trans e2).trans e3
  have hpk : pressKey a0 a1 c = (if a0.low ≤ aimOf a0 a1 (manySteps a0 c) ∧ aimOf a0 a1 (manySteps a0 c) ≤ a0.high then aimOf a0 a1 (manySteps a0 c)
      else if a0.ends = "stay" then a1 else if a0.ends = "round" then (if aimOf a0 a1 (manySteps a0 c) > a0.high then a0.low else a0.high) else (if aimOf a0 a1 (manySteps a0 c) > a0.high then a0.high else a0.low)) := by
    unfold pressKey
    rw [if_neg (fun z => hc (.inl z)), if_neg (fun z => hc (.inr z))]
  refine q_ifJ K (P := fun b => b = decide (a0.off = "add")) (fun σ' H' => ∃ (o1 o2 : Option V), σ' = [some x0, some (.int a1), some (.str ⟨#[c]⟩), some (.int a0.low), some (.int a0.high), some (.int a0.step), some (.int a0.base), some (.str a0.off), some (.str a0.ends), some (.int a0.big), some (.int many), some (.bl up), some (.int (aimOf a0 a1 (manySteps a0 c))), o1, o2] ∧ Ex H H') ?cont
    (etn_of (et_t (er_eqS (er_varS rfl) er_str)) rfl) ?c1 ?c2
  case c1 =>
    intro D2 hW hb H4 e4
    have hoff : a0.off = "add" := of_decide_eq_true hb.symm
    refine l_set (α := Int) K (er_if (et_b (er_varB rfl)) (fun _ => er_add (er_varI rfl) (er_mul (er_varI rfl) (er_varI rfl) (.inl ⟨by omega, by omega⟩))) (fun _ => er_sub (er_varI rfl) (er_mul (er_varI rfl) (er_varI rfl) (.inl ⟨by omega, by omega⟩)))) (fun _ => (.s (.s (.s (.s (.s (.s (.s (.s (.s (.s (.s (.s .z))))))))))))) (fun v H5 e5 r => ?_)
    cases r
    have e : (if up = true then a1 + many * a0.step else a1 - many * a0.step) = aimOf a0 a1 (manySteps a0 c) := by
      unfold aimOf
      rw [if_pos hoff, hms]
      cases up with
      | true => rfl
      | false =>
        show a1 - many * a0.step = a1 + -many * a0.step
        rw [Int.neg_mul]
        omega
    rw [e]
    exact hW _ _ ⟨_, _, rfl, (e03.trans e4).trans e5⟩
  case c2 =>
    intro D2 hW hb H4 e4
    have hoff : ¬ a0.off = "add" := of_decide_eq_false hb.symm
    refine l_if K (et_t (er_eqS (er_varS rfl) er_str)) (fun c5 H5 e5 => ?_) (fun c5 H5 e5 => ?_)
    · have hnear : a0.off = "near" := of_decide_eq_true c5
      refine l_set (α := Int) K (er_add (er_call2 (er_var rfl (Rep.mono ((e03.trans e4).trans e5) h0)) (er_varI rfl) hf2) (er_if (et_b (er_varB rfl)) (fun _ => er_mul (er_varI rfl) (er_varI rfl) (.inl ⟨by omega, by omega⟩)) (fun _ => er_sub er_int (er_mul (er_varI rfl) (er_varI rfl) (.inl ⟨by omega, by omega⟩))))) (fun _ => (.s (.s (.s (.s (.s (.s (.s (.s (.s (.s (.s (.s .z))))))))))))) (fun v H6 e6 r => ?_)
      cases r
      have e : lawNearest a0 a1 + (if up = true then many * a0.step else 0 - many * a0.step) = aimOf a0 a1 (manySteps a0 c) := by
        unfold aimOf
        rw [if_neg hoff, if_pos hnear, hms, nearest_eq s0, Int.add_mul]
        cases up with
        | true =>
          show _ + many * a0.step = _ + (_ + many * a0.step)
          omega
        | false =>
          show _ + (0 - many * a0.step) = _ + (_ + -many * a0.step)
          rw [Int.neg_mul]
          omega
      rw [e]
      exact hW _ _ ⟨_, _, rfl, ((e03.trans e4).trans e5).trans e6⟩
    · have hnear : ¬ a0.off = "near" := of_decide_eq_false c5
      have e05 := (e03.trans e4).trans e5
      refine q_setI K (er_add (er_varI rfl) (er_mul (er_div (er_sub (er_varI rfl) (er_varI rfl)) (er_varI rfl) (cdivw (by omega) (by omega))) (er_varI rfl) (.inr ⟨by omega, by omega⟩))) (fun _ => (.s (.s (.s (.s (.s (.s (.s (.s (.s (.s (.s (.s (.s .z)))))))))))))) (fun H6 e6 => ?_)
      refine q_setI K (er_if (et_t (er_eqI (er_varI rfl) (er_varI rfl))) (fun _ => er_varI rfl) (fun _ => er_add (er_varI rfl) (er_varI rfl))) (fun _ => (.s (.s (.s (.s (.s (.s (.s (.s (.s (.s (.s (.s (.s (.s .z))))))))))))))) (fun H7 e7 => ?_)
      refine l_set (α := Int) K (er_if (et_b (er_varB rfl)) (fun _ => er_add (er_varI rfl) (er_mul (er_varI rfl) (er_varI rfl) (.inl ⟨by omega, by omega⟩))) (fun _ => er_sub (er_varI rfl) (er_mul (er_varI rfl) (er_varI rfl) (.inl ⟨by omega, by omega⟩)))) (fun _ => (.s (.s (.s (.s (.s (.s (.s (.s (.s (.s (.s (.s .z))))))))))))) (fun v H8 e8 r => ?_)
      cases r
      simp only [decide_eq_true_eq]
      have e : (if up = true then a0.base + (a1 - a0.base) / a0.step * a0.step + many * a0.step else (if a0.base + (a1 - a0.base) / a0.step * a0.step = a1 then a0.base + (a1 - a0.base) / a0.step * a0.step else a0.base + (a1 - a0.base) / a0.step * a0.step + a0.step) - many * a0.step) = aimOf a0 a1 (manySteps a0 c) := by
        unfold aimOf
        rw [if_neg hoff, if_neg hnear, hms]
        cases up with
        | true =>
          simp only [if_true]
          rw [if_pos (show (0 : Int) < many by omega), Int.add_mul]
          omega
        | false =>
          simp only [Bool.false_eq_true, if_false]
          rw [if_neg (show ¬ (0 : Int) < -many by omega), ← up_eq s0, Int.add_mul, Int.neg_mul many]
          omega
      rw [e]
      exact hW _ _ ⟨_, _, rfl, ((e05.trans e6).trans e7).trans e8⟩
  rintro _ H4 ⟨o1, o2, rfl, e04⟩
  generalize aimOf a0 a1 (manySteps a0 c) = aim at hpk
  refine q_if0 K (et_t (er_chain (er_varI rfl) (er_varI rfl) (er_varI rfl))) (fun c5 H5 e5 => ?_) (fun c5 H5 e5 => ?_)
  · simp only [Bool.and_eq_true, decide_eq_true_eq] at c5
    refine l_ret (α := Int) K (er_varI rfl) (fun v H6 e6 r => q v H6 (e04.trans (e5.trans e6)) ?_)
    rw [hpk, if_pos c5]
    exact r
  rw [← Bool.not_eq_true] at c5
  simp only [Bool.and_eq_true, decide_eq_true_eq] at c5
  rw [if_neg c5] at hpk
  refine q_if0 K (et_t (er_eqS (er_varS rfl) er_str)) (fun c6 H6 e6 => ?_) (fun c6 H6 e6 => ?_)
  · simp only [decide_eq_true_eq] at c6
    refine l_ret (α := Int) K (er_varI rfl) (fun v H7 e7 r => q v H7 (((e04.trans e5).trans e6).trans e7) ?_)
    rw [hpk, if_pos c6]
    exact r
  simp only [decide_eq_false_iff_not] at c6
  rw [if_neg c6] at hpk
  refine l_ret (α := Int) K (er_if (et_t (er_eqB (er_gt (er_varI rfl) (er_varI rfl)) (er_eqS (er_varS rfl) er_str))) (fun _ => er_varI rfl) (fun _ => er_varI rfl)) (fun v H7 e7 r => q v H7 (((e04.trans e5).trans e6).trans e7) ?_)
  rw [hpk]
  refine (congrArg (Rep.rel K H7 v) ?_).mp r
  rcases hp_ends with z | z | z
  · rw [if_pos z]
    have ne : ¬ a0.ends = "stop" := by
      rw [z]
      decide
    rw [decide_eq_false ne]
    by_cases y : a0.high < aim
    · rw [if_pos y, decide_eq_true y]
      rfl
    · rw [if_neg y, decide_eq_false y]
      rfl
  · exact absurd z c6
  · have ne : ¬ a0.ends = "round" := by
      rw [z]
      decide
    rw [if_neg ne, decide_eq_true z]
    by_cases y : a0.high < aim
    · rw [if_pos y, decide_eq_true y]
      rfl
    · rw [if_neg y, decide_eq_false y]
      rfl
theorem sc_L_settled : FnScope ["_law_field_here", "_law_tie", "_law_pair", "_law_side", "_law_key_here", "_law_left", "_law_right"] ["_law_field_here", "_law_tie", "_law_pair", "_law_side", "_law_key_here"] (defScope s_L_settled) := ⟨rfl, rfl, rfl, by decide +kernel, rfl, by decide +kernel, by decide +kernel⟩
abbrev SP_L_settled (K : PySem.W.Frag) : Sp := sp5 (α := Fld) (β := Str) (γ := (Int × Int)) (ε := Str) (ζ := Sg) (δ := (Int × Int)) K (fun f_ t_ p_ s_ k_ => FOk f_ ∧ isKey k_.c) (fun f_ t_ p_ s_ k_ => pressTied f_ t_ p_ s_ k_.c)
theorem ok_L_settled {P : Program} {w : World} {K : PySem.W.Frag} {mg : Str → Option Value} {base : Heap} (T : Top K mg) {f_L_key : Addr} {fd_L_key : FuncData} (C_L_key : Cal P w K mg base CX0 2 "_law_key" ["_law_field_here", "_law_value_here", "_law_key_here"] (SP_L_key K) f_L_key fd_L_key) {f : Addr} {fd : FuncData} (F : FnP K "_law_settled" s_L_settled f fd) : FnOk P w K mg base CX0 3 f fd ["_law_field_here", "_law_tie", "_law_pair", "_law_side", "_law_key_here"] (SP_L_settled K) := by
  refine ok5 F sc_L_settled rfl (fun x0 x1 x2 x3 x4 => [some x0, some x1, some x2, some x3, some x4, none, none]) (fun _ _ _ _ _ => rfl) (fun H Q x0 x1 x2 x3 x4 a0 a1 a2 a3 a4 h0 h1 h2 h3 h4 hp q cdv A outer s E hr => ⟨_, PSs.nox (pss_cons (ps_asg (pv 2) (pg_tup rfl (pgs_cons (pg_name (i := 5) sc_L_settled.nd rfl (.inl rfl)) (pgs_cons (pg_name (i := 6) sc_L_settled.nd rfl (.inl rfl)) pgs_nil))))
      (pss_cons (ps_if (pt_cmpR op_eq (pv 3) pe_str (nomark _)) (pss_one (ps_set (i := 5) sc_L_settled.nd rfl (.inl rfl) (pe_call C_L_key.ok (hr.mono (by decide)) (by rfl) C_L_key.mg C_L_key.kp C_L_key.bd .nil pass0 (pa_cons (pv 0) (pa_cons (pv 5) (pa_cons (pv 4) pa_nil)))))) (pss_one (ps_set (i := 6) sc_L_settled.nd rfl (.inl rfl) (pe_call C_L_key.ok (hr.mono (by decide)) (by rfl) C_L_key.mg C_L_key.kp C_L_key.bd .nil pass0 (pa_cons (pv 0) (pa_cons (pv 6) (pa_cons (pv 4) pa_nil)))))))
      (pss_cons (ps_if (pt_cmpR op_le (pv 5) (pv 6) (nomark _)) (pss_one (ps_ret (pe_tup (pa_cons (pv 5) (pa_cons (pv 6) pa_nil))))) pss_nil)
      (pss_cons (ps_if (pt_cmpR op_eq (pv 1) pe_str (nomark _)) (pss_one (ps_ret (pv 2))) pss_nil)
      (pss_cons (ps_if (pt_cmpR op_eq (pv 1) pe_str (nomark _)) (pss_one (ps_ret (pe_ifExp (pt_cmpR op_eq (pv 3) pe_str (nomark _)) (pe_tup (pa_cons (pv 5) (pa_cons (pv 5) pa_nil))) (pe_tup (pa_cons (pv 6) (pa_cons (pv 6) pa_nil)))))) pss_nil)
      (pss_one (ps_ret (pe_ifExp (pt_cmpR op_eq (pv 3) pe_str (nomark _)) (pe_tup (pa_cons (pe_ix ix_tup (pv 2) pe_int (fun _ _ => rfl)) (pa_cons (pe_ix ix_tup (pv 2) pe_int (fun _ _ => rfl)) pa_nil))) (pe_tup (pa_cons (pe_ix ix_tup (pv 2) pe_int (fun _ _ => rfl)) (pa_cons (pe_ix ix_tup (pv 2) pe_int (fun _ _ => rfl)) pa_nil))))))))))), ?_⟩)
  cases h1
  cases h3
  cases h4
  have E0 : Ex H H := Ex.refl H
  obtain ⟨ok_f, hk⟩ := hp
  have d_new : ∃ n, n = pressKey a0 (sideOf a2 a3) a4.c := ⟨_, rfl⟩
  obtain ⟨n, d_new⟩ := d_new
  refine q_unpP (α := Int) (β := Int) K (er_var rfl h2) (fun v1a v1b H1 e1 r_1a r_1b => ?_)
  have h0 := Rep.mono e1 h0
  have h2 := Rep.mono e1 h2
  have E0 := E0.trans e1
  cases r_1a
  cases r_1b
  refine (g_cons (.s (.s (.s (.s (.s .z))))) (g_cons (.s (.s (.s (.s (.s (.s .z)))))) (g_nil ?_)))
  refine q_ifD K (b := (decide (a3 = ("left" : Str)))) (fun σ' H' => ∃ (left : Int), ∃ (right : Int), σ' = [some x0, some (V.str a1), some x2, some (V.str a3), some (V.str ⟨#[a4.c]⟩), some (V.int left), some (V.int right)] ∧ Ey H1 H' ∧ (left = if a3 = "left" then n else a2.1) ∧ (right = if a3 = "left" then a2.2 else n) ∧ Ex H H') (fun σ' Z2 pp2 => ?_) (et_t (er_eqS (er_varS rfl) er_str)) (fun c2 H2 e2 D2 dn2 => ?_) (fun c2 H2 e2 D2 dn2 => ?_)
  rotate_left
  · skip
    have h0 := Rep.mono e2 h0
    have h2 := Rep.mono e2 h2
    have E0 := E0.trans e2
    have jx2 := e2.y
    have hcond := c2
    obtain ⟨left1, d_left1⟩ : ∃ z : Int, z = (pressKey a0 a2.1 a4.c) := ⟨_, rfl⟩
    refine l_setI K (er_is (er_call3 (er_var rfl h0) (er_varI rfl) (er_var (x := a4) rfl rfl) (by walk_at "sd")) d_left1.symm) (fun _ => (.s (.s (.s (.s (.s .z)))))) (fun H3 e3 => ?_)
    have h0 := Rep.mono e3 h0
    have h2 := Rep.mono e3 h2
    have jx2 := jx2.trans e3.y
    have E0 := E0.trans e3
    exact dn2 _ _ ⟨left1, a2.2, rfl, jx2, by rw [if_pos (of_decide_eq_true hcond), d_new, d_left1, sideOf, if_pos (of_decide_eq_true hcond)], by rw [if_pos (of_decide_eq_true hcond)], E0⟩
  · skip
    have h0 := Rep.mono e2 h0
    have h2 := Rep.mono e2 h2
    have E0 := E0.trans e2
    have jx2 := e2.y
    have hcond := c2
    obtain ⟨right1, d_right1⟩ : ∃ z : Int, z = (pressKey a0 a2.2 a4.c) := ⟨_, rfl⟩
    refine l_setI K (er_is (er_call3 (er_var rfl h0) (er_varI rfl) (er_var (x := a4) rfl rfl) (by walk_at "sd")) d_right1.symm) (fun _ => (.s (.s (.s (.s (.s (.s .z))))))) (fun H4 e4 => ?_)
    have h0 := Rep.mono e4 h0
    have h2 := Rep.mono e4 h2
    have jx2 := jx2.trans e4.y
    have E0 := E0.trans e4
    exact dn2 _ _ ⟨a2.1, right1, rfl, jx2, by rw [if_neg (of_decide_eq_false hcond)], by rw [if_neg (of_decide_eq_false hcond), d_new, d_right1, sideOf, if_neg (of_decide_eq_false hcond)], E0⟩
  obtain ⟨left, right, rfl, pp2, i_left, i_right, E0⟩ := pp2
  have h0 := Rep.moY pp2 h0
  have h2 := Rep.moY pp2 h2
  refine q_if0 K (b := (decide (left ≤ right))) (et_t (er_le (er_varI rfl) (er_varI rfl))) (fun c5 H5 e5 => ?_) (fun c5 H5 e5 => ?_)
  · skip
    have h0 := Rep.mono e5 h0
    have h2 := Rep.mono e5 h2
    have E0 := E0.trans e5
    have hcond := c5
    refine l_ret (α := (Int × Int)) K (er_tup2 (er_varI rfl) (er_varI rfl)) (fun v6 H6 e6 r6 => q v6 H6 (E0.trans e6) ?_)
    refine (congrArg (Rep.rel K H6 v6) (?_ : ((left, right) : (Int × Int)) = _)).mp r6
    exact st1 d_new i_left i_right c5
  have h0 := Rep.mono e5 h0
  have h2 := Rep.mono e5 h2
  have E0 := E0.trans e5
  have hcond := c5
  refine q_if0 K (b := (decide (a1 = ("refuse" : Str)))) (et_t (er_eqS (er_varS rfl) er_str)) (fun c7 H7 e7 => ?_) (fun c7 H7 e7 => ?_)
  · skip
    have h0 := Rep.mono e7 h0
    have h2 := Rep.mono e7 h2
    have E0 := E0.trans e7
    have hcond := c7
    refine l_ret (α := (Int × Int)) K (er_var rfl h2) (fun v8 H8 e8 r8 => q v8 H8 (E0.trans e8) ?_)
    refine (congrArg (Rep.rel K H8 v8) (?_ : (a2 : (Int × Int)) = _)).mp r8
    exact st2 d_new i_left i_right c5 c7
  have h0 := Rep.mono e7 h0
  have h2 := Rep.mono e7 h2
  have E0 := E0.trans e7
  have hcond := c7
  refine q_if0 K (b := (decide (a1 = ("push" : Str)))) (et_t (er_eqS (er_varS rfl) er_str)) (fun c9 H9 e9 => ?_) (fun c9 H9 e9 => ?_)
  · skip
    have h0 := Rep.mono e9 h0
    have h2 := Rep.mono e9 h2
    have E0 := E0.trans e9
    have hcond := c9
    refine l_ret (α := (Int × Int)) K (er_if (et_t (er_eqS (er_varS rfl) er_str)) (fun hc => (er_tup2 (er_varI rfl) (er_varI rfl))) (fun hc => (er_tup2 (er_varI rfl) (er_varI rfl)))) (fun v10 H10 e10 r10 => q v10 H10 (E0.trans e10) ?_)
    refine (congrArg (Rep.rel K H10 v10) (?_ : ((if (decide (a3 = ("left" : Str))) = true then (left, left) else (right, right)) : (Int × Int)) = _)).mp r10
    exact st3 d_new i_left i_right c5 c9
  have h0 := Rep.mono e9 h0
  have h2 := Rep.mono e9 h2
  have E0 := E0.trans e9
  have hcond := c9
  refine l_ret (α := (Int × Int)) K (er_if (et_t (er_eqS (er_varS rfl) er_str)) (fun hc => (er_tup2 (er_p1 (er_var rfl h2)) (er_p1 (er_var rfl h2)))) (fun hc => (er_tup2 (er_p0 (er_var rfl h2)) (er_p0 (er_var rfl h2))))) (fun v11 H11 e11 r11 => q v11 H11 (E0.trans e11) ?_)
  refine (congrArg (Rep.rel K H11 v11) (?_ : ((if (decide (a3 = ("left" : Str))) = true then (a2.2, a2.2) else (a2.1, a2.1)) : (Int × Int)) = _)).mp r11
  exact st4 d_new i_left i_right c5 c9 c7
theorem sc_L_moved : FnScope ["_law_field_here", "_law_tie", "_law_pair", "_law_presses", "_law_side", "_law_key_here"] ["_law_field_here", "_law_tie", "_law_pair", "_law_presses"] (defScope s_L_moved) := ⟨rfl, rfl, rfl, by decide +kernel, rfl, by decide +kernel, by decide +kernel⟩
abbrev SP_L_moved (K : PySem.W.Frag) : Sp := sp4 (α := Fld) (β := Str) (γ := (Int × Int)) (ε := (List (Str × Sg))) (δ := (Int × Int)) K (fun f_ t_ p_ ds_ => FOk f_ ∧ ∀ x_ ∈ ds_, isKey x_.2.c) (fun f_ t_ p_ ds_ => tiedRow f_ t_ p_ ds_)
theorem ok_L_moved {P : Program} {w : World} {K : PySem.W.Frag} {mg : Str → Option Value} {base : Heap} (T : Top K mg) {f_L_settled : Addr} {fd_L_settled : FuncData} (C_L_settled : Cal P w K mg base CX0 3 "_law_settled" ["_law_field_here", "_law_tie", "_law_pair", "_law_side", "_law_key_here"] (SP_L_settled K) f_L_settled fd_L_settled) {f : Addr} {fd : FuncData} (F : FnP K "_law_moved" s_L_moved f fd) : FnOk P w K mg base CX0 4 f fd ["_law_field_here", "_law_tie", "_law_pair", "_law_presses"] (SP_L_moved K) := by
  refine ok4 F sc_L_moved rfl (fun x0 x1 x2 x3 => [some x0, some x1, some x2, some x3, none, none]) (fun _ _ _ _ => rfl) (fun H Q x0 x1 x2 x3 a0 a1 a2 a3 h0 h1 h2 h3 hp q cdv A outer s E hr => ⟨_, PSs.nox (pss_cons (ps_for PassesOwn.never rfl (pi_list (pv 3)) (pg_tup rfl (pgs_cons (pg_name (i := 4) sc_L_moved.nd rfl (.inl rfl)) (pgs_cons (pg_name (i := 5) sc_L_moved.nd rfl (.inl rfl)) pgs_nil))) (pss_one (ps_set (i := 2) sc_L_moved.nd rfl (.inl rfl) (pe_call C_L_settled.ok (hr.mono (by decide)) (by rfl) C_L_settled.mg C_L_settled.kp C_L_settled.bd .nil pass0 (pa_cons (pv 0) (pa_cons (pv 1) (pa_cons (pv 2) (pa_cons (pv 4) (pa_cons (pv 5) pa_nil)))))))))
      (pss_one (ps_ret (pv 2)))), ?_⟩)
  cases h1
  have E0 : Ex H H := Ex.refl H
  obtain ⟨ok_f, hds⟩ := hp
  refine q_for K (α := (Str × Sg)) (xs := a3) (wk_list (er_var rfl h3)) (fun pre1 σ' H' => ∃ o1_4 o1_5, ∃ (w_pair : V), ∃ (pair : (Int × Int)), σ' = [some x0, some (V.str a1), some w_pair, some x3, o1_4, o1_5] ∧ Ey H H' ∧ (Rep.rel K H' w_pair pair ∧ (pair = tiedRow a0 a1 a2 pre1)) ∧ Ex H H') (fun H1 e1 => ⟨_, _, _, a2, rfl, e1.y, ⟨(Rep.mono e1 h2), rfl⟩, E0.trans e1⟩) (fun L1 pre1 y1 post1 v1 σ' A1 B1 b1 hx1 p1 pp1 c1 r1 => ?_) (fun σ' Z1 z1 pp1 => ?_)
  · obtain ⟨o1_4, o1_5, w_pair, pair, rfl, q1, ⟨r_pair, i_pair⟩, E0⟩ := pp1
    have hm1 : y1 ∈ a3 := by
      rw [hx1]
      exact List.mem_append_right _ (List.mem_cons_self ..)
    have t1 := p1.trans c1.y
    have g1 := q1.trans c1.y
    have h0 := Rep.moY g1 h0
    have h3 := Rep.moY g1 h3
    have E0 := E0.trans c1
    have r_pair := Rep.mono c1 r_pair
    refine g_pair r1 (fun v1a v1b ra1 rb1 => ?_)
    cases ra1
    have hv1b : v1b = V.str ⟨#[y1.2.c]⟩ := rb1
    subst hv1b
    refine (g_cons (.s (.s (.s (.s .z)))) (g_cons (.s (.s (.s (.s (.s .z))))) (g_nil ?_)))
    have hpx := hds _ hm1
    obtain ⟨pair1, d_pair1⟩ : ∃ z : (Int × Int), z = (pressTied a0 a1 pair y1.1 y1.2.c) := ⟨_, rfl⟩
    refine l_set (α := (Int × Int)) K (er_is (er_call5 (er_var rfl h0) (er_varS rfl) (er_var rfl r_pair) (er_varS rfl) (er_var (x := y1.2) rfl rfl) ⟨ok_f, hpx⟩) d_pair1.symm) (fun _ => (.s (.s .z))) (fun v2 H2 e2 r_2 => ?_)
    have h0 := Rep.mono e2 h0
    have h3 := Rep.mono e2 h3
    have r_pair := Rep.mono e2 r_pair
    have g1 := g1.trans e2.y
    have t1 := t1.trans e2.y
    have E0 := E0.trans e2
    exact ⟨t1, _, _, _, pair1, rfl, g1, ⟨r_2, by rw [tiedRow_snoc, ← i_pair]; exact d_pair1⟩, E0⟩
  obtain ⟨o1_4, o1_5, w_pair, pair, rfl, q1, ⟨r_pair, i_pair⟩, E0⟩ := pp1
  have h0 := Rep.moY q1 h0
  have h3 := Rep.moY q1 h3
  refine l_ret (α := (Int × Int)) K (er_var rfl r_pair) (fun v3 H3 e3 r3 => q v3 H3 (E0.trans e3) ?_)
  refine (congrArg (Rep.rel K H3 v3) (?_ : (pair : (Int × Int)) = _)).mp r3
  exact i_pair
theorem sc_law : FnScope ["_law_script", "_law_sides", "_law_keys", "_law_k", "_law_source_here", "_law_field_here", "_law_tie", "_law_one", "_law_two", "_law_found", "_law_look", "_law_left", "_law_right", "_law_pair", "_law_both", "_law_wide"] ["_law_script"] (defScope s_law) := ⟨rfl, rfl, rfl, by decide +kernel, rfl, by decide +kernel, by decide +kernel⟩
abbrev SP_law (K : PySem.W.Frag) : Sp := SP_lawdef K
theorem ok_law {P : Program} {w : World} {K : PySem.W.Frag} {mg : Str → Option Value} {base : Heap} (T : Top K mg) {f_L_source : Addr} {fd_L_source : FuncData} (C_L_source : Cal P w K mg base CX0 1 "_law_source" ["_law_script", "_law_index"] (SP_L_source K) f_L_source fd_L_source) {f_L_field : Addr} {fd_L_field : FuncData} (C_L_field : Cal P w K mg base CX0 3 "_law_field" ["_law_source_here", "_law_wide"] (SP_L_field K) f_L_field fd_L_field) {f_L_choice : Addr} {fd_L_choice : FuncData} (C_L_choice : Cal P w K mg base CX0 2 "_law_choice" ["_law_source_here", "_law_items"] (SP_L_choice K) f_L_choice fd_L_choice) {f_L_draw : Addr} {fd_L_draw : FuncData} (C_L_draw : Cal P w K mg base CX0 1 "_law_draw" ["_law_source_here", "_law_size"] (SP_L_draw K) f_L_draw fd_L_draw) {f_order_pair : Addr} {fd_order_pair : FuncData} (C_order_pair : Cal P w K mg base CX0 6 "order_pair" ["field", "tie", "press", "other_press"] (SP_order_pair K) f_order_pair fd_order_pair) {f_L_moved : Addr} {fd_L_moved : FuncData} (C_L_moved : Cal P w K mg base CX0 4 "_law_moved" ["_law_field_here", "_law_tie", "_law_pair", "_law_presses"] (SP_L_moved K) f_L_moved fd_L_moved) {f_L_value : Addr} {fd_L_value : FuncData} (C_L_value : Cal P w K mg base CX0 3 "_law_value" ["_law_source_here", "_law_field_here"] (SP_L_value K) f_L_value fd_L_value) {f_order_matters : Addr} {fd_order_matters : FuncData} (C_order_matters : Cal P w K mg base CX0 6 "order_matters" ["field", "tie", "press", "other_press"] (SP_order_matters K) f_order_matters fd_order_matters) {f : Addr} {fd : FuncData} (F : FnP K "law" s_law f fd) : FnOk P w K mg base CX0 7 f fd ["_law_script"] (SP_law K) := by
  refine F.ok sc_law (fun vs H Q E hs => ?_) (fun cdv A outer s H vs Q E hr hs => ?_)
  · obtain ⟨a, ns, rfl, _⟩ := hs
    rfl
  obtain ⟨a, ns, rfl, hs, hlen, q⟩ := hs
  refine ⟨_, PSs.nox (pss_cons (ps_par (i := 1) (j := 2) rfl sc_law.nd rfl rfl (by decide) rfl rfl (pa_cons (pe_lst (pa_cons pe_str (pa_cons pe_str pa_nil))) (pa_cons (pe_callTy (call_listZ rfl) (by rfl) T.b_list (by decide +kernel) (pa_cons pe_str pa_nil)) pa_nil)) (by rfl))
      (pss_cons (ps_for PassesOwn.never rfl (pi_range1 (by rfl) T.b_range (pa_cons (pe_op op_add pe_int (pe_callB (call_min2 rfl) (by rfl) T.b_min (by decide +kernel) (pa_cons (pe_callB call_len_seq (by rfl) T.b_len (by decide +kernel) (pa_cons (pv 0) pa_nil)) (pa_cons pe_int pa_nil)))) pa_nil)) (pg_name (i := 3) sc_law.nd rfl (.inl rfl)) (pss_cons (ps_set (i := 4) sc_law.nd rfl (.inl rfl) (pe_call C_L_source.ok (hr.mono (by decide)) (by rfl) C_L_source.mg C_L_source.kp C_L_source.bd .nil pass0 (pa_cons (pv 0) (pa_cons (pv 3) pa_nil))))
      (pss_cons (ps_par (i := 5) (j := 6) rfl sc_law.nd rfl rfl (by decide) rfl rfl (pa_cons (pe_call C_L_field.ok (hr.mono (by decide)) (by rfl) C_L_field.mg C_L_field.kp C_L_field.bd .nil pass0 (pa_cons (pv 4) (pa_cons (pe_op op_pow pe_int pe_int) pa_nil))) (pa_cons (pe_call C_L_choice.ok (hr.mono (by decide)) (by rfl) C_L_choice.mg C_L_choice.kp C_L_choice.bd .nil pass0 (pa_cons (pv 4) (pa_cons (pe_lst (pa_cons pe_str (pa_cons pe_str (pa_cons pe_str pa_nil)))) pa_nil))) pa_nil)) (by rfl))
      (pss_cons (ps_set (i := 5) sc_law.nd rfl (.inl rfl) (pe_op op_catT (pe_slice sl_tup (pv 5) po_none (po_some pe_int)) (pe_tup (pa_cons (pe_op op_add pe_int (pe_call C_L_draw.ok (hr.mono (by decide)) (by rfl) C_L_draw.mg C_L_draw.kp C_L_draw.bd .nil pass0 (pa_cons (pv 4) (pa_cons pe_int pa_nil)))) pa_nil))))
      (pss_cons (ps_set (i := 7) sc_law.nd rfl (.inl rfl) (pe_tup (pa_cons (pe_call C_L_choice.ok (hr.mono (by decide)) (by rfl) C_L_choice.mg C_L_choice.kp C_L_choice.bd .nil pass0 (pa_cons (pv 4) (pa_cons (pv 1) pa_nil))) (pa_cons (pe_call C_L_choice.ok (hr.mono (by decide)) (by rfl) C_L_choice.mg C_L_choice.kp C_L_choice.bd .nil pass0 (pa_cons (pv 4) (pa_cons (pv 2) pa_nil))) pa_nil))))
      (pss_cons (ps_set (i := 8) sc_law.nd rfl (.inl rfl) (pe_tup (pa_cons (pe_call C_L_choice.ok (hr.mono (by decide)) (by rfl) C_L_choice.mg C_L_choice.kp C_L_choice.bd .nil pass0 (pa_cons (pv 4) (pa_cons (pv 1) pa_nil))) (pa_cons (pe_call C_L_choice.ok (hr.mono (by decide)) (by rfl) C_L_choice.mg C_L_choice.kp C_L_choice.bd .nil pass0 (pa_cons (pv 4) (pa_cons (pe_op op_cat (pv 2) (pe_lst (pa_cons pe_str (pa_cons pe_str pa_nil)))) pa_nil))) pa_nil))))
      (pss_cons (ps_set (i := 9) sc_law.nd rfl (.inl rfl) (pe_call C_order_pair.ok (hr.mono (by decide)) (by rfl) C_order_pair.mg C_order_pair.kp C_order_pair.bd .nil pass0 (pa_cons (pv 5) (pa_cons (pv 6) (pa_cons (pv 7) (pa_cons (pv 8) pa_nil))))))
      (pss_cons (ps_if (pt_cmpR op_notN1 (pv 9) pe_non (nomark _)) (pss_cons (ps_if (pt_not (pt_chain3 op_le op_le op_le (pe_ix ix_tup (pv 5) pe_int (fun _ _ => rfl)) (pe_ix ix_tup (pv 9) pe_int (fun _ _ => rfl)) (pe_ix ix_tup (pv 9) pe_int (fun _ _ => rfl)) (pe_ix ix_tup (pv 5) pe_int (fun _ _ => rfl)))) (pss_one (ps_ret pe_bl)) pss_nil)
      (pss_one (ps_if (pt_cmpR (op_eqD hr.units) (pe_call C_L_moved.ok (hr.mono (by decide)) (by rfl) C_L_moved.mg C_L_moved.kp C_L_moved.bd .nil pass0 (pa_cons (pv 5) (pa_cons (pv 6) (pa_cons (pv 9) (pa_cons (pe_lst (pa_cons (pv 7) (pa_cons (pv 8) pa_nil))) pa_nil))))) (pe_call C_L_moved.ok (hr.mono (by decide)) (by rfl) C_L_moved.mg C_L_moved.kp C_L_moved.bd .nil pass0 (pa_cons (pv 5) (pa_cons (pv 6) (pa_cons (pv 9) (pa_cons (pe_lst (pa_cons (pv 8) (pa_cons (pv 7) pa_nil))) pa_nil))))) (nomark _)) (pss_one (ps_ret pe_bl)) pss_nil))) pss_nil)
      (pss_cons (ps_for PassesOwn.never rfl (pi_range1 (by rfl) T.b_range (pa_cons pe_int pa_nil)) (pg_name (i := 10) sc_law.nd rfl (.inl rfl)) (pss_cons (ps_set (i := 11) sc_law.nd rfl (.inl rfl) (pe_call C_L_value.ok (hr.mono (by decide)) (by rfl) C_L_value.mg C_L_value.kp C_L_value.bd .nil pass0 (pa_cons (pv 4) (pa_cons (pv 5) pa_nil))))
      (pss_cons (ps_set (i := 12) sc_law.nd rfl (.inl rfl) (pe_callB (call_min2 rfl) (by rfl) T.b_min (by decide +kernel) (pa_cons (pe_ix ix_tup (pv 5) pe_int (fun _ _ => rfl)) (pa_cons (pe_op op_add (pv 11) (pe_call C_L_draw.ok (hr.mono (by decide)) (by rfl) C_L_draw.mg C_L_draw.kp C_L_draw.bd .nil pass0 (pa_cons (pv 4) (pa_cons (pe_op op_add pe_int (pe_op op_mul (pe_op op_mul pe_int (pe_ix ix_tup (pv 5) pe_int (fun _ _ => rfl))) (pe_ix ix_tup (pv 5) pe_int (fun _ _ => rfl)))) pa_nil)))) pa_nil))))
      (pss_cons (ps_if (pt_cmpR op_eq (pe_call C_L_draw.ok (hr.mono (by decide)) (by rfl) C_L_draw.mg C_L_draw.kp C_L_draw.bd .nil pass0 (pa_cons (pv 4) (pa_cons pe_int pa_nil))) pe_int (nomark _)) (pss_one (ps_par (i := 11) (j := 12) rfl sc_law.nd rfl rfl (by decide) rfl rfl (pa_cons (pe_callB (call_min2 rfl) (by rfl) T.b_min (by decide +kernel) (pa_cons (pv 11) (pa_cons (pv 12) pa_nil))) (pa_cons (pe_callB (call_max2 rfl) (by rfl) T.b_max (by decide +kernel) (pa_cons (pv 11) (pa_cons (pe_call C_L_value.ok (hr.mono (by decide)) (by rfl) C_L_value.mg C_L_value.kp C_L_value.bd .nil pass0 (pa_cons (pv 4) (pa_cons (pv 5) pa_nil))) pa_nil))) pa_nil)) (by rfl))) pss_nil)
      (pss_cons (ps_set (i := 13) sc_law.nd rfl (.inl rfl) (pe_tup (pa_cons (pv 11) (pa_cons (pv 12) pa_nil))))
      (pss_cons (ps_set (i := 14) sc_law.nd rfl (.inl rfl) (pe_lst (pa_cons (pe_call C_L_moved.ok (hr.mono (by decide)) (by rfl) C_L_moved.mg C_L_moved.kp C_L_moved.bd .nil pass0 (pa_cons (pv 5) (pa_cons (pv 6) (pa_cons (pv 13) (pa_cons (pe_lst (pa_cons (pv 7) (pa_cons (pv 8) pa_nil))) pa_nil))))) (pa_cons (pe_call C_L_moved.ok (hr.mono (by decide)) (by rfl) C_L_moved.mg C_L_moved.kp C_L_moved.bd .nil pass0 (pa_cons (pv 5) (pa_cons (pv 6) (pa_cons (pv 13) (pa_cons (pe_lst (pa_cons (pv 8) (pa_cons (pv 7) pa_nil))) pa_nil))))) pa_nil))))
      (pss_one (ps_if (PW.pt (pw_and (pt_cmpR op_isN1 (pv 9) pe_non (nomark _)) (pw_and1 (pt_cmpR (op_neD hr.units) (pe_ix ix_list (pv 14) pe_int (fun _ _ => rfl)) (pe_ix ix_list (pv 14) pe_int (fun _ _ => rfl)) (nomark _))))) (pss_one (ps_ret pe_bl)) pss_nil))))))))
      (pss_one (ps_if (pt_cmpR op_ne (pe_call C_order_matters.ok (hr.mono (by decide)) (by rfl) C_order_matters.mg C_order_matters.kp C_order_matters.bd .nil pass0 (pa_cons (pv 5) (pa_cons (pv 6) (pa_cons (pv 7) (pa_cons (pv 8) pa_nil))))) (pe_cmpR op_notN1 (pv 9) pe_non (nomark _)) (nomark _)) (pss_one (ps_ret pe_bl)) pss_nil)))))))))))
      (pss_cons (ps_set (i := 15) sc_law.nd rfl (.inl rfl) (pe_tup (pa_cons pe_int (pa_cons (pe_op op_pow pe_int pe_int) (pa_cons pe_int (pa_cons pe_int (pa_cons pe_str (pa_cons pe_str (pa_cons pe_int pa_nil)))))))))
      (pss_cons (ps_if (pt_cmpR op_isnot_bl (pe_call C_order_matters.ok (hr.mono (by decide)) (by rfl) C_order_matters.mg C_order_matters.kp C_order_matters.bd .nil pass0 (pa_cons (pv 15) (pa_cons pe_str (pa_cons (pe_tup (pa_cons pe_str (pa_cons pe_str pa_nil))) (pa_cons (pe_tup (pa_cons pe_str (pa_cons pe_str pa_nil))) pa_nil))))) pe_bl (nomark _)) (pss_one (ps_ret pe_bl)) pss_nil)
      (pss_cons (ps_if (pt_cmpR op_isN1 (pe_call C_order_pair.ok (hr.mono (by decide)) (by rfl) C_order_pair.mg C_order_pair.kp C_order_pair.bd .nil pass0 (pa_cons (pv 15) (pa_cons pe_str (pa_cons (pe_tup (pa_cons pe_str (pa_cons pe_str pa_nil))) (pa_cons (pe_tup (pa_cons pe_str (pa_cons pe_str pa_nil))) pa_nil))))) pe_non (nomark _)) (pss_one (ps_ret pe_bl)) pss_nil)
      (pss_one (ps_ret (pe_cmpR op_is_bl (pe_call C_order_matters.ok (hr.mono (by decide)) (by rfl) C_order_matters.mg C_order_matters.kp C_order_matters.bd .nil pass0 (pa_cons (pv 15) (pa_cons pe_str (pa_cons (pe_tup (pa_cons pe_str (pa_cons pe_str pa_nil))) (pa_cons (pe_tup (pa_cons pe_str (pa_cons pe_str pa_nil))) pa_nil))))) pe_bl (nomark _))))))))), ?_⟩
  show (_ : TS) _ [some (V.ref a), none, none, none, none, none, none, none, none, none, none, none, none, none, none, none] H
  dsimp only [cxOf, Cx.wish]
  have mk : ∀ s : Str, rowOkB s = true → rowOk s := fun s h => rowOkB_ok h
  refine n_par (α := (List Str)) (β := (List Sg)) K (P1 := fun z => z = ([("left" : Str), ("right" : Str)] : List Str)) (P2 := fun z => z = (sgs ("udUD" : Str))) ?_ (fun H1a e1a => ?_) (fun _ _ => (.s .z)) (fun _ _ => (.s (.s .z))) (fun sides keys v1a v1b H1 p_sides p_keys e1 r_sides r_keys => ?_)
  · exact (en_is (er_lst (eas_cons er_str (eas_cons er_str eas_nil)) (Nat.le_of_ble_eq_true rfl)))
  · skip
    exact (en_is (er_listZ er_str (by walk_at "sd")))
  have hs := exF e1 hs
  replace p_sides := p_sides.symm
  subst p_sides
  replace p_keys := p_keys.symm
  subst p_keys
  refine q_for K (α := Int) (xs := (rng 0 ((1 + (min (ns.length : Int) 1)) : Int).toNat)) (wk_rng1 (er_add er_int (er_min2 (er_lenScript rfl hs) er_int)) ⟨by first | omega | walk_at "sd", by first | omega | walk_at "sd"⟩) (fun pre2 σ' H' => ∃ o2_3 o2_4 o2_5 o2_6 o2_7 o2_8 o2_9 o2_10 o2_11 o2_12 o2_13 o2_14, σ' = [some (V.ref a), some v1a, some v1b, o2_3, o2_4, o2_5, o2_6, o2_7, o2_8, o2_9, o2_10, o2_11, o2_12, o2_13, o2_14, none] ∧ Ey H1 H') (fun H1 e1 => ⟨_, _, _, _, _, _, _, _, _, _, _, _, rfl, e1.y⟩) (fun L2 pre2 y2 post2 v2 σ' A2 B2 b2 hx2 p2 pp2 c2 r2 => ?_) (fun σ' Z2 z2 pp2 => ?_)
  · obtain ⟨o2_3, o2_4, o2_5, o2_6, o2_7, o2_8, o2_9, o2_10, o2_11, o2_12, o2_13, o2_14, rfl, q2⟩ := pp2
    have hm2 : y2 ∈ (rng 0 ((1 + (min (ns.length : Int) 1)) : Int).toNat) := by
      rw [hx2]
      exact List.mem_append_right _ (List.mem_cons_self ..)
    have hr2 := rng_mem.mp hm2
    have t2 := p2.trans c2.y
    have g2 := q2.trans c2.y
    have r_sides := Rep.moY g2 r_sides
    have r_keys := Rep.moY g2 r_keys
    have hs := eyF g2 hs
    cases r2
    refine g_name1 (.s (.s (.s .z))) ?_
    refine q_set (α := Src) K (er_source rfl hs (er_varI rfl) (by walk_at "sd") (by walk_at "sd")) (fun _ => (.s (.s (.s (.s .z))))) (fun v3 H3 e3 rs => ?_)
    have r_sides := Rep.mono e3 r_sides
    have r_keys := Rep.mono e3 r_keys
    have hs := exF e3 hs
    have g2 := g2.trans e3.y
    have t2 := t2.trans e3.y
    refine n_par (α := Fld) (β := Str) K (P1 := fun z => (FieldPost 1000000000 z)) (P2 := fun z => (z = ("push" : Str)) ∨ (z = ("refuse" : Str)) ∨ (z = ("stop" : Str))) ?_ (fun H4a e4a => ?_) (fun _ _ => (.s (.s (.s (.s (.s .z)))))) (fun _ _ => (.s (.s (.s (.s (.s (.s .z))))))) (fun field tie v4a v4b H4 p_field p_tie e4 r_field r_tie => ?_)
    · exact (en_call2 (er_var rfl rs) (er_powc (k := 1000000000) ⟨by decide, by decide, by decide⟩ (by decide)) (by walk_at "sd"))
    · skip
      have r_sides := Rep.mono e4a r_sides
      have r_keys := Rep.mono e4a r_keys
      have rs := Rep.mono e4a rs
      exact (en_pick (P := fun z => (z = ("push" : Str)) ∨ (z = ("refuse" : Str)) ∨ (z = ("stop" : Str))) (er_var rfl rs) (ens_cons (en_imp (P := fun z => z = ("push" : Str)) (en_is er_str) (fun _ h => .inl h)) (ens_cons (en_imp (P := fun z => z = ("refuse" : Str)) (en_is er_str) (fun _ h => .inr (.inl h))) (ens_cons (en_imp (P := fun z => z = ("stop" : Str)) (en_is er_str) (fun _ h => .inr (.inr (h)))) ens_nil))) (by decide) (by decide))
    have r_sides := Rep.mono e4 r_sides
    have r_keys := Rep.mono e4 r_keys
    have rs := Rep.mono e4 rs
    have hs := exF e4 hs
    have g2 := g2.trans e4.y
    have t2 := t2.trans e4.y
    cases r_tie
    have ok_f := p_field.ok
    have hst := p_field.st
    have ht : isTie tie := p_tie
    refine n_set (α := Fld) K (P := fun z => ∃ (x7_0 : Int), (∃ (x6_1 : Int), (0 ≤ x6_1 ∧ x6_1 < 2) ∧ x7_0 = (2 + x6_1)) ∧ z = (Fld.mk field.low field.high field.step field.base field.off field.ends x7_0)) ?_ (fun _ => (.s (.s (.s (.s (.s .z)))))) (fun field1 v5 H5 p_field1 e5 r_field1 => ?_)
    · exact (en_ofVN (evn_cat (evn_is (vs := [V.int field.low, V.int field.high, V.int field.step, V.int field.base, V.str field.off, V.str field.ends]) (ev_slF (ys := [V.int field.low, V.int field.high, V.int field.step, V.int field.base, V.str field.off, V.str field.ends]) none (some 6) (ev_fld (er_var rfl r_field)) (fun _ _ h => h) (fun _ _ h => ⟨6, rfl, h⟩) (show ¬ ((0 : Nat) = 0 ∧ (6 : Nat) = 7) by decide) rfl)) (evn_I (P := fun z => ∃ (x6_1 : Int), (0 ≤ x6_1 ∧ x6_1 < 2) ∧ z = (2 + x6_1)) (en_op2 (P := fun z => ∃ (x6_1 : Int), (0 ≤ x6_1 ∧ x6_1 < 2) ∧ z = (2 + x6_1)) (en_is er_int) (en_drawE (er_var rfl rs) er_int ⟨by walk_at "sd", by walk_at "sd"⟩) (fun x6_0 x6_1 v6_0 v6_1 H6 E6 p6_0 p6_1 r6_0 r6_1 => by replace p6_0 := p6_0.symm; subst p6_0; exact en_of (er_add (er_c (x := 2) r6_0) (er_c (x := x6_1) r6_1)) ⟨x6_1, p6_1, rfl⟩))) (fun vs h => by obtain rfl := h; exact ⟨by simp, Nat.le_of_ble_eq_true rfl⟩) (fun vs h => by obtain ⟨x7_0, h_x7_0, rfl⟩ := h; exact ⟨by simp, Nat.le_of_ble_eq_true rfl⟩)) (fun vs h => by obtain ⟨_, rfl, _, ⟨x7_0, h_x7_0, rfl⟩, rfl⟩ := h; exact ⟨(Fld.mk field.low field.high field.step field.base field.off field.ends x7_0), ⟨x7_0, h_x7_0, rfl⟩, rfl⟩))
    have r_sides := Rep.mono e5 r_sides
    have r_keys := Rep.mono e5 r_keys
    have rs := Rep.mono e5 rs
    have r_field := Rep.mono e5 r_field
    have hs := exF e5 hs
    have g2 := g2.trans e5.y
    have t2 := t2.trans e5.y
    obtain ⟨x7_0, h_x7_0, d_field1⟩ := p_field1
    obtain ⟨ok1, hb1, hs1⟩ : FOk field1 ∧ (0 ≤ 4 * field1.big * field1.step ∧ 4 * field1.big * field1.step ≤ 12 * field1.step) ∧ field1.step = field.step := by
      rw [d_field1]
      exact k18_fld ok_f (by assumption)
    have bd1 := ok1.fl
    unfold FL LOK at bd1
    have bg0 := ok1.g0
    have bg1 := ok1.g1
    refine n_set (α := (Str × Sg)) K (P := fun z => (z.1 ∈ ([("left" : Str), ("right" : Str)] : List Str)) ∧ (z.2 ∈ (sgs ("udUD" : Str)))) ?_ (fun _ => (.s (.s (.s (.s (.s (.s (.s .z)))))))) (fun one v9 H9 p_one e9 r_one => ?_)
    · exact (en_tup2 (P1 := fun z => z ∈ ([("left" : Str), ("right" : Str)] : List Str)) (P2 := fun z => z ∈ (sgs ("udUD" : Str))) (en_chooseE (er_var rfl rs) (er_var rfl r_sides) ⟨Nat.le_of_ble_eq_true rfl, Nat.le_of_ble_eq_true rfl⟩) (en_chooseE (er_var rfl rs) (er_var rfl r_keys) ⟨Nat.le_of_ble_eq_true rfl, Nat.le_of_ble_eq_true rfl⟩))
    have r_sides := Rep.mono e9 r_sides
    have r_keys := Rep.mono e9 r_keys
    have rs := Rep.mono e9 rs
    have r_field := Rep.mono e9 r_field
    have r_field1 := Rep.mono e9 r_field1
    have hs := exF e9 hs
    have g2 := g2.trans e9.y
    have t2 := t2.trans e9.y
    have okA : PrOk one := k18_pr (by decide +kernel) p_one
    refine n_set (α := (Str × Sg)) K (P := fun z => (z.1 ∈ ([("left" : Str), ("right" : Str)] : List Str)) ∧ (z.2 ∈ ((sgs ("udUD" : Str)) ++ ([(Sg.mk 104), (Sg.mk 101)] : List Sg)))) ?_ (fun _ => (.s (.s (.s (.s (.s (.s (.s (.s .z))))))))) (fun two v10 H10 p_two e10 r_two => ?_)
    · exact (en_tup2 (P1 := fun z => z ∈ ([("left" : Str), ("right" : Str)] : List Str)) (P2 := fun z => z ∈ ((sgs ("udUD" : Str)) ++ ([(Sg.mk 104), (Sg.mk 101)] : List Sg))) (en_chooseE (er_var rfl rs) (er_var rfl r_sides) ⟨Nat.le_of_ble_eq_true rfl, Nat.le_of_ble_eq_true rfl⟩) (en_chooseE (er_var rfl rs) (er_cat (er_var rfl r_keys) (er_lst (eas_cons (er_g (c := 104) rfl) (eas_cons (er_g (c := 101) rfl) eas_nil)) (Nat.le_of_ble_eq_true rfl)) (Nat.le_of_ble_eq_true rfl)) ⟨Nat.le_of_ble_eq_true rfl, Nat.le_of_ble_eq_true rfl⟩))
    have r_sides := Rep.mono e10 r_sides
    have r_keys := Rep.mono e10 r_keys
    have rs := Rep.mono e10 rs
    have r_field := Rep.mono e10 r_field
    have r_field1 := Rep.mono e10 r_field1
    have r_one := Rep.mono e10 r_one
    have hs := exF e10 hs
    have g2 := g2.trans e10.y
    have t2 := t2.trans e10.y
    have okB : PrOk two := k18_pr (by decide +kernel) p_two
    obtain ⟨found, d_found⟩ : ∃ z : (Option (Int × Int)), z = (orderOf field1 tie one two) := ⟨_, rfl⟩
    refine q_set (α := (Option (Int × Int))) K (er_is (er_call4 (er_var rfl r_field1) (er_varS rfl) (er_var rfl r_one) (er_var rfl r_two) ⟨ok1, ht, okA, okB⟩) d_found.symm) (fun _ => (.s (.s (.s (.s (.s (.s (.s (.s (.s .z)))))))))) (fun v11 H11 e11 r_11 => ?_)
    have r_sides := Rep.mono e11 r_sides
    have r_keys := Rep.mono e11 r_keys
    have rs := Rep.mono e11 rs
    have r_field := Rep.mono e11 r_field
    have r_field1 := Rep.mono e11 r_field1
    have r_one := Rep.mono e11 r_one
    have r_two := Rep.mono e11 r_two
    have hs := exF e11 hs
    have g2 := g2.trans e11.y
    have t2 := t2.trans e11.y
    refine q_ifD K (b := (!found.isNone)) (fun σ' H' => σ' = [some (V.ref a), some v1a, some v1b, some (V.int y2), some v3, some v5, some (V.str tie), some v9, some v10, some v11, o2_10, o2_11, o2_12, o2_13, o2_14, none] ∧ Ey H11 H') (fun σ' Z12 pp12 => ?_) (et_t (er_isNNone (er_var rfl r_11))) (fun c12 H12 e12 D12 dn12 => ?_) (fun c12 H12 e12 D12 dn12 => ?_)
    rotate_left
    · skip
      have r_sides := Rep.mono e12 r_sides
      have r_keys := Rep.mono e12 r_keys
      have rs := Rep.mono e12 rs
      have r_field := Rep.mono e12 r_field
      have r_field1 := Rep.mono e12 r_field1
      have r_one := Rep.mono e12 r_one
      have r_two := Rep.mono e12 r_two
      have r_11 := Rep.mono e12 r_11
      have hs := exF e12 hs
      have g2 := g2.trans e12.y
      have t2 := t2.trans e12.y
      have jx12 := e12.y
      have hcond := c12
      have hfn := hcond
      have hfo := opt_some (α := Int × Int) (0, 0) hcond
      -- check 1: not field_here[0] <= found[0] <= found[1] <= field_here[1]
      have ck1 : (!((decide (field1.low ≤ (found.getD (0, 0)).1)) && ((decide ((found.getD (0, 0)).1 ≤ (found.getD (0, 0)).2)) && (decide ((found.getD (0, 0)).2 ≤ field1.high))))) = false := k18_in ok1 (by rw [← d_found]; exact hfo)
      refine q_no K (et_is (a := (!((decide (field1.low ≤ (found.getD (0, 0)).1)) && ((decide ((found.getD (0, 0)).1 ≤ (found.getD (0, 0)).2)) && (decide ((found.getD (0, 0)).2 ≤ field1.high)))))) (ett_not (et_t (er_chain3 (r1 := (fun i j => (decide (i ≤ j)))) (r2 := (fun i j => (decide (i ≤ j)))) (r3 := (fun i j => (decide (i ≤ j)))) (er_f0 (er_var rfl r_field1)) (er_p0 (er_get (x := found) (y := (found.getD (0, 0))) (er_var rfl r_11) (opt_some _ (by first | exact hc | exact hfn)))) (er_p1 (er_get (x := found) (y := (found.getD (0, 0))) (er_var rfl r_11) (opt_some _ (by first | exact hc | exact hfn)))) (er_f1 (er_var rfl r_field1))))) ck1) (fun H13 e13 => ?_)
      have r_sides := Rep.mono e13 r_sides
      have r_keys := Rep.mono e13 r_keys
      have rs := Rep.mono e13 rs
      have r_field := Rep.mono e13 r_field
      have r_field1 := Rep.mono e13 r_field1
      have r_one := Rep.mono e13 r_one
      have r_two := Rep.mono e13 r_two
      have r_11 := Rep.mono e13 r_11
      have hs := exF e13 hs
      have g2 := g2.trans e13.y
      have t2 := t2.trans e13.y
      have jx12 := jx12.trans e13.y
      -- check 2: moved(field_here, tie, found, [one, two]) == moved(field_here, tie, found, [two, one])
      have ck2 : (decide ((tiedRow field1 tie (found.getD (0, 0)) ([one, two] : List (Str × Sg))) = (tiedRow field1 tie (found.getD (0, 0)) ([two, one] : List (Str × Sg))))) = false := k18_part ok1 (by rw [← d_found]; exact hfo)
      refine l_no K (et_is (a := (decide ((tiedRow field1 tie (found.getD (0, 0)) ([one, two] : List (Str × Sg))) = (tiedRow field1 tie (found.getD (0, 0)) ([two, one] : List (Str × Sg)))))) (et_t (er_eqT (α := (Int × Int)) (er_call4 (er_var rfl r_field1) (er_varS rfl) (er_get (x := found) (y := (found.getD (0, 0))) (er_var rfl r_11) (opt_some _ (by first | exact hc | exact hfn))) (er_lst (eas_cons (er_var rfl r_one) (eas_cons (er_var rfl r_two) eas_nil)) (Nat.le_of_ble_eq_true rfl)) (by refine ⟨ok1, fun x hx => ?_⟩; simp only [List.mem_cons, List.not_mem_nil, or_false] at hx; rcases hx with z | z <;> rw [z] <;> first | exact okA.2 | exact okB.2)) (er_call4 (er_var rfl r_field1) (er_varS rfl) (er_get (x := found) (y := (found.getD (0, 0))) (er_var rfl r_11) (opt_some _ (by first | exact hc | exact hfn))) (er_lst (eas_cons (er_var rfl r_two) (eas_cons (er_var rfl r_one) eas_nil)) (Nat.le_of_ble_eq_true rfl)) (by refine ⟨ok1, fun x hx => ?_⟩; simp only [List.mem_cons, List.not_mem_nil, or_false] at hx; rcases hx with z | z <;> rw [z] <;> first | exact okA.2 | exact okB.2)) (by first | exact ⟨trivial, trivial⟩ | exact fun _ _ => ⟨trivial, trivial⟩) (by first | exact ⟨trivial, trivial⟩ | exact fun _ _ => ⟨trivial, trivial⟩) (by decide))) ck2) (fun H14 e14 => ?_)
      have r_sides := Rep.mono e14 r_sides
      have r_keys := Rep.mono e14 r_keys
      have rs := Rep.mono e14 rs
      have r_field := Rep.mono e14 r_field
      have r_field1 := Rep.mono e14 r_field1
      have r_one := Rep.mono e14 r_one
      have r_two := Rep.mono e14 r_two
      have r_11 := Rep.mono e14 r_11
      have hs := exF e14 hs
      have g2 := g2.trans e14.y
      have t2 := t2.trans e14.y
      have jx12 := jx12.trans e14.y
      exact dn12 _ _ ⟨rfl, jx12⟩
    · skip
      have r_sides := Rep.mono e12 r_sides
      have r_keys := Rep.mono e12 r_keys
      have rs := Rep.mono e12 rs
      have r_field := Rep.mono e12 r_field
      have r_field1 := Rep.mono e12 r_field1
      have r_one := Rep.mono e12 r_one
      have r_two := Rep.mono e12 r_two
      have r_11 := Rep.mono e12 r_11
      have hs := exF e12 hs
      have g2 := g2.trans e12.y
      have t2 := t2.trans e12.y
      have jx12 := e12.y
      have hcond := c12
      refine l_next ?_
      exact dn12 _ _ ⟨rfl, jx12⟩
    obtain ⟨rfl, pp12⟩ := pp12
    have r_sides := Rep.moY pp12 r_sides
    have r_keys := Rep.moY pp12 r_keys
    have rs := Rep.moY pp12 rs
    have r_field1 := Rep.moY pp12 r_field1
    have r_one := Rep.moY pp12 r_one
    have r_two := Rep.moY pp12 r_two
    have r_11 := Rep.moY pp12 r_11
    have hs := eyF pp12 hs
    have g2 := g2.trans pp12
    have t2 := t2.trans pp12
    refine q_for K (α := Int) (xs := (rng 0 (120 : Int).toNat)) (wk_rng1 er_int ⟨by first | omega | walk_at "sd", by first | omega | walk_at "sd"⟩) (fun pre15 σ' H' => ∃ o15_10 o15_11 o15_12 o15_13 o15_14, σ' = [some (V.ref a), some v1a, some v1b, some (V.int y2), some v3, some v5, some (V.str tie), some v9, some v10, some v11, o15_10, o15_11, o15_12, o15_13, o15_14, none] ∧ Ey Z12 H') (fun H1 e1 => ⟨_, _, _, _, _, rfl, e1.y⟩) (fun L15 pre15 y15 post15 v15 σ' A15 B15 b15 hx15 p15 pp15 c15 r15 => ?_) (fun σ' Z15 z15 pp15 => ?_)
    · obtain ⟨o15_10, o15_11, o15_12, o15_13, o15_14, rfl, q15⟩ := pp15
      have hm15 : y15 ∈ (rng 0 (120 : Int).toNat) := by
        rw [hx15]
        exact List.mem_append_right _ (List.mem_cons_self ..)
      have hr15 := rng_mem.mp hm15
      have t15 := p15.trans c15.y
      have g15 := q15.trans c15.y
      have r_sides := Rep.moY g15 r_sides
      have r_keys := Rep.moY g15 r_keys
      have rs := Rep.moY g15 rs
      have r_field1 := Rep.moY g15 r_field1
      have r_one := Rep.moY g15 r_one
      have r_two := Rep.moY g15 r_two
      have r_11 := Rep.moY g15 r_11
      have hs := eyF g15 hs
      have g2 := g2.trans g15
      have t2 := t2.trans g15
      cases r15
      refine g_name1 (.s (.s (.s (.s (.s (.s (.s (.s (.s (.s .z)))))))))) ?_
      refine n_set (α := Int) K (P := fun z => (field1.low ≤ z ∧ z ≤ field1.high)) ?_ (fun _ => (.s (.s (.s (.s (.s (.s (.s (.s (.s (.s (.s .z)))))))))))) (fun left v16 H16 p_left e16 r_left => ?_)
      · exact (en_call2 (er_var rfl rs) (er_var rfl r_field1) ok1.fl)
      have r_sides := Rep.mono e16 r_sides
      have r_keys := Rep.mono e16 r_keys
      have rs := Rep.mono e16 rs
      have r_field1 := Rep.mono e16 r_field1
      have r_one := Rep.mono e16 r_one
      have r_two := Rep.mono e16 r_two
      have r_11 := Rep.mono e16 r_11
      have hs := exF e16 hs
      have g2 := g2.trans e16.y
      have t2 := t2.trans e16.y
      have g15 := g15.trans e16.y
      have t15 := t15.trans e16.y
      cases r_left
      refine n_set (α := Int) K (P := fun z => ∃ (x18_1 : Int), (0 ≤ x18_1 ∧ x18_1 < (1 + ((4 * field1.big) * field1.step))) ∧ z = (min field1.high (left + x18_1))) ?_ (fun _ => (.s (.s (.s (.s (.s (.s (.s (.s (.s (.s (.s (.s .z))))))))))))) (fun right v17 H17 p_right e17 r_right => ?_)
      · exact (en_cb2 (P := fun z => ∃ (x18_1 : Int), (0 ≤ x18_1 ∧ x18_1 < (1 + ((4 * field1.big) * field1.step))) ∧ z = (min field1.high (left + x18_1))) (en_is (er_f1 (er_var rfl r_field1))) (en_op2 (P := fun z => ∃ (x18_1 : Int), (0 ≤ x18_1 ∧ x18_1 < (1 + ((4 * field1.big) * field1.step))) ∧ z = (left + x18_1)) (en_is (er_varI rfl)) (en_drawE (er_var rfl rs) (er_add er_int (er_mul (er_mul er_int (er_f6 (er_var rfl r_field1)) (by walk_at "mc")) (er_f2 (er_var rfl r_field1)) (by walk_at "mc"))) ⟨by walk_at "sd", by walk_at "sd"⟩) (fun x18_0 x18_1 v18_0 v18_1 H18 E18 p18_0 p18_1 r18_0 r18_1 => by replace p18_0 := p18_0.symm; subst p18_0; exact en_of (er_add (er_c (x := left) r18_0) (er_c (x := x18_1) r18_1)) ⟨x18_1, p18_1, rfl⟩)) (fun x19_0 x19_1 v19_0 v19_1 H19 E19 p19_0 p19_1 r19_0 r19_1 => by replace p19_0 := p19_0.symm; subst p19_0; obtain ⟨x18_1, h_x18_1, rfl⟩ := p19_1; exact en_of (er_min2 (er_c (x := field1.high) r19_0) (er_c (x := (left + x18_1)) r19_1)) ⟨x18_1, h_x18_1, rfl⟩))
      have r_sides := Rep.mono e17 r_sides
      have r_keys := Rep.mono e17 r_keys
      have rs := Rep.mono e17 rs
      have r_field1 := Rep.mono e17 r_field1
      have r_one := Rep.mono e17 r_one
      have r_two := Rep.mono e17 r_two
      have r_11 := Rep.mono e17 r_11
      have hs := exF e17 hs
      have g2 := g2.trans e17.y
      have t2 := t2.trans e17.y
      have g15 := g15.trans e17.y
      have t15 := t15.trans e17.y
      cases r_right
      obtain ⟨x18_1, h_x18_1, d_right⟩ := p_right
      refine q_ifJ K (P := fun _ => True) (fun σ' H' => ∃ (left1 : Int), ∃ (right1 : Int), σ' = [some (V.ref a), some v1a, some v1b, some (V.int y2), some v3, some v5, some (V.str tie), some v9, some v10, some v11, some (V.int y15), some (V.int left1), some (V.int right1), o15_13, o15_14, none] ∧ Ey H17 H' ∧ (field1.low ≤ left1 ∧ left1 ≤ field1.high) ∧ (left1 ≤ right1 ∧ right1 ≤ field1.high)) (fun σ' Z20 pp20 => ?_) ?_ (fun D20 dn20 c20 H20 e20 => ?_) (fun D20 dn20 c20 H20 e20 => ?_)
      rotate_left
      · exact (etn_any (en_eqI (en_drawE (er_var rfl rs) er_int ⟨by walk_at "sd", by walk_at "sd"⟩) (en_is er_int)))
      · skip
        have r_sides := Rep.mono e20 r_sides
        have r_keys := Rep.mono e20 r_keys
        have rs := Rep.mono e20 rs
        have r_field1 := Rep.mono e20 r_field1
        have r_one := Rep.mono e20 r_one
        have r_two := Rep.mono e20 r_two
        have r_11 := Rep.mono e20 r_11
        have hs := exF e20 hs
        have g2 := g2.trans e20.y
        have t2 := t2.trans e20.y
        have g15 := g15.trans e20.y
        have t15 := t15.trans e20.y
        have jx20 := e20.y
        refine nl_par (α := Int) (β := Int) K (P1 := fun z => z = (min left right)) (P2 := fun z => ∃ (x22_1 : Int), ((field1.low ≤ x22_1 ∧ x22_1 ≤ field1.high)) ∧ z = (max left x22_1)) ?_ (fun H21a e21a => ?_) (fun _ _ => (.s (.s (.s (.s (.s (.s (.s (.s (.s (.s (.s .z)))))))))))) (fun _ _ => (.s (.s (.s (.s (.s (.s (.s (.s (.s (.s (.s (.s .z))))))))))))) (fun left2 right2 v21a v21b H21 p_left2 p_right2 e21 r_left2 r_right2 => ?_)
        · exact (en_is (er_min2 (er_varI rfl) (er_varI rfl)))
        · skip
          have r_sides := Rep.mono e21a r_sides
          have r_keys := Rep.mono e21a r_keys
          have rs := Rep.mono e21a rs
          have r_field1 := Rep.mono e21a r_field1
          have r_one := Rep.mono e21a r_one
          have r_two := Rep.mono e21a r_two
          have r_11 := Rep.mono e21a r_11
          exact (en_cb2 (P := fun z => ∃ (x22_1 : Int), ((field1.low ≤ x22_1 ∧ x22_1 ≤ field1.high)) ∧ z = (max left x22_1)) (en_is (er_varI rfl)) (en_call2 (er_var rfl rs) (er_var rfl r_field1) ok1.fl) (fun x22_0 x22_1 v22_0 v22_1 H22 E22 p22_0 p22_1 r22_0 r22_1 => by replace p22_0 := p22_0.symm; subst p22_0; exact en_of (er_max2 (er_c (x := left) r22_0) (er_c (x := x22_1) r22_1)) ⟨x22_1, p22_1, rfl⟩))
        have r_sides := Rep.mono e21 r_sides
        have r_keys := Rep.mono e21 r_keys
        have rs := Rep.mono e21 rs
        have r_field1 := Rep.mono e21 r_field1
        have r_one := Rep.mono e21 r_one
        have r_two := Rep.mono e21 r_two
        have r_11 := Rep.mono e21 r_11
        have hs := exF e21 hs
        have g2 := g2.trans e21.y
        have t2 := t2.trans e21.y
        have g15 := g15.trans e21.y
        have t15 := t15.trans e21.y
        have jx20 := jx20.trans e21.y
        cases r_left2
        cases r_right2
        have d_left2 := p_left2
        obtain ⟨x22_1, h_x22_1, d_right2⟩ := p_right2
        exact dn20 _ _ ⟨left2, right2, rfl, jx20, by omega, by omega⟩
      · skip
        have r_sides := Rep.mono e20 r_sides
        have r_keys := Rep.mono e20 r_keys
        have rs := Rep.mono e20 rs
        have r_field1 := Rep.mono e20 r_field1
        have r_one := Rep.mono e20 r_one
        have r_two := Rep.mono e20 r_two
        have r_11 := Rep.mono e20 r_11
        have hs := exF e20 hs
        have g2 := g2.trans e20.y
        have t2 := t2.trans e20.y
        have g15 := g15.trans e20.y
        have t15 := t15.trans e20.y
        have jx20 := e20.y
        refine l_next ?_
        exact dn20 _ _ ⟨left, right, rfl, jx20, p_left, by omega⟩
      obtain ⟨left1, right1, rfl, pp20, i_left1, i_right1⟩ := pp20
      have r_sides := Rep.moY pp20 r_sides
      have r_keys := Rep.moY pp20 r_keys
      have rs := Rep.moY pp20 rs
      have r_field1 := Rep.moY pp20 r_field1
      have r_one := Rep.moY pp20 r_one
      have r_two := Rep.moY pp20 r_two
      have r_11 := Rep.moY pp20 r_11
      have hs := eyF pp20 hs
      have g2 := g2.trans pp20
      have t2 := t2.trans pp20
      have g15 := g15.trans pp20
      have t15 := t15.trans pp20
      refine q_set (α := (Int × Int)) K (er_tup2 (er_varI rfl) (er_varI rfl)) (fun _ => (.s (.s (.s (.s (.s (.s (.s (.s (.s (.s (.s (.s (.s .z)))))))))))))) (fun v23 H23 e23 r_23 => ?_)
      have r_sides := Rep.mono e23 r_sides
      have r_keys := Rep.mono e23 r_keys
      have rs := Rep.mono e23 rs
      have r_field1 := Rep.mono e23 r_field1
      have r_one := Rep.mono e23 r_one
      have r_two := Rep.mono e23 r_two
      have r_11 := Rep.mono e23 r_11
      have hs := exF e23 hs
      have g2 := g2.trans e23.y
      have t2 := t2.trans e23.y
      have g15 := g15.trans e23.y
      have t15 := t15.trans e23.y
      refine q_set (α := (List (Int × Int))) K (er_lst (eas_cons (er_call4 (er_var rfl r_field1) (er_varS rfl) (er_var rfl r_23) (er_lst (eas_cons (er_var rfl r_one) (eas_cons (er_var rfl r_two) eas_nil)) (Nat.le_of_ble_eq_true rfl)) (by refine ⟨ok1, fun x hx => ?_⟩; simp only [List.mem_cons, List.not_mem_nil, or_false] at hx; rcases hx with z | z <;> rw [z] <;> first | exact okA.2 | exact okB.2)) (eas_cons (er_call4 (er_var rfl r_field1) (er_varS rfl) (er_var rfl r_23) (er_lst (eas_cons (er_var rfl r_two) (eas_cons (er_var rfl r_one) eas_nil)) (Nat.le_of_ble_eq_true rfl)) (by refine ⟨ok1, fun x hx => ?_⟩; simp only [List.mem_cons, List.not_mem_nil, or_false] at hx; rcases hx with z | z <;> rw [z] <;> first | exact okA.2 | exact okB.2)) eas_nil)) (Nat.le_of_ble_eq_true rfl)) (fun _ => (.s (.s (.s (.s (.s (.s (.s (.s (.s (.s (.s (.s (.s (.s .z))))))))))))))) (fun v24 H24 e24 r_24 => ?_)
      have r_sides := Rep.mono e24 r_sides
      have r_keys := Rep.mono e24 r_keys
      have rs := Rep.mono e24 rs
      have r_field1 := Rep.mono e24 r_field1
      have r_one := Rep.mono e24 r_one
      have r_two := Rep.mono e24 r_two
      have r_11 := Rep.mono e24 r_11
      have r_23 := Rep.mono e24 r_23
      have hs := exF e24 hs
      have g2 := g2.trans e24.y
      have t2 := t2.trans e24.y
      have g15 := g15.trans e24.y
      have t15 := t15.trans e24.y
      -- check 3: found is None and both[0] != both[1]
      have ck3 : ((found.isNone) && (!decide ((tiedRow field1 tie (left1, right1) ([one, two] : List (Str × Sg))) = (tiedRow field1 tie (left1, right1) ([two, one] : List (Str × Sg)))))) = false := by rw [d_found]; exact k18_none ok1 ht okA okB i_left1.1 i_right1.1 i_right1.2
      refine l_no K (et_is (a := ((found.isNone) && (!decide ((tiedRow field1 tie (left1, right1) ([one, two] : List (Str × Sg))) = (tiedRow field1 tie (left1, right1) ([two, one] : List (Str × Sg))))))) (ett_and (et_t (er_isNone (er_var rfl r_11))) (fun hc => (et_t (er_neT (α := (Int × Int)) (er_ixL (er_var rfl r_24) er_int rfl) (er_ixL (er_var rfl r_24) er_int rfl) (by first | exact ⟨trivial, trivial⟩ | exact fun _ _ => ⟨trivial, trivial⟩) (by first | exact ⟨trivial, trivial⟩ | exact fun _ _ => ⟨trivial, trivial⟩) (by decide))))) ck3) (fun H25 e25 => ?_)
      have r_sides := Rep.mono e25 r_sides
      have r_keys := Rep.mono e25 r_keys
      have rs := Rep.mono e25 rs
      have r_field1 := Rep.mono e25 r_field1
      have r_one := Rep.mono e25 r_one
      have r_two := Rep.mono e25 r_two
      have r_11 := Rep.mono e25 r_11
      have r_23 := Rep.mono e25 r_23
      have r_24 := Rep.mono e25 r_24
      have hs := exF e25 hs
      have g2 := g2.trans e25.y
      have t2 := t2.trans e25.y
      have g15 := g15.trans e25.y
      have t15 := t15.trans e25.y
      exact ⟨t15, _, _, _, _, _, rfl, g15⟩
    obtain ⟨o15_10, o15_11, o15_12, o15_13, o15_14, rfl, q15⟩ := pp15
    have r_sides := Rep.moY q15 r_sides
    have r_keys := Rep.moY q15 r_keys
    have rs := Rep.moY q15 rs
    have r_field1 := Rep.moY q15 r_field1
    have r_one := Rep.moY q15 r_one
    have r_two := Rep.moY q15 r_two
    have r_11 := Rep.moY q15 r_11
    have hs := eyF q15 hs
    have g2 := g2.trans q15
    have t2 := t2.trans q15
    -- check 4: order_matters(field_here, tie, one, two) != (found is not None)
    have ck4 : (!decide (((!(orderOf field1 tie one two).isNone)) = (!found.isNone))) = false := by
      rw [d_found]
      simp
    refine l_no K (et_is (a := (!decide (((!(orderOf field1 tie one two).isNone)) = (!found.isNone)))) (et_t (er_neB (er_call4 (er_var rfl r_field1) (er_varS rfl) (er_var rfl r_one) (er_var rfl r_two) ⟨ok1, ht, okA, okB⟩) (er_isNNone (er_var rfl r_11)))) ck4) (fun H26 e26 => ?_)
    have r_sides := Rep.mono e26 r_sides
    have r_keys := Rep.mono e26 r_keys
    have rs := Rep.mono e26 rs
    have r_field1 := Rep.mono e26 r_field1
    have r_one := Rep.mono e26 r_one
    have r_two := Rep.mono e26 r_two
    have r_11 := Rep.mono e26 r_11
    have hs := exF e26 hs
    have g2 := g2.trans e26.y
    have t2 := t2.trans e26.y
    exact ⟨t2, _, _, _, _, _, _, _, _, _, _, _, _, rfl, g2⟩
  obtain ⟨o2_3, o2_4, o2_5, o2_6, o2_7, o2_8, o2_9, o2_10, o2_11, o2_12, o2_13, o2_14, rfl, q2⟩ := pp2
  have r_sides := Rep.moY q2 r_sides
  have r_keys := Rep.moY q2 r_keys
  have hs := eyF q2 hs
  refine q_set (α := Fld) K (er_mkF (f := Fld.mk 0 1000000000 1 0 ("next" : Str) ("stop" : Str) 2) er_int (er_powc (k := 1000000000) ⟨by decide, by decide, by decide⟩ (by decide)) er_int er_int er_str er_str er_int) (fun _ => (.s (.s (.s (.s (.s (.s (.s (.s (.s (.s (.s (.s (.s (.s (.s .z)))))))))))))))) (fun v27 H27 e27 r_27 => ?_)
  have r_sides := Rep.mono e27 r_sides
  have r_keys := Rep.mono e27 r_keys
  have hs := exF e27 hs
  -- check 5: order_matters(wide, 'refuse', ('left', 'u'), ('left', 'U')) is not True
  have ck5 : (!decide (((!(orderOf (Fld.mk 0 1000000000 1 0 ("next" : Str) ("stop" : Str) 2) ("refuse" : Str) (("left" : Str), (Sg.mk 117)) (("left" : Str), (Sg.mk 85))).isNone)) = true)) = false := by decide +kernel
  refine q_no K (et_is (a := (!decide (((!(orderOf (Fld.mk 0 1000000000 1 0 ("next" : Str) ("stop" : Str) 2) ("refuse" : Str) (("left" : Str), (Sg.mk 117)) (("left" : Str), (Sg.mk 85))).isNone)) = true))) (et_t (er_isNB (er_call4 (er_var rfl r_27) er_str (er_tup2 er_str (er_g (c := 117) rfl)) (er_tup2 er_str (er_g (c := 85) rfl)) ⟨by constructor <;> decide, by decide, ⟨by first | exact .inl rfl | exact .inr rfl, by decide⟩, ⟨by first | exact .inl rfl | exact .inr rfl, by decide⟩⟩) er_bl)) ck5) (fun H28 e28 => ?_)
  have r_sides := Rep.mono e28 r_sides
  have r_keys := Rep.mono e28 r_keys
  have r_27 := Rep.mono e28 r_27
  have hs := exF e28 hs
  -- check 6: order_pair(wide, 'refuse', ('left', 'u'), ('left', 'U')) is None
  have ck6 : ((orderOf (Fld.mk 0 1000000000 1 0 ("next" : Str) ("stop" : Str) 2) ("refuse" : Str) (("left" : Str), (Sg.mk 117)) (("left" : Str), (Sg.mk 85))).isNone) = false := by decide +kernel
  refine q_no K (et_is (a := ((orderOf (Fld.mk 0 1000000000 1 0 ("next" : Str) ("stop" : Str) 2) ("refuse" : Str) (("left" : Str), (Sg.mk 117)) (("left" : Str), (Sg.mk 85))).isNone)) (et_t (er_isNone (er_call4 (er_var rfl r_27) er_str (er_tup2 er_str (er_g (c := 117) rfl)) (er_tup2 er_str (er_g (c := 85) rfl)) ⟨by constructor <;> decide, by decide, ⟨by first | exact .inl rfl | exact .inr rfl, by decide⟩, ⟨by first | exact .inl rfl | exact .inr rfl, by decide⟩⟩))) ck6) (fun H29 e29 => ?_)
  have r_sides := Rep.mono e29 r_sides
  have r_keys := Rep.mono e29 r_keys
  have r_27 := Rep.mono e29 r_27
  have hs := exF e29 hs
  -- the end 7: order_matters(wide, 'stop', ('left', 'u'), ('left', 'U')) is False
  have ck7 : (decide (((!(orderOf (Fld.mk 0 1000000000 1 0 ("next" : Str) ("stop" : Str) 2) ("stop" : Str) (("left" : Str), (Sg.mk 117)) (("left" : Str), (Sg.mk 85))).isNone)) = false)) = true := by decide +kernel
  refine l_ret (α := Bool) K (er_is (x := (decide (((!(orderOf (Fld.mk 0 1000000000 1 0 ("next" : Str) ("stop" : Str) 2) ("stop" : Str) (("left" : Str), (Sg.mk 117)) (("left" : Str), (Sg.mk 85))).isNone)) = false))) (er_isB (er_call4 (er_var rfl r_27) er_str (er_tup2 er_str (er_g (c := 117) rfl)) (er_tup2 er_str (er_g (c := 85) rfl)) ⟨by constructor <;> decide, by decide, ⟨by first | exact .inl rfl | exact .inr rfl, by decide⟩, ⟨by first | exact .inl rfl | exact .inr rfl, by decide⟩⟩) er_bl) ck7) (fun v30 H30 e30 r30 => ?_)
  cases r30
  exact q _
theorem hfacts {P : Program} {w : World} {K : PySem.W.Frag} {h : Heap} {mg : Str → Option Value} {f : Addr} (X : K.In h) (G : h.Ns mainGlobals mg) (hfa0 : mg ("law" : Str) = some (.ref f)) (c : He.SaysD hfa hfn K) (ct : tabsB hts K = true) :
    ∃ fd : FuncData, (∀ (s : Shared) (v : Value), BindsTo s fd ⟨[v], []⟩ [("_law_script", v)]) ∧ ∀ base : Heap, K.In base → base.Ns mainGlobals mg → FnOk P w K mg base CX0 7 f fd ["_law_script"] (SP_lawdef K) := by
  obtain ⟨fd_L_source, F_L_source⟩ := c.def_ 0 (d := D_L_source) rfl
  obtain ⟨fd_grid_of, F_grid_of⟩ := c.def_ 1 (d := D_grid_of) rfl
  obtain ⟨fd_is_word, F_is_word⟩ := c.def_ 2 (d := D_is_word) rfl
  obtain ⟨fd_is_between, F_is_between⟩ := c.def_ 3 (d := D_is_between) rfl
  obtain ⟨fd_is_field, F_is_field⟩ := c.def_ 4 (d := D_is_field) rfl
  obtain ⟨fd_need_field, F_need_field⟩ := c.def_ 5 (d := D_need_field) rfl
  obtain ⟨fd_need_tie, F_need_tie⟩ := c.def_ 6 (d := D_need_tie) rfl
  obtain ⟨fd_is_row, F_is_row⟩ := c.def_ 7 (d := D_is_row) rfl
  obtain ⟨fd_is_key, F_is_key⟩ := c.def_ 8 (d := D_is_key) rfl
  obtain ⟨fd_need_press, F_need_press⟩ := c.def_ 9 (d := D_need_press) rfl
  obtain ⟨fd_need_presses, F_need_presses⟩ := c.def_ 10 (d := D_need_presses) rfl
  obtain ⟨fd_is_on, F_is_on⟩ := c.def_ 11 (d := D_is_on) rfl
  obtain ⟨fd_rests_here, F_rests_here⟩ := c.def_ 12 (d := D_rests_here) rfl
  obtain ⟨fd_block, F_block⟩ := c.def_ 13 (d := D_block) rfl
  obtain ⟨fd_pairs_of, F_pairs_of⟩ := c.def_ 14 (d := D_pairs_of) rfl
  obtain ⟨fd_settled, F_settled⟩ := c.def_ 15 (d := D_settled) rfl
  obtain ⟨fd_aim_of, F_aim_of⟩ := c.def_ 16 (d := D_aim_of) rfl
  obtain ⟨fd_many_steps, F_many_steps⟩ := c.def_ 17 (d := D_many_steps) rfl
  obtain ⟨fd_press_key, F_press_key⟩ := c.def_ 18 (d := D_press_key) rfl
  obtain ⟨fd_press_tied, F_press_tied⟩ := c.def_ 19 (d := D_press_tied) rfl
  obtain ⟨fd_order_of, F_order_of⟩ := c.def_ 20 (d := D_order_of) rfl
  obtain ⟨fd_order_pair, F_order_pair⟩ := c.def_ 21 (d := D_order_pair) rfl
  obtain ⟨fd_order_matters, F_order_matters⟩ := c.def_ 22 (d := D_order_matters) rfl
  obtain ⟨fd_L_draw, F_L_draw⟩ := c.def_ 23 (d := D_L_draw) rfl
  obtain ⟨fd_L_choice, F_L_choice⟩ := c.def_ 24 (d := D_L_choice) rfl
  obtain ⟨fd_L_field, F_L_field⟩ := c.def_ 25 (d := D_L_field) rfl
  obtain ⟨fd_L_value, F_L_value⟩ := c.def_ 26 (d := D_L_value) rfl
  obtain ⟨fd_L_nearest, F_L_nearest⟩ := c.def_ 27 (d := D_L_nearest) rfl
  obtain ⟨fd_L_key, F_L_key⟩ := c.def_ 28 (d := D_L_key) rfl
  obtain ⟨fd_L_settled, F_L_settled⟩ := c.def_ 29 (d := D_L_settled) rfl
  obtain ⟨fd_L_moved, F_L_moved⟩ := c.def_ 30 (d := D_L_moved) rfl
  obtain ⟨fd_law, F_law⟩ := c.def_ 31 (d := D_law) rfl
  have e := hfa0.symm.trans (He.glo_ok X G (c.fact 31 (f := .glo "law") rfl))
  cases e
  have b_L_source : Binds K fd_L_source ["_law_script", "_law_index"] [] := FunD.bindsN F_L_source fun _ _ _ _ _ _ us hl => match us, hl with | [_, _], _ => rfl
  have b_grid_of : Binds K fd_grid_of ["field"] [] := FunD.bindsN F_grid_of fun _ _ _ _ _ _ us hl => match us, hl with | [_], _ => rfl
  have b_is_word : Binds K fd_is_word ["thing", "words"] [] := FunD.bindsN F_is_word fun _ _ _ _ _ _ us hl => match us, hl with | [_, _], _ => rfl
  have b_is_between : Binds K fd_is_between ["thing", "low", "high"] [] := FunD.bindsN F_is_between fun _ _ _ _ _ _ us hl => match us, hl with | [_, _, _], _ => rfl
  have b_is_field : Binds K fd_is_field ["thing"] [] := FunD.bindsN F_is_field fun _ _ _ _ _ _ us hl => match us, hl with | [_], _ => rfl
  have b_need_field : Binds K fd_need_field ["field"] [] := FunD.bindsN F_need_field fun _ _ _ _ _ _ us hl => match us, hl with | [_], _ => rfl
  have b_need_tie : Binds K fd_need_tie ["tie"] [] := FunD.bindsN F_need_tie fun _ _ _ _ _ _ us hl => match us, hl with | [_], _ => rfl
  have b_is_row : Binds K fd_is_row ["thing"] [] := FunD.bindsN F_is_row fun _ _ _ _ _ _ us hl => match us, hl with | [_], _ => rfl
  have b_is_key : Binds K fd_is_key ["thing"] [] := FunD.bindsN F_is_key fun _ _ _ _ _ _ us hl => match us, hl with | [_], _ => rfl
  have b_need_press : Binds K fd_need_press ["press"] [] := FunD.bindsN F_need_press fun _ _ _ _ _ _ us hl => match us, hl with | [_], _ => rfl
  have b_need_presses : Binds K fd_need_presses ["field", "tie", "press", "other_press"] [] := FunD.bindsN F_need_presses fun _ _ _ _ _ _ us hl => match us, hl with | [_, _, _, _], _ => rfl
  have b_is_on : Binds K fd_is_on ["field", "value"] [] := FunD.bindsN F_is_on fun _ _ _ _ _ _ us hl => match us, hl with | [_, _], _ => rfl
  have b_rests_here : Binds K fd_rests_here ["field"] [] := FunD.bindsN F_rests_here fun _ _ _ _ _ _ us hl => match us, hl with | [_], _ => rfl
  have b_block : Binds K fd_block ["field", "centre", "before", "behind"] [] := FunD.bindsN F_block fun _ _ _ _ _ _ us hl => match us, hl with | [_, _, _, _], _ => rfl
  have b_pairs_of : Binds K fd_pairs_of ["field"] [] := FunD.bindsN F_pairs_of fun _ _ _ _ _ _ us hl => match us, hl with | [_], _ => rfl
  have b_settled : Binds K fd_settled ["tie", "pair", "side", "new"] [] := FunD.bindsN F_settled fun _ _ _ _ _ _ us hl => match us, hl with | [_, _, _, _], _ => rfl
  have b_aim_of : Binds K fd_aim_of ["field", "value", "many"] [] := FunD.bindsN F_aim_of fun _ _ _ _ _ _ us hl => match us, hl with | [_, _, _], _ => rfl
  have b_many_steps : Binds K fd_many_steps ["field", "key"] [] := FunD.bindsN F_many_steps fun _ _ _ _ _ _ us hl => match us, hl with | [_, _], _ => rfl
  have b_press_key : Binds K fd_press_key ["field", "value", "key"] [] := FunD.bindsN F_press_key fun _ _ _ _ _ _ us hl => match us, hl with | [_, _, _], _ => rfl
  have b_press_tied : Binds K fd_press_tied ["field", "tie", "pair", "press"] [] := FunD.bindsN F_press_tied fun _ _ _ _ _ _ us hl => match us, hl with | [_, _, _, _], _ => rfl
  have b_order_of : Binds K fd_order_of ["field", "tie", "press", "other_press"] [] := FunD.bindsN F_order_of fun _ _ _ _ _ _ us hl => match us, hl with | [_, _, _, _], _ => rfl
  have b_order_pair : Binds K fd_order_pair ["field", "tie", "press", "other_press"] [] := FunD.bindsN F_order_pair fun _ _ _ _ _ _ us hl => match us, hl with | [_, _, _, _], _ => rfl
  have b_order_matters : Binds K fd_order_matters ["field", "tie", "press", "other_press"] [] := FunD.bindsN F_order_matters fun _ _ _ _ _ _ us hl => match us, hl with | [_, _, _, _], _ => rfl
  have b_L_draw : Binds K fd_L_draw ["_law_source_here", "_law_size"] [] := FunD.bindsN F_L_draw fun _ _ _ _ _ _ us hl => match us, hl with | [_, _], _ => rfl
  have b_L_choice : Binds K fd_L_choice ["_law_source_here", "_law_items"] [] := FunD.bindsN F_L_choice fun _ _ _ _ _ _ us hl => match us, hl with | [_, _], _ => rfl
  have b_L_field : Binds K fd_L_field ["_law_source_here", "_law_wide"] [] := FunD.bindsN F_L_field fun _ _ _ _ _ _ us hl => match us, hl with | [_, _], _ => rfl
  have b_L_value : Binds K fd_L_value ["_law_source_here", "_law_field_here"] [] := FunD.bindsN F_L_value fun _ _ _ _ _ _ us hl => match us, hl with | [_, _], _ => rfl
  have b_L_nearest : Binds K fd_L_nearest ["_law_field_here", "_law_value_here"] [] := FunD.bindsN F_L_nearest fun _ _ _ _ _ _ us hl => match us, hl with | [_, _], _ => rfl
  have b_L_key : Binds K fd_L_key ["_law_field_here", "_law_value_here", "_law_key_here"] [] := FunD.bindsN F_L_key fun _ _ _ _ _ _ us hl => match us, hl with | [_, _, _], _ => rfl
  have b_L_settled : Binds K fd_L_settled ["_law_field_here", "_law_tie", "_law_pair", "_law_side", "_law_key_here"] [] := FunD.bindsN F_L_settled fun _ _ _ _ _ _ us hl => match us, hl with | [_, _, _, _, _], _ => rfl
  have b_L_moved : Binds K fd_L_moved ["_law_field_here", "_law_tie", "_law_pair", "_law_presses"] [] := FunD.bindsN F_L_moved fun _ _ _ _ _ _ us hl => match us, hl with | [_, _, _, _], _ => rfl
  have b_law := FunD.bindsA (ps := ["_law_script"]) F_law fun _ _ _ _ _ _ us hl => match us, hl with | [_], _ => rfl
  have T : Top K mg := {
    b_len := He.free_ok X G (c.fact 32 (f := .free "len") rfl)
    b_abs := He.free_ok X G (c.fact 33 (f := .free "abs") rfl)
    b_all := He.free_ok X G (c.fact 34 (f := .free "all") rfl)
    b_any := He.free_ok X G (c.fact 35 (f := .free "any") rfl)
    b_range := He.free_ok X G (c.fact 36 (f := .free "range") rfl)
    b_int := He.free_ok X G (c.fact 37 (f := .free "int") rfl)
    b_str := He.free_ok X G (c.fact 38 (f := .free "str") rfl)
    b_tuple := He.free_ok X G (c.fact 39 (f := .free "tuple") rfl)
    b_bool := He.free_ok X G (c.fact 40 (f := .free "bool") rfl)
    b_isinstance := He.free_ok X G (c.fact 41 (f := .free "isinstance") rfl)
    b_min := He.free_ok X G (c.fact 42 (f := .free "min") rfl)
    b_max := He.free_ok X G (c.fact 43 (f := .free "max") rfl)
    b_list := He.free_ok X G (c.fact 44 (f := .free "list") rfl)
    b_sum := He.free_ok X G (c.fact 45 (f := .free "sum") rfl)
    b_sorted := He.free_ok X G (c.fact 46 (f := .free "sorted") rfl)
    b_set := He.free_ok X G (c.fact 47 (f := .free "set") rfl)
    b_zip := He.free_ok X G (c.fact 48 (f := .free "zip") rfl)
    b_enumerate := He.free_ok X G (c.fact 49 (f := .free "enumerate") rfl)
    b_dict := He.free_ok X G (c.fact 50 (f := .free "dict") rfl)
    g_MOST := He.int_ok X G (c.fact 51 (f := .int "MOST" 1000000000000) rfl)
    g_MOST_KEYS := He.int_ok X G (c.fact 52 (f := .int "MOST_KEYS" 40) rfl)
    g_KEYS := He.str_ok X G (c.fact 53 (f := .str "KEYS" "udUDhe") rfl)
    g_OFFS := ⟨_, He.glo_ok X G (c.fact 54 (f := .glo "OFFS") rfl), fun H => tab_of ct 0 (p := ("OFFS", ["add", "near", "next"])) rfl H⟩
    g_ENDS := ⟨_, He.glo_ok X G (c.fact 55 (f := .glo "ENDS") rfl), fun H => tab_of ct 1 (p := ("ENDS", ["round", "stay", "stop"])) rfl H⟩
    g_SIDES := ⟨_, He.glo_ok X G (c.fact 56 (f := .glo "SIDES") rfl), fun H => tab_of ct 2 (p := ("SIDES", ["left", "right"])) rfl H⟩
    g_TIES := ⟨_, He.glo_ok X G (c.fact 57 (f := .glo "TIES") rfl), fun H => tab_of ct 3 (p := ("TIES", ["push", "refuse", "stop"])) rfl H⟩
    g_FEW := He.int_ok X G (c.fact 58 (f := .int "FEW" 24) rfl) }
  refine ⟨fd_law, fun s v => b_law s [v] rfl, fun base _ _ => ?_⟩
  have C_L_source : Cal P w K mg base CX0 1 "_law_source" ["_law_script", "_law_index"] (SP_L_source K) _ _ := ⟨ok_L_source T F_L_source, He.glo_ok X G (c.fact 0 (f := .glo "_law_source") rfl), F_L_source.kp, b_L_source⟩
  have C_grid_of : Cal P w K mg base CX0 1 "grid_of" ["field"] (SP_grid_of K) _ _ := ⟨ok_grid_of T F_grid_of, He.glo_ok X G (c.fact 1 (f := .glo "grid_of") rfl), F_grid_of.kp, b_grid_of⟩
  have C_is_word : Cal P w K mg base CX0 1 "is_word" ["thing", "words"] (SP_is_word K) _ _ := ⟨ok_is_word T F_is_word, He.glo_ok X G (c.fact 2 (f := .glo "is_word") rfl), F_is_word.kp, b_is_word⟩
  have C_is_between : Cal P w K mg base CX0 1 "is_between" ["thing", "low", "high"] (SP_is_between K) _ _ := ⟨ok_is_between T F_is_between, He.glo_ok X G (c.fact 3 (f := .glo "is_between") rfl), F_is_between.kp, b_is_between⟩
  have C_is_field : Cal P w K mg base CX0 2 "is_field" ["thing"] (SP_is_field K) _ _ := ⟨ok_is_field T C_is_between C_is_word C_grid_of F_is_field, He.glo_ok X G (c.fact 4 (f := .glo "is_field") rfl), F_is_field.kp, b_is_field⟩
  have C_need_field : Cal P w K mg base CX0 3 "need_field" ["field"] (SP_need_field K) _ _ := ⟨ok_need_field T C_is_field F_need_field, He.glo_ok X G (c.fact 5 (f := .glo "need_field") rfl), F_need_field.kp, b_need_field⟩
  have C_need_tie : Cal P w K mg base CX0 2 "need_tie" ["tie"] (SP_need_tie K) _ _ := ⟨ok_need_tie T C_is_word F_need_tie, He.glo_ok X G (c.fact 6 (f := .glo "need_tie") rfl), F_need_tie.kp, b_need_tie⟩
  have C_is_row : Cal P w K mg base CX0 1 "is_row" ["thing"] (SP_is_row K) _ _ := ⟨ok_is_row T F_is_row, He.glo_ok X G (c.fact 7 (f := .glo "is_row") rfl), F_is_row.kp, b_is_row⟩
  have C_is_key : Cal P w K mg base CX0 2 "is_key" ["thing"] (SP_is_key K) _ _ := ⟨ok_is_key T C_is_row F_is_key, He.glo_ok X G (c.fact 8 (f := .glo "is_key") rfl), F_is_key.kp, b_is_key⟩
  have C_need_press : Cal P w K mg base CX0 3 "need_press" ["press"] (SP_need_press K) _ _ := ⟨ok_need_press T C_is_word C_is_key F_need_press, He.glo_ok X G (c.fact 9 (f := .glo "need_press") rfl), F_need_press.kp, b_need_press⟩
  have C_need_presses : Cal P w K mg base CX0 4 "need_presses" ["field", "tie", "press", "other_press"] (SP_need_presses K) _ _ := ⟨ok_need_presses T C_need_field C_need_tie C_need_press F_need_presses, He.glo_ok X G (c.fact 10 (f := .glo "need_presses") rfl), F_need_presses.kp, b_need_presses⟩
  have C_is_on : Cal P w K mg base CX0 1 "is_on" ["field", "value"] (SP_is_on K) _ _ := ⟨ok_is_on T F_is_on, He.glo_ok X G (c.fact 11 (f := .glo "is_on") rfl), F_is_on.kp, b_is_on⟩
  have C_rests_here : Cal P w K mg base CX0 2 "rests_here" ["field"] (SP_rests_here K) _ _ := ⟨ok_rests_here T C_is_on F_rests_here, He.glo_ok X G (c.fact 12 (f := .glo "rests_here") rfl), F_rests_here.kp, b_rests_here⟩
  have C_block : Cal P w K mg base CX0 3 "block" ["field", "centre", "before", "behind"] (SP_block K) _ _ := ⟨ok_block T C_rests_here F_block, He.glo_ok X G (c.fact 13 (f := .glo "block") rfl), F_block.kp, b_block⟩
  have C_pairs_of : Cal P w K mg base CX0 4 "pairs_of" ["field"] (SP_pairs_of K) _ _ := ⟨ok_pairs_of T C_block F_pairs_of, He.glo_ok X G (c.fact 14 (f := .glo "pairs_of") rfl), F_pairs_of.kp, b_pairs_of⟩
  have C_settled : Cal P w K mg base CX0 1 "settled" ["tie", "pair", "side", "new"] (SP_settled K) _ _ := ⟨ok_settled T F_settled, He.glo_ok X G (c.fact 15 (f := .glo "settled") rfl), F_settled.kp, b_settled⟩
  have C_aim_of : Cal P w K mg base CX0 1 "aim_of" ["field", "value", "many"] (SP_aim_of K) _ _ := ⟨ok_aim_of T F_aim_of, He.glo_ok X G (c.fact 16 (f := .glo "aim_of") rfl), F_aim_of.kp, b_aim_of⟩
  have C_many_steps : Cal P w K mg base CX0 1 "many_steps" ["field", "key"] (SP_many_steps K) _ _ := ⟨ok_many_steps T F_many_steps, He.glo_ok X G (c.fact 17 (f := .glo "many_steps") rfl), F_many_steps.kp, b_many_steps⟩
  have C_press_key : Cal P w K mg base CX0 2 "press_key" ["field", "value", "key"] (SP_press_key K) _ _ := ⟨ok_press_key T C_many_steps C_aim_of F_press_key, He.glo_ok X G (c.fact 18 (f := .glo "press_key") rfl), F_press_key.kp, b_press_key⟩
  have C_press_tied : Cal P w K mg base CX0 3 "press_tied" ["field", "tie", "pair", "press"] (SP_press_tied K) _ _ := ⟨ok_press_tied T C_press_key C_settled F_press_tied, He.glo_ok X G (c.fact 19 (f := .glo "press_tied") rfl), F_press_tied.kp, b_press_tied⟩
  have C_order_of : Cal P w K mg base CX0 5 "order_of" ["field", "tie", "press", "other_press"] (SP_order_of K) _ _ := ⟨ok_order_of T C_pairs_of C_press_tied F_order_of, He.glo_ok X G (c.fact 20 (f := .glo "order_of") rfl), F_order_of.kp, b_order_of⟩
  have C_order_pair : Cal P w K mg base CX0 6 "order_pair" ["field", "tie", "press", "other_press"] (SP_order_pair K) _ _ := ⟨ok_order_pair T C_need_presses C_order_of F_order_pair, He.glo_ok X G (c.fact 21 (f := .glo "order_pair") rfl), F_order_pair.kp, b_order_pair⟩
  have C_order_matters : Cal P w K mg base CX0 6 "order_matters" ["field", "tie", "press", "other_press"] (SP_order_matters K) _ _ := ⟨ok_order_matters T C_need_presses C_order_of F_order_matters, He.glo_ok X G (c.fact 22 (f := .glo "order_matters") rfl), F_order_matters.kp, b_order_matters⟩
  have C_L_draw : Cal P w K mg base CX0 1 "_law_draw" ["_law_source_here", "_law_size"] (SP_L_draw K) _ _ := ⟨ok_L_draw T F_L_draw, He.glo_ok X G (c.fact 23 (f := .glo "_law_draw") rfl), F_L_draw.kp, b_L_draw⟩
  have C_L_choice : Cal P w K mg base CX0 2 "_law_choice" ["_law_source_here", "_law_items"] (SP_L_choice K) _ _ := ⟨ok_L_choice T C_L_draw F_L_choice, He.glo_ok X G (c.fact 24 (f := .glo "_law_choice") rfl), F_L_choice.kp, b_L_choice⟩
  have C_L_field : Cal P w K mg base CX0 3 "_law_field" ["_law_source_here", "_law_wide"] (SP_L_field K) _ _ := ⟨ok_L_field T C_L_draw C_L_choice F_L_field, He.glo_ok X G (c.fact 25 (f := .glo "_law_field") rfl), F_L_field.kp, b_L_field⟩
  have C_L_value : Cal P w K mg base CX0 3 "_law_value" ["_law_source_here", "_law_field_here"] (SP_L_value K) _ _ := ⟨ok_L_value T C_L_draw C_L_choice F_L_value, He.glo_ok X G (c.fact 26 (f := .glo "_law_value") rfl), F_L_value.kp, b_L_value⟩
  have C_L_nearest : Cal P w K mg base CX0 1 "_law_nearest" ["_law_field_here", "_law_value_here"] (SP_L_nearest K) _ _ := ⟨ok_L_nearest T F_L_nearest, He.glo_ok X G (c.fact 27 (f := .glo "_law_nearest") rfl), F_L_nearest.kp, b_L_nearest⟩
  have C_L_key : Cal P w K mg base CX0 2 "_law_key" ["_law_field_here", "_law_value_here", "_law_key_here"] (SP_L_key K) _ _ := ⟨ok_L_key T C_L_nearest F_L_key, He.glo_ok X G (c.fact 28 (f := .glo "_law_key") rfl), F_L_key.kp, b_L_key⟩
  have C_L_settled : Cal P w K mg base CX0 3 "_law_settled" ["_law_field_here", "_law_tie", "_law_pair", "_law_side", "_law_key_here"] (SP_L_settled K) _ _ := ⟨ok_L_settled T C_L_key F_L_settled, He.glo_ok X G (c.fact 29 (f := .glo "_law_settled") rfl), F_L_settled.kp, b_L_settled⟩
  have C_L_moved : Cal P w K mg base CX0 4 "_law_moved" ["_law_field_here", "_law_tie", "_law_pair", "_law_presses"] (SP_L_moved K) _ _ := ⟨ok_L_moved T C_L_settled F_L_moved, He.glo_ok X G (c.fact 30 (f := .glo "_law_moved") rfl), F_L_moved.kp, b_L_moved⟩
  exact ok_law T C_L_source C_L_field C_L_choice C_L_draw C_order_pair C_L_moved C_L_value C_order_matters F_law
end Sf
open PySem PySem.W PySem.Calls PyProof.Rows
set_option maxHeartbeats 0 in
theorem PySem.Challenge.cw_stepfields_k18_whole_orders_on_wide_fiel_holds : PySem.Challenge.rw_stepfields_k18_whole_orders_on_wide_fiel.Holds := by
  w_on; o_law
  refine HandSHeadRun.head_any (r := OpenLaw.row PySem.Challenge.rw_stepfields_k18_whole_orders_on_wide_fiel) (q := view (OpenLaw.row PySem.Challenge.rw_stepfields_k18_whole_orders_on_wide_fiel).prog [48]) (H := Sf.hk) (ob := Sf.hob) (M := 9000) (loose := Sf.hloose) (d := HandSHeadRun.topDef (OpenLaw.row PySem.Challenge.rw_stepfields_k18_whole_orders_on_wide_fiel).prog 48) (kwd := []) Sf.hob_eq
    (by kernel_rfl) (fun s => by kernel_rfl) Sf.hrun (by kernel_rfl) (by kernel_rfl) (by kernel_rfl) (by rfl) (by first | assumption | decide +kernel) (by decide +kernel) ⟨rfl, rfl, rfl, rfl, rfl, by decide +kernel⟩ ?hw ?hc
  case hw => w_witness2
  case hc =>
    refine L2.walk_ofE (l := PySem.Challenge.rw_stepfields_k18_whole_orders_on_wide_fiel) (n := 63) (k := 7) (x := "_law_script") (CX := L2.CX0) rfl (by decide) (by kernel_rfl) ⟨rfl, by decide, by decide⟩ ?F (fun _ _ _ _ z => z)
    intro w mg fa h Y G hmg0
    obtain ⟨K, KX, c, ct⟩ := Y
    have hmg : mg ("law" : PySem.Str) = some (.ref fa) := by
      have e : (HandSHeadRun.topDef (OpenLaw.row PySem.Challenge.rw_stepfields_k18_whole_orders_on_wide_fiel).prog 48).name = ("law" : PySem.Str) := by kernel_rfl
      rw [← e]
      exact hmg0
    obtain ⟨fd, hb, hF⟩ := Sf.hfacts (P := (PySem.Challenge.rw_stepfields_k18_whole_orders_on_wide_fiel).prog) (w := w) KX G hmg c ct
    exact ⟨K, fd, Sf.SP_lawdef K, KX, hb, fun H a ns hl hO hS => ⟨a, ns, rfl, Sf.SqF.of hO hS, hl, fun _ => rfl⟩, hF⟩
