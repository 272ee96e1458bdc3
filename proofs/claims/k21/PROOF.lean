import PyProof.Rows.All
import Wide.All
import OpenK.AllK
import Wide.FinOn
import HandS.ForMost
import HandS.Evl
import HandS.Steps
import HandS.Wide
import HandS.Defaults
import HandS.IsInst
import HandS.SetFor
import HandS.Walk
import PyProof.ListStr
import KE.KStateDown
import Lean
import HandS.WordsExc
import HandS.Head0
import HandS.Head1
import HandS.Head2
import HandS.HeadEnd
import HandS.HeadHook1
import HandS.HeadHook2
import KE.KExcSuper
import HandS.Exc
import HandS.ExcOwn
import HandS.HeadHook4
import HandS.Property
import HandS.TupLe
import HandS.Zip
import HandS.Text
import HandS.Star
import HandS.More
import HandS.SortInts
import HandS.Set
import HandS.Strs
import KE.GoesMore
import HandS.Conv
import HandS.Lambda
import HandS.ExcCtx
import HandS.ExcIs
import HandS.Hot
import HandS.HotCalls
import HandS.Iter
import HandS.Comp
import HandS.Deep
import KE.KExcIs
import HandS.HeadWalk
import HandS.TupMul
import HandS.Style
import HandS.TupAny
import HandS.RaiseMore
import HandS.OwnEq
import HandS.GenList
import HandS.GenCall
import PySem.Challenge.RW_stepfields_k21_fields_as_values
set_option Elab.async false
set_option linter.all false
set_option maxRecDepth 100000
set_option maxHeartbeats 4000000
namespace Sf
open PySem PySem.Spec PyProof.Rows L2 Evl

/-! things that change in place: a list that is being built (MutO: its content is told by the object alone), dicts, sets, instances -/
def MutO (a : Addr) (ws : List V) : HO := .ext fun h => ws.length ≤ sizeLine ∧ ∃ (its : List Value) (n : Nat), Vals ws its ∧ h.get? a = some { cls := .type "list", data := .seq its.toArray n }
def SrcO (S : Addr) : HO := .ext fun h => ∃ (x y : Int) (its : List Value) (n : Nat), 0 ≤ y ∧ y < 2147483647 ∧ Vals [.int x, .int y] its ∧ h.get? S = some { cls := .type "list", data := .seq its.toArray n }
inductive IsM (a : Addr) : HO → Prop
  | m (ws : List V) : IsM a (MutO a ws)
  | dK (k : List (Key × V)) : IsM a (.dK k)
  | dT (k : List (List Key × V)) : IsM a (.dT k)
  | set (S : Int → Bool) (n : Nat) : IsM a (.set S n)
  | tbl (ps : Array Value) : IsM a (.tbl ps)
/-- all but such things is kept -/
def Ey (H H' : Hp) : Prop := ∀ a o, H a = some o → IsM a o ∨ H' a = some o
theorem Ey.refl (H : Hp) : Ey H H := fun _ _ h => .inr h
theorem _root_.Evl.Ex.y {H H' : Hp} (e : Ex H H') : Ey H H' := fun a o h => .inr (e a o h)
theorem Ey.trans {H H1 H2 : Hp} (a : Ey H H1) (b : Ey H1 H2) : Ey H H2 := fun x o h => by
  rcases a x o h with z | z
  · exact .inl z
  · exact b x o z
theorem ey_lst {H H' : Hp} {a : Addr} {xs : List V} (e : Ey H H') (h : H a = some (.lst xs)) : H' a = some (.lst xs) := by
  rcases e _ _ h with z | z
  · cases z
  · exact z
theorem ey_tup {H H' : Hp} {a : Addr} {xs : List V} (e : Ey H H') (h : H a = some (.tup xs)) : H' a = some (.tup xs) := by
  rcases e _ _ h with z | z
  · cases z
  · exact z
theorem ey_frz {H H' : Hp} {a : Addr} {o : Obj} {u : HO} (e : Ey H H') (h : H a = some (.frz o u)) : H' a = some (.frz o u) := by
  rcases e _ _ h with z | z
  · cases z
  · exact z
theorem ey_l {K : PySem.W.Frag} {H H' : Hp} {a : Addr} {xs : List V} (e : Ey H H') (h : SqL K H a xs) : SqL K H' a xs := by
  rcases h with (h | ⟨o, h⟩) | h
  · exact .inl (.inl (ey_lst e h))
  · exact .inl (.inr ⟨o, ey_frz e h⟩)
  · exact .inr h
theorem ey_t {K : PySem.W.Frag} {H H' : Hp} {a : Addr} {xs : List V} (e : Ey H H') (h : SqT K H a xs) : SqT K H' a xs := by
  rcases h with (h | ⟨o, h⟩) | h
  · exact .inl (.inl (ey_tup e h))
  · exact .inl (.inr ⟨o, ey_frz e h⟩)
  · exact .inr h
def heapAt (a : Addr) (o : Obj) : Heap := { objs := Array.replicate (a + 1) o }
theorem heapAt_get (a : Addr) (x y : Int) : (heapAt a { cls := .type "list", data := .seq #[Value.int x 0, Value.int y 0] 0 }).get? a = some { cls := .type "list", data := .seq #[Value.int x 0, Value.int y 0] 0 } := by
  unfold heapAt Heap.get?
  rw [Array.getElem?_replicate, if_pos (Nat.lt_succ_self a)]
theorem src_ne {S : Addr} {ws : List V} : SrcO S ≠ MutO S ws := by
  intro e
  unfold SrcO MutO at e
  have ef := HO.ext.inj e
  have go : ∀ x : Int, ∃ u, ws[0]? = some u ∧ ∃ t, RelV u (Value.int x t) := by
    intro x
    have e1 := congrFun ef (heapAt S { cls := .type "list", data := .seq #[Value.int x 0, Value.int 0 0] 0 })
    have p : (∃ (x' y' : Int) (its : List Value) (n : Nat), 0 ≤ y' ∧ y' < 2147483647 ∧ Vals [.int x', .int y'] its ∧ (heapAt S { cls := .type "list", data := .seq #[Value.int x 0, Value.int 0 0] 0 }).get? S = some { cls := .type "list", data := .seq its.toArray n }) :=
      ⟨x, 0, [Value.int x 0, Value.int 0 0], 0, by decide, by decide, .cons ⟨0, rfl⟩ (.cons ⟨0, rfl⟩ .nil), heapAt_get S x 0⟩
    have p2 : ws.length ≤ sizeLine ∧ ∃ (its : List Value) (n : Nat), Vals ws its ∧ (heapAt S { cls := .type "list", data := .seq #[Value.int x 0, Value.int 0 0] 0 }).get? S = some { cls := .type "list", data := .seq its.toArray n } := Eq.mp e1 p
    rw [heapAt_get] at p2
    obtain ⟨_, its, n, r, e2⟩ := p2
    have e3 : [Value.int x 0, Value.int 0 0] = its := by
      have e4 := Option.some.inj e2
      injection e4 with _ _ e5
      injection e5 with e6
      exact congrArg Array.toList e6
    subst e3
    cases r with
    | cons r0 _ => exact ⟨_, rfl, 0, r0⟩
  obtain ⟨u, h1, t1, r1⟩ := go 0
  obtain ⟨v, h2, t2, r2⟩ := go 1
  rw [h1] at h2
  cases h2
  cases u with
  | int i =>
    obtain ⟨t, e1⟩ := r1
    obtain ⟨t', e2⟩ := r2
    injection e1 with e1 _
    injection e2 with e2 _
    omega
  | _ => first | (obtain ⟨_, e1⟩ := r1; cases e1) | (have e1 : Value.int 0 t1 = _ := r1; cases e1)
theorem ey_src {H H' : Hp} {S : Addr} (e : Ey H H') (h : H S = some (SrcO S)) : H' S = some (SrcO S) := by
  rcases e _ _ h with z | z
  · have g : ∀ o, IsM S o → o = SrcO S → False := by
      intro o z e
      cases z with
      | m ws => exact src_ne e.symm
      | _ => unfold SrcO at e; cases e
    exact (g _ z rfl).elim
  · exact z
/-- a list that is known to the object: the script -/
def SqF (K : PySem.W.Frag) (H : Hp) (a : Addr) (xs : List V) : Prop := (∃ o, H a = some (.frz o (.lst xs))) ∨ ((∀ H', SqL K H' a xs))
theorem SqF.l {K : PySem.W.Frag} {H : Hp} {a : Addr} {xs : List V} (h : SqF K H a xs) : SqL K H a xs := by
  rcases h with ⟨o, h⟩ | h
  · exact .inl (.inr ⟨o, h⟩)
  · exact h H
theorem SqF.of {K : PySem.W.Frag} {H : Hp} {a : Addr} {xs : List V} (o : Only H) (h : SqL K H a xs) : SqF K H a xs := by
  rcases h with (h | ⟨ob, h⟩) | h
  · rcases o a with z | ⟨_, _, z⟩
    · rw [z] at h
      cases h
    · rw [z] at h
      cases h
  · exact .inl ⟨ob, h⟩
  · exact .inr fun _ => .inr h
theorem eyF {K : PySem.W.Frag} {H H' : Hp} {a : Addr} {xs : List V} (e : Ey H H') (h : SqF K H a xs) : SqF K H' a xs := by
  rcases h with ⟨o, h⟩ | h
  · exact .inl ⟨o, ey_frz e h⟩
  · exact .inr h
theorem exF {K : PySem.W.Frag} {H H' : Hp} {a : Addr} {xs : List V} (e : Ex H H') (h : SqF K H a xs) : SqF K H' a xs := eyF e.y h
theorem zF {K : PySem.W.Frag} {H : Hp} {a l : Addr} {xs ws : List V} {o : HO} (hl : H l = some (.lst ws)) (h : SqF K H a xs) : SqF K (upd H l o) a xs := by
  rcases h with ⟨ob, h⟩ | h
  · exact .inl ⟨ob, by rw [upd_ne (ne_of h hl (by intro z; cases z))]; exact h⟩
  · exact .inr h
/-! typed data over the abstract heap -/
class Rep (α : Type) where
  rel : PySem.W.Frag → Hp → V → α → Prop
  moY : ∀ {K : PySem.W.Frag} {H H' : Hp} {v : V} {x : α}, Ey H H' → rel K H v x → rel K H' v x
theorem Rep.mono {α : Type} [Rep α] {K : PySem.W.Frag} {H H' : Hp} {v : V} {x : α} (e : Ex H H') (h : Rep.rel K H v x) : Rep.rel K H' v x := Rep.moY e.y h
instance : Rep Int := ⟨fun _ _ v x => v = .int x, fun _ h => h⟩
instance : Rep Bool := ⟨fun _ _ v x => v = .bl x, fun _ h => h⟩
instance : Rep Str := ⟨fun _ _ v x => v = .str x, fun _ h => h⟩
instance : Rep Unit := ⟨fun _ _ v _ => v = .non, fun _ h => h⟩
instance : Rep V := ⟨fun _ _ v x => v = x, fun _ h => h⟩
/-- a text of one sign -/
structure Sg where
  c : Nat
deriving DecidableEq
instance : Rep Sg := ⟨fun _ _ v x => v = .str ⟨#[x.c]⟩, fun _ h => h⟩
/-- a field's seven parts -/
structure Fld where
  low : Int
  high : Int
  step : Int
  base : Int
  off : Str
  ends : Str
  big : Int
deriving DecidableEq
def Fld.vs (f : Fld) : List V := [.int f.low, .int f.high, .int f.step, .int f.base, .str f.off, .str f.ends, .int f.big]
instance : Rep Fld := ⟨fun K H v f => ∃ a, v = .ref a ∧ SqT K H a f.vs, fun e ⟨a, h1, h2⟩ => ⟨a, h1, ey_t e h2⟩⟩
instance {α β : Type} [Rep α] [Rep β] : Rep (α × β) := ⟨fun K H v x => ∃ a v1 v2, v = .ref a ∧ SqT K H a [v1, v2] ∧ Rep.rel K H v1 x.1 ∧ Rep.rel K H v2 x.2,
  fun e ⟨a, v1, v2, h, h1, h2, h3⟩ => ⟨a, v1, v2, h, ey_t e h1, Rep.moY e h2, Rep.moY e h3⟩⟩
structure Tri (α β γ : Type) where
  a : α
  b : β
  c : γ
deriving DecidableEq
instance {α β γ : Type} [Rep α] [Rep β] [Rep γ] : Rep (Tri α β γ) := ⟨fun K H v x => ∃ a v1 v2 v3, v = .ref a ∧ SqT K H a [v1, v2, v3] ∧ Rep.rel K H v1 x.a ∧ Rep.rel K H v2 x.b ∧ Rep.rel K H v3 x.c,
  fun e ⟨a, v1, v2, v3, h, h1, h2, h3, h4⟩ => ⟨a, v1, v2, v3, h, ey_t e h1, Rep.moY e h2, Rep.moY e h3, Rep.moY e h4⟩⟩
def rels {α : Type} [Rep α] (K : PySem.W.Frag) (H : Hp) : List V → List α → Prop := Paired (fun v x => Rep.rel K H v x)
theorem rels_moY {α : Type} [Rep α] {K : PySem.W.Frag} {H H' : Hp} {vs : List V} {xs : List α} (e : Ey H H') (h : rels K H vs xs) : rels K H' vs xs := Paired.mapP h fun _ _ => Rep.moY e
theorem rels_mono {α : Type} [Rep α] {K : PySem.W.Frag} {H H' : Hp} {vs : List V} {xs : List α} (e : Ex H H') (h : rels K H vs xs) : rels K H' vs xs := rels_moY e.y h
instance {α : Type} [Rep α] : Rep (List α) := ⟨fun K H v xs => ∃ a vs, v = .ref a ∧ H a = some (.lst vs) ∧ rels K H vs xs, fun e ⟨a, vs, h, h1, h2⟩ => ⟨a, vs, h, ey_lst e h1, rels_moY e h2⟩⟩
/-- a tuple of things of one kind -/
structure Tpl (α : Type) where
  l : List α
deriving DecidableEq
instance {α : Type} [Rep α] : Rep (Tpl α) := ⟨fun K H v xs => ∃ a vs, v = .ref a ∧ SqT K H a vs ∧ rels K H vs xs.l, fun e ⟨a, vs, h, h1, h2⟩ => ⟨a, vs, h, ey_t e h1, rels_moY e h2⟩⟩
/-- None or a thing -/
instance {α : Type} [Rep α] : Rep (Option α) := ⟨fun K H v x => match x with
  | none => v = .non
  | some y => Rep.rel K H v y, fun {K H H' v x} e h => by
    cases x with
    | none => exact h
    | some y => exact Rep.moY e h⟩

/-- data that no change of a list touches -/
class Imm (α : Type) [Rep α] : Prop where
  imm : ∀ {K : PySem.W.Frag} {H : Hp} {v : V} {x : α} {l : Addr} {ws ws' : List V}, H l = some (.lst ws) → Rep.rel K H v x → Rep.rel K (upd H l (.lst ws')) v x
theorem sqT_imm {K : PySem.W.Frag} {H : Hp} {a l : Addr} {xs ws ws' : List V} (hl : H l = some (.lst ws)) (h : SqT K H a xs) : SqT K (upd H l (.lst ws')) a xs := by
  rcases h with (h | ⟨o, h⟩) | h
  · exact .inl (.inl (by rw [upd_ne (ne_of h hl (by intro z; cases z))]; exact h))
  · exact .inl (.inr ⟨o, by rw [upd_ne (ne_of h hl (by intro z; cases z))]; exact h⟩)
  · exact .inr h
instance : Imm Int := ⟨fun _ h => h⟩
instance : Imm Bool := ⟨fun _ h => h⟩
instance : Imm Str := ⟨fun _ h => h⟩
instance : Imm Unit := ⟨fun _ h => h⟩
instance : Imm V := ⟨fun _ h => h⟩
instance : Imm Sg := ⟨fun _ h => h⟩
instance : Imm Fld := ⟨fun hl ⟨a, h, hs⟩ => ⟨a, h, sqT_imm hl hs⟩⟩
instance {α β : Type} [Rep α] [Rep β] [Imm α] [Imm β] : Imm (α × β) := ⟨fun hl ⟨a, v1, v2, h, hs, h1, h2⟩ => ⟨a, v1, v2, h, sqT_imm hl hs, Imm.imm hl h1, Imm.imm hl h2⟩⟩
instance {α β γ : Type} [Rep α] [Rep β] [Rep γ] [Imm α] [Imm β] [Imm γ] : Imm (Tri α β γ) := ⟨fun hl ⟨a, v1, v2, v3, h, hs, h1, h2, h3⟩ => ⟨a, v1, v2, v3, h, sqT_imm hl hs, Imm.imm hl h1, Imm.imm hl h2, Imm.imm hl h3⟩⟩
theorem rels_imm {α : Type} [Rep α] [Imm α] {K : PySem.W.Frag} {H : Hp} {vs : List V} {xs : List α} {l : Addr} {ws ws' : List V} (hl : H l = some (.lst ws)) (h : rels K H vs xs) : rels K (upd H l (.lst ws')) vs xs := Paired.mapP h fun _ _ => Imm.imm hl
instance {α : Type} [Rep α] [Imm α] : Imm (Tpl α) := ⟨fun hl ⟨a, vs, h, hs, hr⟩ => ⟨a, vs, h, sqT_imm hl hs, rels_imm hl hr⟩⟩
instance {α : Type} [Rep α] [Imm α] : Imm (Option α) := ⟨fun {K H v x l ws ws'} hl h => by
  cases x with
  | none => exact h
  | some y => exact Imm.imm (x := y) hl h⟩

/-! what evaluates to what -/
def ER {α : Type} [Rep α] (K : PySem.W.Frag) (te : TE) (σ : L2.St) (H : Hp) (x : α) : Prop := ∀ H1, Ex H H1 → ∀ Q : VK, (∀ v H2, Ex H1 H2 → Rep.rel K H2 v x → Q v H2) → te σ H1 Q
def ET (_ : PySem.W.Frag) (tt : TT) (σ : L2.St) (H : Hp) (b : Bool) : Prop := EvT tt σ H b

section
variable {K : PySem.W.Frag} {σ : L2.St} {H H' : Hp} {ta tb te tc tx : TE} {t u : TT} {i j : Int} {v : V} {a b : Bool}
theorem er_var {α : Type} [Rep α] {x : α} {n : Nat} (h : σ[n]? = some (some v)) (r : Rep.rel K H v x) : ER K (tVar n) σ H x := fun H1 e _ q => ⟨v, h, q v H1 (Ex.refl H1) (Rep.mono e r)⟩
theorem er_varI {n : Nat} (h : σ[n]? = some (some (.int i))) : ER K (tVar n) σ H i := er_var h rfl
theorem er_varB {n : Nat} (h : σ[n]? = some (some (.bl a))) : ER K (tVar n) σ H a := er_var h rfl
theorem er_varS {n : Nat} {x : Str} (h : σ[n]? = some (some (.str x))) : ER K (tVar n) σ H x := er_var h rfl
theorem er_int : ER K (tC (.int i)) σ H i := fun H1 _ _ q => q _ H1 (Ex.refl H1) rfl
theorem er_bl : ER K (tC (.bl a)) σ H a := fun H1 _ _ q => q _ H1 (Ex.refl H1) rfl
theorem er_str {x : Str} : ER K (tC (.str x)) σ H x := fun H1 _ _ q => q _ H1 (Ex.refl H1) rfl
theorem er_ref {α : Type} [Rep α] {x : α} {p : Addr} (r : Rep.rel K H (.ref p) x) : ER K (tC (.ref p)) σ H x := fun H1 e _ q => q _ H1 (Ex.refl H1) (Rep.mono e r)
/-- two rng by a rule -/
theorem er_II {β : Type} [Rep β] {r : R2} {z : β} (ha : ER K ta σ H i) (hb : ER K tb σ H j) (hr : ∀ H1 (Q : VK), (∀ v, Rep.rel K H1 v z → Q v H1) → r (.int i) (.int j) H1 Q) : ER K (tOp r ta tb) σ H z := fun H1 e Q q =>
  ha H1 e _ fun v1 H2 e2 r1 => hb H2 (e.trans e2) _ fun v2 H3 e3 r2 => by
    cases r1
    cases r2
    exact hr H3 Q fun v rv => q v H3 (e2.trans e3) rv
theorem er_add (ha : ER K ta σ H i) (hb : ER K tb σ H j) : ER K (tOp (rI0 fun i j => .int (i + j)) ta tb) σ H (i + j) := er_II ha hb fun H1 Q q => ⟨i, j, rfl, rfl, q _ rfl⟩
theorem er_sub (ha : ER K ta σ H i) (hb : ER K tb σ H j) : ER K (tOp (rI0 fun i j => .int (i - j)) ta tb) σ H (i - j) := er_II ha hb fun H1 Q q => ⟨i, j, rfl, rfl, q _ rfl⟩
theorem er_mul (ha : ER K ta σ H i) (hb : ER K tb σ H j) (c : CMul i j) : ER K (tOp (rI CMul fun i j => .int (i * j)) ta tb) σ H (i * j) := er_II ha hb fun H1 Q q => ⟨i, j, rfl, rfl, c, q _ rfl⟩
theorem er_div (ha : ER K ta σ H i) (hb : ER K tb σ H j) (c : CDivW i j) : ER K (tOp (rI CDivW fun i j => .int (i / j)) ta tb) σ H (i / j) := er_II ha hb fun H1 Q q => ⟨i, j, rfl, rfl, c, q _ rfl⟩
theorem er_mod (ha : ER K ta σ H i) (hb : ER K tb σ H j) (c : 0 < j) : ER K (tOp (rI (fun _ j => 0 < j) fun i j => .int (i % j)) ta tb) σ H (i % j) := er_II ha hb fun H1 Q q => ⟨i, j, rfl, rfl, c, q _ rfl⟩
theorem er_pow (ha : ER K ta σ H i) (hb : ER K tb σ H j) (c : CPow i j) : ER K (tOp (rI CPow fun i j => .int (i ^ j.toNat)) ta tb) σ H (i ^ j.toNat) := er_II ha hb fun H1 Q q => ⟨i, j, rfl, rfl, c, q _ rfl⟩
theorem er_lt (ha : ER K ta σ H i) (hb : ER K tb σ H j) : ER K (tOp (rI0 fun i j => .bl (decide (i < j))) ta tb) σ H (decide (i < j)) := er_II ha hb fun H1 Q q => ⟨i, j, rfl, rfl, q _ rfl⟩
theorem er_le (ha : ER K ta σ H i) (hb : ER K tb σ H j) : ER K (tOp (rI0 fun i j => .bl (decide (i ≤ j))) ta tb) σ H (decide (i ≤ j)) := er_II ha hb fun H1 Q q => ⟨i, j, rfl, rfl, q _ rfl⟩
theorem er_gt (ha : ER K ta σ H i) (hb : ER K tb σ H j) : ER K (tOp (rI0 fun i j => .bl (decide (j < i))) ta tb) σ H (decide (j < i)) := er_II ha hb fun H1 Q q => ⟨i, j, rfl, rfl, q _ rfl⟩
theorem er_ge (ha : ER K ta σ H i) (hb : ER K tb σ H j) : ER K (tOp (rI0 fun i j => .bl (decide (j ≤ i))) ta tb) σ H (decide (j ≤ i)) := er_II ha hb fun H1 Q q => ⟨i, j, rfl, rfl, q _ rfl⟩
theorem er_eqI (ha : ER K ta σ H i) (hb : ER K tb σ H j) : ER K (tOp rEq ta tb) σ H (decide (i = j)) := er_II ha hb fun H1 Q q => ⟨rfl, q _ (by
  show V.bl (decide (V.int i = V.int j)) = V.bl (decide (i = j))
  simp only [V.int.injEq])⟩
theorem er_neI (ha : ER K ta σ H i) (hb : ER K tb σ H j) : ER K (tOp rNe ta tb) σ H (!decide (i = j)) := er_II ha hb fun H1 Q q => ⟨rfl, q _ (by
  show V.bl (!decide (V.int i = V.int j)) = V.bl (!decide (i = j))
  simp only [V.int.injEq])⟩
theorem er_SS {β : Type} [Rep β] {r : R2} {z : β} {x y : Str} (ha : ER K ta σ H x) (hb : ER K tb σ H y) (hr : ∀ H1 (Q : VK), (∀ v, Rep.rel K H1 v z → Q v H1) → r (.str x) (.str y) H1 Q) : ER K (tOp r ta tb) σ H z := fun H1 e Q q =>
  ha H1 e _ fun v1 H2 e2 r1 => hb H2 (e.trans e2) _ fun v2 H3 e3 r2 => by
    cases r1
    cases r2
    exact hr H3 Q fun v rv => q v H3 (e2.trans e3) rv
theorem er_eqS {x y : Str} (ha : ER K ta σ H x) (hb : ER K tb σ H y) : ER K (tOp rEq ta tb) σ H (decide (x = y)) := er_SS ha hb fun H1 Q q => ⟨rfl, q _ (by
  show V.bl (decide (V.str x = V.str y)) = V.bl (decide (x = y))
  simp only [V.str.injEq])⟩
theorem er_neS {x y : Str} (ha : ER K ta σ H x) (hb : ER K tb σ H y) : ER K (tOp rNe ta tb) σ H (!decide (x = y)) := er_SS ha hb fun H1 Q q => ⟨rfl, q _ (by
  show V.bl (!decide (V.str x = V.str y)) = V.bl (!decide (x = y))
  simp only [V.str.injEq])⟩
theorem er_neg (ha : ER K ta σ H i) : ER K (tUn (rU fun i => .int (-i)) ta) σ H (-i) := fun H1 e Q q => ha H1 e _ fun v1 H2 e2 r1 => by
  cases r1
  exact ⟨i, rfl, q _ H2 e2 rfl⟩
/-- one sign in a text -/
theorem er_inS {c : Sg} {z : Str} (ha : ER K ta σ H c) (hb : ER K tb σ H z) : ER K (tOp rInS ta tb) σ H (decide (c.c ∈ z.cps.toList)) := fun H1 e Q q =>
  ha H1 e _ fun v1 H2 e2 r1 => hb H2 (e.trans e2) _ fun v2 H3 e3 r2 => by
    cases r1
    cases r2
    exact ⟨c.c, z, rfl, rfl, q _ H3 (e2.trans e3) rfl⟩
/-- a < b < c -/
theorem er_chain {r1 r2 : Int → Int → Bool} {k : Int} (ha : ER K ta σ H i) (hb : ER K tb σ H j) (hc : ER K tc σ H k) : ER K (tChain (rI0 fun i j => .bl (r1 i j)) (rI0 fun i j => .bl (r2 i j)) ta tb tc) σ H (r1 i j && r2 j k) := fun H1 e Q q =>
  ha H1 e _ fun v1 H2 e2 q1 => hb H2 (e.trans e2) _ fun v2 H3 e3 q2 => by
    cases q1
    cases q2
    refine ⟨i, j, rfl, rfl, r1 i j, rfl, ?_⟩
    cases h : r1 i j with
    | false =>
      rw [if_neg Bool.false_ne_true]
      exact q _ H3 (e2.trans e3) (by rw [h]; rfl)
    | true =>
      rw [if_pos rfl]
      exact hc H3 ((e.trans e2).trans e3) _ fun v3 H4 e4 q3 => by
        cases q3
        exact ⟨j, k, rfl, rfl, q _ H4 ((e2.trans e3).trans e4) (by rw [h]; rfl)⟩
/-! tests -/
theorem et_t (h : ER K te σ H a) : ET K (tTest te) σ H a := fun H1 e _ q => h H1 e _ fun v H2 e2 r => ⟨a, r, q H2 e2⟩
theorem et_b (h : ER K te σ H a) : ET K (tB te) σ H a := fun H1 e _ q => h H1 e _ fun v H2 e2 r => ⟨a, r, q H2 e2⟩
theorem ett_and (h1 : ET K t σ H a) (h2 : a = true → ET K u σ H b) : ET K (tAnd t u) σ H (a && b) := et_and h1 h2
theorem ett_or (h1 : ET K t σ H a) (h2 : a = false → ET K u σ H b) : ET K (tOr t u) σ H (a || b) := et_or h1 h2
theorem ett_not (h1 : ET K t σ H a) : ET K (tNot t) σ H (!a) := et_not h1
theorem er_and (h1 : ER K ta σ H a) (h2 : a = true → ER K tb σ H b) : ER K (tAndV ta tb) σ H (a && b) := fun H1 e Q q => h1 H1 e _ fun v H2 e2 r => ⟨a, r, by
  cases a with
  | true =>
    show tb σ H2 Q
    exact h2 rfl H2 (e.trans e2) Q fun w H3 e3 => q w H3 (e2.trans e3)
  | false =>
    show Q (.bl false) H2
    exact q _ H2 e2 rfl⟩
theorem er_or (h1 : ER K ta σ H a) (h2 : a = false → ER K tb σ H b) : ER K (tOrV ta tb) σ H (a || b) := fun H1 e Q q => h1 H1 e _ fun v H2 e2 r => ⟨a, r, by
  cases a with
  | true =>
    show Q (.bl true) H2
    exact q _ H2 e2 rfl
  | false =>
    show tb σ H2 Q
    exact h2 rfl H2 (e.trans e2) Q fun w H3 e3 => q w H3 (e2.trans e3)⟩
theorem er_not (h1 : ER K ta σ H a) : ER K (tNotV ta) σ H (!a) := fun H1 e _ q => h1 H1 e _ fun v H2 e2 r => ⟨a, r, q _ H2 e2 rfl⟩
theorem er_if {α : Type} [Rep α] {x y : α} (h : ET K t σ H a) (h1 : a = true → ER K ta σ H x) (h2 : a = false → ER K tb σ H y) : ER K (tIf t ta tb) σ H (if a = true then x else y) := fun H1 e Q q => h H1 e _ fun H2 e2 => by
  cases a with
  | true =>
    show ta σ H2 Q
    exact h1 rfl H2 (e.trans e2) Q fun w H3 e3 r => q w H3 (e2.trans e3) r
  | false =>
    show tb σ H2 Q
    exact h2 rfl H2 (e.trans e2) Q fun w H3 e3 r => q w H3 (e2.trans e3) r
theorem er_is {α : Type} [Rep α] {x y : α} (h : ER K te σ H x) (e : x = y) : ER K te σ H y := e ▸ h
theorem ER.mono {α : Type} [Rep α] {x : α} (e : Ex H H') (h : ER K te σ H x) : ER K te σ H' x := fun H1 e1 Q q => h H1 (e.trans e1) Q q
/-! tuples -/
theorem er_fld {α : Type} [Rep α] {x : α} {f : Fld} {n : Int} {w : V} (ha : ER K ta σ H f) (h : atI f.vs n = some w) (hx : ∀ H, Rep.rel K H w x) : ER K (tOp (rIxT K) ta (tC (.int n))) σ H x := fun H1 e Q q =>
  ha H1 e _ fun v H2 e2 ⟨p, hv, hs⟩ => ⟨p, f.vs, n, w, hv, rfl, hs, h, q w H2 e2 (hx H2)⟩
theorem er_f0 {f : Fld} (ha : ER K ta σ H f) : ER K (tOp (rIxT K) ta (tC (.int 0))) σ H f.low := er_fld ha rfl fun _ => rfl
theorem er_f1 {f : Fld} (ha : ER K ta σ H f) : ER K (tOp (rIxT K) ta (tC (.int 1))) σ H f.high := er_fld ha rfl fun _ => rfl
theorem er_f2 {f : Fld} (ha : ER K ta σ H f) : ER K (tOp (rIxT K) ta (tC (.int 2))) σ H f.step := er_fld ha rfl fun _ => rfl
theorem er_f3 {f : Fld} (ha : ER K ta σ H f) : ER K (tOp (rIxT K) ta (tC (.int 3))) σ H f.base := er_fld ha rfl fun _ => rfl
theorem er_f4 {f : Fld} (ha : ER K ta σ H f) : ER K (tOp (rIxT K) ta (tC (.int 4))) σ H f.off := er_fld ha rfl fun _ => rfl
theorem er_f5 {f : Fld} (ha : ER K ta σ H f) : ER K (tOp (rIxT K) ta (tC (.int 5))) σ H f.ends := er_fld ha rfl fun _ => rfl
theorem er_f6 {f : Fld} (ha : ER K ta σ H f) : ER K (tOp (rIxT K) ta (tC (.int 6))) σ H f.big := er_fld ha rfl fun _ => rfl
theorem er_p0 {α β : Type} [Rep α] [Rep β] {x : α × β} (ha : ER K ta σ H x) : ER K (tOp (rIxT K) ta (tC (.int 0))) σ H x.1 := fun H1 e Q q =>
  ha H1 e _ fun v H2 e2 ⟨p, v1, v2, hv, hs, r1, r2⟩ => ⟨p, [v1, v2], 0, v1, hv, rfl, hs, rfl, q v1 H2 e2 r1⟩
theorem er_p1 {α β : Type} [Rep α] [Rep β] {x : α × β} (ha : ER K ta σ H x) : ER K (tOp (rIxT K) ta (tC (.int 1))) σ H x.2 := fun H1 e Q q =>
  ha H1 e _ fun v H2 e2 ⟨p, v1, v2, hv, hs, r1, r2⟩ => ⟨p, [v1, v2], 1, v2, hv, rfl, hs, rfl, q v2 H2 e2 r2⟩
theorem er_tup2 {α β : Type} [Rep α] [Rep β] {x : α} {y : β} (ha : ER K ta σ H x) (hb : ER K tb σ H y) : ER K (tTup (tCons ta (tCons tb tNil))) σ H (x, y) := fun H1 e Q q =>
  ha H1 e _ fun v1 H2 e2 r1 => hb H2 (e.trans e2) _ fun v2 H3 e3 r2 => ⟨sz_of (by show 2 ≤ 100000; decide), fun p hp =>
    have n := Ex.new (o := .tup [v1, v2]) hp
    q (.ref p) _ ((e2.trans e3).trans n) ⟨p, v1, v2, rfl, st_of upd_same, Rep.mono (e3.trans n) r1, Rep.mono n r2⟩⟩
theorem er_tup3 {α β γ : Type} [Rep α] [Rep β] [Rep γ] {x : α} {y : β} {z : γ} (ha : ER K ta σ H x) (hb : ER K tb σ H y) (hc : ER K tc σ H z) : ER K (tTup (tCons ta (tCons tb (tCons tc tNil)))) σ H (Tri.mk x y z) := fun H1 e Q q =>
  ha H1 e _ fun v1 H2 e2 r1 => hb H2 (e.trans e2) _ fun v2 H3 e3 r2 => hc H3 ((e.trans e2).trans e3) _ fun v3 H4 e4 r3 => ⟨sz_of (by show 3 ≤ 100000; decide), fun p hp =>
    have n := Ex.new (o := .tup [v1, v2, v3]) hp
    q (.ref p) _ (((e2.trans e3).trans e4).trans n) ⟨p, v1, v2, v3, rfl, st_of upd_same, Rep.mono ((e3.trans e4).trans n) r1, Rep.mono (e4.trans n) r2, Rep.mono n r3⟩⟩
end

/-! slots -/
inductive SetAt : L2.St → Nat → V → L2.St → Prop
  | z {o : Option V} {r : L2.St} {v : V} : SetAt (o :: r) 0 v (some v :: r)
  | s {o : Option V} {r r' : L2.St} {n : Nat} {v : V} : SetAt r n v r' → SetAt (o :: r) (n + 1) v (o :: r')
theorem SetAt.eq {σ σ' : L2.St} {n : Nat} {v : V} (h : SetAt σ n v σ') : σ.set n (some v) = σ' := by
  induction h with
  | z => rfl
  | s _ ih => rw [List.set_cons_succ, ih]

/-! what a def promises -/
section
variable {α β γ ε δ : Type} [Rep α] [Rep β] [Rep γ] [Rep ε] [Rep δ]
def sp1 (K : PySem.W.Frag) (pre : α → Prop) (g : α → δ) : Sp := fun vs H Q _ => ∃ x a, vs = [x] ∧ Rep.rel K H x a ∧ pre a ∧ ∀ v H', Ex H H' → Rep.rel K H' v (g a) → Q v H'
def sp2 (K : PySem.W.Frag) (pre : α → β → Prop) (g : α → β → δ) : Sp := fun vs H Q _ => ∃ x y a b, vs = [x, y] ∧ Rep.rel K H x a ∧ Rep.rel K H y b ∧ pre a b ∧ ∀ v H', Ex H H' → Rep.rel K H' v (g a b) → Q v H'
def sp3 (K : PySem.W.Frag) (pre : α → β → γ → Prop) (g : α → β → γ → δ) : Sp := fun vs H Q _ => ∃ x y z a b c, vs = [x, y, z] ∧ Rep.rel K H x a ∧ Rep.rel K H y b ∧ Rep.rel K H z c ∧ pre a b c ∧ ∀ v H', Ex H H' → Rep.rel K H' v (g a b c) → Q v H'
def sp4 (K : PySem.W.Frag) (pre : α → β → γ → ε → Prop) (g : α → β → γ → ε → δ) : Sp := fun vs H Q _ => ∃ x y z u a b c d, vs = [x, y, z, u] ∧ Rep.rel K H x a ∧ Rep.rel K H y b ∧ Rep.rel K H z c ∧ Rep.rel K H u d ∧ pre a b c d ∧ ∀ v H', Ex H H' → Rep.rel K H' v (g a b c d) → Q v H'
variable {K : PySem.W.Frag} {σ : L2.St} {H : Hp} {ta tb tc td : TE} {E : XK} {a : α} {b : β} {c : γ} {d : ε}
theorem er_call1 {pre : α → Prop} {g : α → δ} (ha : ER K ta σ H a) (hp : pre a) : ER K (tCall (sp1 K pre g) [] E (tCons ta tNil)) σ H (g a) := fun H1 e Q q =>
  ha H1 e _ fun v1 H2 e2 r1 => ⟨v1, a, rfl, r1, hp, fun v H' e' r => q v H' (e2.trans e') r⟩
theorem er_call2 {pre : α → β → Prop} {g : α → β → δ} (ha : ER K ta σ H a) (hb : ER K tb σ H b) (hp : pre a b) : ER K (tCall (sp2 K pre g) [] E (tCons ta (tCons tb tNil))) σ H (g a b) := fun H1 e Q q =>
  ha H1 e _ fun v1 H2 e2 r1 => hb H2 (e.trans e2) _ fun v2 H3 e3 r2 => ⟨v1, v2, a, b, rfl, Rep.mono e3 r1, r2, hp, fun v H' e' r => q v H' ((e2.trans e3).trans e') r⟩
theorem er_call3 {pre : α → β → γ → Prop} {g : α → β → γ → δ} (ha : ER K ta σ H a) (hb : ER K tb σ H b) (hc : ER K tc σ H c) (hp : pre a b c) : ER K (tCall (sp3 K pre g) [] E (tCons ta (tCons tb (tCons tc tNil)))) σ H (g a b c) := fun H1 e Q q =>
  ha H1 e _ fun v1 H2 e2 r1 => hb H2 (e.trans e2) _ fun v2 H3 e3 r2 => hc H3 ((e.trans e2).trans e3) _ fun v3 H4 e4 r3 =>
    ⟨v1, v2, v3, a, b, c, rfl, Rep.mono (e3.trans e4) r1, Rep.mono e4 r2, r3, hp, fun v H' e' r => q v H' (((e2.trans e3).trans e4).trans e') r⟩
theorem er_call4 {pre : α → β → γ → ε → Prop} {g : α → β → γ → ε → δ} (ha : ER K ta σ H a) (hb : ER K tb σ H b) (hc : ER K tc σ H c) (hd : ER K td σ H d) (hp : pre a b c d) :
    ER K (tCall (sp4 K pre g) [] E (tCons ta (tCons tb (tCons tc (tCons td tNil))))) σ H (g a b c d) := fun H1 e Q q =>
  ha H1 e _ fun v1 H2 e2 r1 => hb H2 (e.trans e2) _ fun v2 H3 e3 r2 => hc H3 ((e.trans e2).trans e3) _ fun v3 H4 e4 r3 => hd H4 (((e.trans e2).trans e3).trans e4) _ fun v4 H5 e5 r4 =>
    ⟨v1, v2, v3, v4, a, b, c, d, rfl, Rep.mono ((e3.trans e4).trans e5) r1, Rep.mono (e4.trans e5) r2, Rep.mono e5 r3, r4, hp, fun v H' e' r => q v H' ((((e2.trans e3).trans e4).trans e5).trans e') r⟩
variable {P : Program} {w : World} {mg : Str → Option Value} {base : Heap} {x qual : Str} {params : Arguments} {body : List Stmt} {scope : Scope} {dvs : List V} {kws : List (Str × V)} {f : Addr} {fd : FuncData} {N ps : List Str} {k : Nat} {CX : CXT}
/-- the def's body: a derivation, and its reading from the slots σ0 -/
def Body (CX : CXT) (P : Program) (w : World) (K : PySem.W.Frag) (mg : Str → Option Value) (base : Heap) (k : Nat) (f : Addr) (N : List Str) (qual : Str) (scope : Scope) (body : List Stmt) (H : Hp) (Q : VK) (σ0 : L2.St) : Prop :=
  ∀ (cdv : Value) (A : Around) (outer : List Env) (s : Shared) (E : XK), Room k (A.deeper (envOfC qual scope s.heap.objs.size f cdv)) →
    ∃ t, PSs (cxOf CX P w K mg base N qual scope f cdv A outer s H E) body t ∧ t { nx := fun _ H' => Q .non H', rt := Q } σ0 H
theorem ok1 {pre : α → Prop} {g : α → δ} (F : FunD K x qual params body scope dvs kws f fd) (S : FnScope N ps scope) (hl : ps.length = 1) (σ0 : V → L2.St) (h0 : ∀ x, start N [x] = σ0 x)
    (h : ∀ (H : Hp) (Q : VK) (x : V) (a : α), Rep.rel K H x a → pre a → (∀ v H', Ex H H' → Rep.rel K H' v (g a) → Q v H') → Body CX P w K mg base k f N qual scope body H Q (σ0 x)) : FnOk P w K mg base CX (k + 1) f fd ps (sp1 K pre g) := by
  refine F.ok S (fun vs H Q E hs => ?_) (fun cdv A outer s H vs Q E hr hs => ?_)
  · obtain ⟨x, a, rfl, _⟩ := hs
    exact hl.symm
  · obtain ⟨x, a, rfl, h1, hp, q⟩ := hs
    rw [h0]
    exact h H Q x a h1 hp q cdv A outer s E hr
theorem ok2 {pre : α → β → Prop} {g : α → β → δ} (F : FunD K x qual params body scope dvs kws f fd) (S : FnScope N ps scope) (hl : ps.length = 2) (σ0 : V → V → L2.St) (h0 : ∀ x y, start N [x, y] = σ0 x y)
    (h : ∀ (H : Hp) (Q : VK) (x y : V) (a : α) (b : β), Rep.rel K H x a → Rep.rel K H y b → pre a b → (∀ v H', Ex H H' → Rep.rel K H' v (g a b) → Q v H') → Body CX P w K mg base k f N qual scope body H Q (σ0 x y)) : FnOk P w K mg base CX (k + 1) f fd ps (sp2 K pre g) := by
  refine F.ok S (fun vs H Q E hs => ?_) (fun cdv A outer s H vs Q E hr hs => ?_)
  · obtain ⟨x, y, a, b, rfl, _⟩ := hs
    exact hl.symm
  · obtain ⟨x, y, a, b, rfl, h1, h2, hp, q⟩ := hs
    rw [h0]
    exact h H Q x y a b h1 h2 hp q cdv A outer s E hr
theorem ok3 {pre : α → β → γ → Prop} {g : α → β → γ → δ} (F : FunD K x qual params body scope dvs kws f fd) (S : FnScope N ps scope) (hl : ps.length = 3) (σ0 : V → V → V → L2.St) (h0 : ∀ x y z, start N [x, y, z] = σ0 x y z)
    (h : ∀ (H : Hp) (Q : VK) (x y z : V) (a : α) (b : β) (c : γ), Rep.rel K H x a → Rep.rel K H y b → Rep.rel K H z c → pre a b c → (∀ v H', Ex H H' → Rep.rel K H' v (g a b c) → Q v H') → Body CX P w K mg base k f N qual scope body H Q (σ0 x y z)) : FnOk P w K mg base CX (k + 1) f fd ps (sp3 K pre g) := by
  refine F.ok S (fun vs H Q E hs => ?_) (fun cdv A outer s H vs Q E hr hs => ?_)
  · obtain ⟨x, y, z, a, b, c, rfl, _⟩ := hs
    exact hl.symm
  · obtain ⟨x, y, z, a, b, c, rfl, h1, h2, h3, hp, q⟩ := hs
    rw [h0]
    exact h H Q x y z a b c h1 h2 h3 hp q cdv A outer s E hr
theorem ok4 {pre : α → β → γ → ε → Prop} {g : α → β → γ → ε → δ} (F : FunD K x qual params body scope dvs kws f fd) (S : FnScope N ps scope) (hl : ps.length = 4) (σ0 : V → V → V → V → L2.St) (h0 : ∀ x y z u, start N [x, y, z, u] = σ0 x y z u)
    (h : ∀ (H : Hp) (Q : VK) (x y z u : V) (a : α) (b : β) (c : γ) (d : ε), Rep.rel K H x a → Rep.rel K H y b → Rep.rel K H z c → Rep.rel K H u d → pre a b c d → (∀ v H', Ex H H' → Rep.rel K H' v (g a b c d) → Q v H') → Body CX P w K mg base k f N qual scope body H Q (σ0 x y z u)) : FnOk P w K mg base CX (k + 1) f fd ps (sp4 K pre g) := by
  refine F.ok S (fun vs H Q E hs => ?_) (fun cdv A outer s H vs Q E hr hs => ?_)
  · obtain ⟨x, y, z, u, a, b, c, d, rfl, _⟩ := hs
    exact hl.symm
  · obtain ⟨x, y, z, u, a, b, c, d, rfl, h1, h2, h3, h4, hp, q⟩ := hs
    rw [h0]
    exact h H Q x y z u a b c d h1 h2 h3 h4 hp q cdv A outer s E hr
end
/-- a def of the module, to be called -/
structure Cal (P : Program) (w : World) (K : PySem.W.Frag) (mg : Str → Option Value) (base : Heap) (CX : CXT) (k : Nat) (x : Str) (ps : List Str) (sp : Sp) (f : Addr) (fd : FuncData) : Prop where
  ok : FnOk P w K mg base CX k f fd ps sp
  mg : mg x = some (.ref f)
  kp : PySem.W.keepIn K (.ref f) = true
  bd : Binds K fd ps []

/-! statements -/
section
variable {α : Type} [Rep α] {σ σ' : L2.St} {H : Hp} {te : TE} {tt : TT} {x : α} {D : Ends} {u t1 t2 : TS} {n : Nat} {b : Bool} {i : Int}
theorem q_set (K : PySem.W.Frag) {s' : V → L2.St} (h : ER K te σ H x) (s : ∀ v, SetAt σ n v (s' v)) (k : ∀ v H1, Ex H H1 → Rep.rel K H1 v x → u D (s' v) H1) : tSeq (tAsg te (gName n)) u D σ H := h H (Ex.refl H) _ fun v H1 e r => by
  show u D (σ.set n (some v)) H1
  rw [(s v).eq]
  exact k v H1 e r
theorem q_setI (K : PySem.W.Frag) {s' : V → L2.St} (h : ER K te σ H i) (s : ∀ v, SetAt σ n v (s' v)) (k : ∀ H1, Ex H H1 → u D (s' (.int i)) H1) : tSeq (tAsg te (gName n)) u D σ H := q_set K h s fun v H1 e r => by
  cases r
  exact k H1 e
theorem q_setB (K : PySem.W.Frag) {s' : V → L2.St} (h : ER K te σ H b) (s : ∀ v, SetAt σ n v (s' v)) (k : ∀ H1, Ex H H1 → u D (s' (.bl b)) H1) : tSeq (tAsg te (gName n)) u D σ H := q_set K h s fun v H1 e r => by
  cases r
  exact k H1 e
theorem q_drop (K : PySem.W.Frag) (h : ER K te σ H x) (k : ∀ H1, Ex H H1 → u D σ H1) : tSeq (tDrop te) u D σ H := h H (Ex.refl H) _ fun _ H1 e _ => k H1 e
theorem l_drop (K : PySem.W.Frag) (h : ER K te σ H x) (k : ∀ H1, Ex H H1 → D.nx σ H1) : tDrop te D σ H := h H (Ex.refl H) _ fun _ H1 e _ => k H1 e
theorem l_set (K : PySem.W.Frag) {s' : V → L2.St} (h : ER K te σ H x) (s : ∀ v, SetAt σ n v (s' v)) (k : ∀ v H1, Ex H H1 → Rep.rel K H1 v x → D.nx (s' v) H1) : tAsg te (gName n) D σ H := h H (Ex.refl H) _ fun v H1 e r => by
  show D.nx (σ.set n (some v)) H1
  rw [(s v).eq]
  exact k v H1 e r
theorem l_ret (K : PySem.W.Frag) {Q : VK} {nx bk ct} (h : ER K te σ H x) (k : ∀ v H1, Ex H H1 → Rep.rel K H1 v x → Q v H1) : tRet te ⟨nx, Q, bk, ct⟩ σ H := h H (Ex.refl H) _ k
theorem q_ret (K : PySem.W.Frag) {Q : VK} {nx bk ct} (h : ER K te σ H x) (k : ∀ v H1, Ex H H1 → Rep.rel K H1 v x → Q v H1) : tSeq (tRet te) u ⟨nx, Q, bk, ct⟩ σ H := h H (Ex.refl H) _ k
theorem l_if (K : PySem.W.Frag) (h : ET K tt σ H b) (h1 : b = true → ∀ H1, Ex H H1 → t1 D σ H1) (h2 : b = false → ∀ H1, Ex H H1 → t2 D σ H1) : tIfS tt t1 t2 D σ H := s_if h h1 h2
theorem q_if (K : PySem.W.Frag) (h : ET K tt σ H b) (h1 : b = true → ∀ H1, Ex H H1 → t1 { D with nx := u D } σ H1) (h2 : b = false → ∀ H1, Ex H H1 → t2 { D with nx := u D } σ H1) : tSeq (tIfS tt t1 t2) u D σ H := s_if (D := { D with nx := u D }) h h1 h2
theorem l_if0 (K : PySem.W.Frag) (h : ET K tt σ H b) (h1 : b = true → ∀ H1, Ex H H1 → t1 D σ H1) (h2 : b = false → ∀ H1, Ex H H1 → D.nx σ H1) : tIfS tt t1 tNext D σ H := s_if h h1 h2
theorem q_if0 (K : PySem.W.Frag) (h : ET K tt σ H b) (h1 : b = true → ∀ H1, Ex H H1 → t1 { D with nx := u D } σ H1) (h2 : b = false → ∀ H1, Ex H H1 → u D σ H1) : tSeq (tIfS tt t1 tNext) u D σ H := s_if (D := { D with nx := u D }) h h1 h2
theorem l_next (h : D.nx σ H) : tNext D σ H := h
end

theorem cdivw {i j : Int} (h : 0 < j) (h1 : j < 1267650600228229401496703205376) : CDivW i j := wide_div h (b := 100) (by omega) (by decide) (by decide)
/-! a slice of a field, unpacked -/
section
variable {K : PySem.W.Frag} {σ : L2.St} {H : Hp} {te : TE} {u : TS} {D : Ends} {f : Fld}
theorem q_unp {lo hi : Option Int} {tl th : TO} {n : Nat} {g : TGs} {ys : List V} (h : ER K te σ H f) (hl : ∀ (Q : Option Int → Hp → Prop) H1, Q lo H1 → tl σ H1 Q) (hh : ∀ (Q : Option Int → Hp → Prop) H1, Q hi H1 → th σ H1 Q)
    (hn : ¬ (HT.sIx 7 0 lo = 0 ∧ HT.sIx 7 7 hi = 7)) (hc : cutV f.vs lo hi = ys) (hy : ys.length = n) (k : ∀ H1, Ex H H1 → g ys σ H1 fun σ' H' => u D σ' H') :
    tSeq (tAsg (tSl (rSlT K) te tl th) (gTup K n g)) u D σ H := h H (Ex.refl H) _ fun v H1 e r => by
  obtain ⟨a, rfl, hs⟩ := r
  refine hl _ _ (hh _ _ ⟨a, f.vs, rfl, hs, hn, fun p hp => ?_⟩)
  refine ⟨p, cutV f.vs lo hi, rfl, st_of upd_same, ?_, ?_⟩
  · rw [hc, hy]
  · rw [hc]
    exact k _ (e.trans (Ex.new hp))
theorem g_cons {i : Nat} {v : V} {vs : List V} {σ' : L2.St} {g : TGs} {Q : L2.St → Hp → Prop} (s : SetAt σ i v σ') (k : g vs σ' H Q) : gCons (gName i) g (v :: vs) σ H Q := ⟨v, vs, rfl, by
  show g vs (σ.set i (some v)) H Q
  rw [s.eq]
  exact k⟩
theorem g_nil {Q : L2.St → Hp → Prop} (k : Q σ H) : gNil [] σ H Q := ⟨rfl, k⟩
end

/-! ### what is walked -/
section
variable {α β γ : Type} [Rep α] [Rep β] [Rep γ] {K : PySem.W.Frag} {σ : L2.St} {H H' : Hp} {te tl ta tb : TE} {u : TS} {D : Ends} {tt : TT} {tA : TA}
theorem rels_len {vs : List V} {xs : List α} (h : rels K H vs xs) : vs.length = xs.length := by
  induction h with
  | nil => rfl
  | cons _ _ ih => simp only [List.length_cons, ih]
theorem rels_get {vs : List V} {xs : List α} (h : rels K H vs xs) {i : Nat} {v : V} (e : vs[i]? = some v) : ∃ x, xs[i]? = some x ∧ Rep.rel K H v x := by
  induction h generalizing i with
  | nil => simp at e
  | @cons a b l1 l2 r _ ih =>
    cases i with
    | zero =>
      have e1 : a = v := Option.some.inj e
      subst e1
      exact ⟨b, rfl, r⟩
    | succ n =>
      rw [List.getElem?_cons_succ] at e
      obtain ⟨x, h1, h2⟩ := ih e
      exact ⟨x, by rw [List.getElem?_cons_succ]; exact h1, h2⟩
theorem rels_at {vs : List V} {xs : List α} (h : rels K H vs xs) {i : Nat} {x : α} (e : xs[i]? = some x) : ∃ v, vs[i]? = some v ∧ Rep.rel K H v x := by
  induction h generalizing i with
  | nil => simp at e
  | @cons a b l1 l2 r _ ih =>
    cases i with
    | zero =>
      have e1 : b = x := Option.some.inj e
      subst e1
      exact ⟨a, rfl, r⟩
    | succ n =>
      rw [List.getElem?_cons_succ] at e
      obtain ⟨v, h1, h2⟩ := ih e
      exact ⟨v, by rw [List.getElem?_cons_succ]; exact h1, h2⟩
theorem rels_snoc {vs : List V} {xs : List α} {v : V} {x : α} (h : rels K H vs xs) (r : Rep.rel K H v x) : rels K H (vs ++ [v]) (xs ++ [x]) := Paired.snoc h r
theorem rels_app {vs ws : List V} {xs ys : List α} (h : rels K H vs xs) (h2 : rels K H ws ys) : rels K H (vs ++ ws) (xs ++ ys) := by
  induction h with
  | nil => exact h2
  | cons r _ ih => exact .cons r ih
theorem rels_ints {vs : List V} {xs : List Int} (h : rels K H vs xs) : vs = xs.map V.int := by
  induction h with
  | nil => rfl
  | cons r _ ih =>
    cases r
    rw [ih]
    rfl
theorem ints_rels {xs : List Int} : rels K H (xs.map V.int) xs := by
  induction xs with
  | nil => exact .nil
  | cons x r ih => exact .cons rfl ih
theorem rels_bls {vs : List V} {xs : List Bool} (h : rels K H vs xs) : vs = xs.map V.bl := by
  induction h with
  | nil => rfl
  | cons r _ ih =>
    cases r
    rw [ih]
    rfl
theorem rels_strs {vs : List V} {xs : List Str} (h : rels K H vs xs) : vs = xs.map V.str := by
  induction h with
  | nil => rfl
  | cons r _ ih =>
    cases r
    rw [ih]
    rfl
/-- a walk gives the data xs -/
def Wk (K : PySem.W.Frag) (wi : TI) (σ : L2.St) (H : Hp) (xs : List α) : Prop := ∀ H1, Ex H H1 → ∀ R : It → Hp → Prop, (∀ J H2 G Y, Ex H1 H2 → Walk J xs.length G Y → (∀ H3, Ey H2 H3 → G H3) →
  (∀ i Ha v Hb, i < xs.length → Ey H2 Ha → Y i Ha v Hb → Ex Ha Hb ∧ ∃ x, xs[i]? = some x ∧ Rep.rel K Hb v x) → R J H2) → wi σ H1 R
theorem wk_list {xs : List α} (h : ER K tl σ H xs) : Wk K (iList K tl) σ H xs := fun H1 e R k => h H1 e _ fun v H2 e2 ⟨a, vs, hv, hs, hr⟩ => ⟨a, hv, ⟨vs, sq_of hs⟩, by
  refine k _ H2 _ _ e2 (rels_len hr ▸ walk_list (xs := vs)) (fun H3 e3 => ey_l e3 (sq_of hs)) fun i Ha v Hb hi ea y => ?_
  obtain ⟨rfl, hy⟩ := y
  obtain ⟨x, h1, h2⟩ := rels_get hr hy
  exact ⟨Ex.refl _, x, h1, Rep.moY ea h2⟩⟩
theorem wk_tup {xs : List α} (h : ER K tl σ H (Tpl.mk xs)) : Wk K (iTup K tl) σ H xs := fun H1 e R k => h H1 e _ fun v H2 e2 ⟨a, vs, hv, hs, hr⟩ => ⟨a, hv, ⟨vs, hs⟩, by
  refine k _ H2 _ _ e2 (rels_len hr ▸ walk_tup (xs := vs)) (fun H3 e3 => ey_t e3 hs) fun i Ha v Hb hi ea y => ?_
  obtain ⟨rfl, hy⟩ := y
  obtain ⟨x, h1, h2⟩ := rels_get hr hy
  exact ⟨Ex.refl _, x, h1, Rep.moY ea h2⟩⟩
def sgs (z : Str) : List Sg := z.cps.toList.map Sg.mk
theorem wk_str {z : Str} (h : ER K tl σ H z) : Wk K (iStr tl) σ H (sgs z) := fun H1 e R k => h H1 e _ fun v H2 e2 r => ⟨z, r, by
  have hl : (sgs z).length = z.cps.size := by simp [sgs]
  refine k _ H2 _ _ e2 (hl ▸ walk_str (z := z)) (fun _ _ => trivial) fun i Ha v Hb hi ea y => ?_
  obtain ⟨rfl, c, hc, rfl⟩ := y
  refine ⟨Ex.refl _, ⟨c⟩, ?_, rfl⟩
  simp only [sgs, List.getElem?_map, Array.getElem?_toList, hc, Option.map_some]⟩
/-- 0, 1, .., n - 1; lo, lo + 1, .. -/
def rng (lo : Int) (n : Nat) : List Int := (List.range n).map fun i => lo + ((i : Nat) : Int)
theorem rng_len {lo : Int} {n : Nat} : (rng lo n).length = n := by simp [rng]
theorem rng_get {lo : Int} {n i : Nat} (h : i < n) : (rng lo n)[i]? = some (lo + (i : Int)) := by
  simp only [rng, List.getElem?_map, List.getElem?_range h, Option.map_some]
theorem rng_mem {lo : Int} {n : Nat} {z : Int} : z ∈ rng lo n ↔ lo ≤ z ∧ z < lo + n := by
  simp only [rng, List.mem_map, List.mem_range]
  constructor
  · rintro ⟨a, h, rfl⟩
    omega
  · intro h
    exact ⟨(z - lo).toNat, by omega, by omega⟩
theorem walk_rng {lo : Int} {n : Nat} : Walk (Itr lo n) (rng lo n).length (fun _ => True) (YFn fun i => .int (lo + i)) := by
  rw [rng_len]
  exact walk_range
theorem wk_rng1 {n : Int} (h : ER K ta σ H n) (hn : -(2 ^ 62) ≤ n ∧ n < 2 ^ 62) : Wk K (iRng1 (tCons ta tNil)) σ H (rng 0 n.toNat) := fun H1 e R k => h H1 e _ fun v H2 e2 r => by
  cases r
  refine ⟨n, rfl, hn.1, hn.2, k _ H2 _ _ e2 walk_rng (fun _ _ => trivial) fun i Ha v Hb hi ea y => ?_⟩
  obtain ⟨rfl, rfl⟩ := y
  rw [rng_len] at hi
  exact ⟨Ex.refl _, _, rng_get hi, rfl⟩
theorem wk_rng2 {m n : Int} (h : ER K ta σ H m) (h2 : ER K tb σ H n) (hn : -(2 ^ 62) ≤ m ∧ m < 2 ^ 62 ∧ -(2 ^ 62) ≤ n ∧ n < 2 ^ 62) : Wk K (iRng2 (tCons ta (tCons tb tNil))) σ H (rng m (n - m).toNat) := fun H1 e R k => h H1 e _ fun v H2 e2 r =>
  h2 H2 (e.trans e2) _ fun v3 H3 e3 r3 => by
  cases r
  cases r3
  refine ⟨m, n, rfl, hn, k _ H3 _ _ (e2.trans e3) walk_rng (fun _ _ => trivial) fun i Ha v Hb hi ea y => ?_⟩
  obtain ⟨rfl, rfl⟩ := y
  rw [rng_len] at hi
  exact ⟨Ex.refl _, _, rng_get hi, rfl⟩
/-- enumerate -/
def enum (xs : List α) : List (Int × α) := (xs.zipIdx 0).map fun p => ((p.2 : Int), p.1)
theorem enum_get {xs : List α} {i : Nat} {x : α} (h : xs[i]? = some x) : (enum xs)[i]? = some ((i : Int), x) := by
  simp [enum, h]
theorem wk_enum {xs : List α} (h : ER K ta σ H xs) : Wk K (iEnum K (tCons ta tNil)) σ H (enum xs) := fun H1 e R k => h H1 e _ fun v H2 e2 ⟨a, vs, hv, hs, hr⟩ => by
  subst hv
  have hl : (enum xs).length = vs.length := by simp [enum, rels_len hr]
  refine ⟨a, vs, rfl, sq_of hs, k _ H2 _ _ e2 (hl ▸ walk_enum (xs := vs)) (fun H3 e3 => ey_l e3 (sq_of hs)) fun i Ha v Hb hi ea y => ?_⟩
  obtain ⟨T, x1, y1, rfl, hT, rfl, h1, h2⟩ := y
  cases h1
  obtain ⟨x, h3, h4⟩ := rels_get hr h2
  have n := Ex.new (o := .tup [.int (i : Nat), y1]) hT
  exact ⟨n, _, enum_get h3, T, _, _, rfl, st_of upd_same, rfl, Rep.moY (ea.trans n.y) h4⟩
theorem wk_zip {xs : List α} {ys : List β} (h : ER K ta σ H xs) (h' : ER K tb σ H ys) : Wk K (iZip K (tCons ta (tCons tb tNil))) σ H (xs.zip ys) := fun H1 e R k => h H1 e _ fun v H2 e2 ⟨a, vs, hv, hs, hr⟩ =>
  h' H2 (e.trans e2) _ fun v' H3 e3 ⟨b, ws, hw, hs', hr'⟩ => by
  subst hv
  subst hw
  refine ⟨a, b, vs, ws, rfl, sq_of (e3 _ _ hs), sq_of hs', k _ H3 _ _ (e2.trans e3) (walk_zip (xs := vs) (ys := ws) (by rw [List.length_zip, rels_len hr, rels_len hr'])) (fun H4 e4 => ⟨sq_of (ey_lst e4 (e3 _ _ hs)), sq_of (ey_lst e4 hs')⟩) fun i Ha v Hb hi ea y => ?_⟩
  obtain ⟨T, x1, y1, rfl, hT, rfl, h1, h2⟩ := y
  obtain ⟨x, h3, h4⟩ := rels_get hr h1
  obtain ⟨z, h5, h6⟩ := rels_get hr' h2
  have n := Ex.new (o := .tup [x1, y1]) hT
  refine ⟨n, (x, z), ?_, T, _, _, rfl, st_of upd_same, Rep.moY ((e3.y.trans ea).trans n.y) h4, Rep.moY (ea.trans n.y) h6⟩
  rw [List.getElem?_zip_eq_some]
  exact ⟨h3, h5⟩
/-! ### loops -/
theorem for_wk (K : PySem.W.Frag) {wi : TI} {xs : List α} (h : Wk K wi σ H xs) {gt : TG} {tb : TS} (Pv : List α → L2.St → Hp → Prop) (h0 : ∀ H1, Ex H H1 → Pv [] σ H1)
    (hs : ∀ H1 pre x post v σ' H' H'', Ex H H1 → xs = pre ++ x :: post → Ey H1 H' → Pv pre σ' H' → Ex H' H'' → Rep.rel K H'' v x →
      gt v σ' H'' fun σ2 H2 => tb { D with nx := fun σ3 H3 => Ey H1 H3 ∧ Pv (pre ++ [x]) σ3 H3, ct := fun σ3 H3 => Ey H1 H3 ∧ Pv (pre ++ [x]) σ3 H3, bk := D.nx } σ2 H2)
    (hd : ∀ σ' H', Ey H H' → Pv xs σ' H' → D.nx σ' H') : tFor wi gt tb D σ H := by
  refine h H (Ex.refl H) _ fun J H2 G Y e2 w hG hY => ?_
  refine for_it w (fun i σ' H' => Ey H2 H' ∧ Pv (xs.take i) σ' H') ⟨Ey.refl _, by rw [List.take_zero]; exact h0 H2 e2⟩ (fun i σ' H' _ p => hG H' p.1) (fun i v σ' H' H'' hi p y => ?_) (fun σ' H' p => hd σ' H' (e2.y.trans p.1) (by rw [List.take_length] at p; exact p.2))
  obtain ⟨e3, x, hx, r⟩ := hY i H' v H'' hi p.1 y
  have et : xs.take (i + 1) = xs.take i ++ [x] := by
    rw [List.take_add_one, hx]
    rfl
  have ex : xs = xs.take i ++ x :: xs.drop (i + 1) := by
    have h1 := (List.take_append_drop i xs).symm
    obtain ⟨hi2, hx2⟩ := List.getElem?_eq_some_iff.mp hx
    rw [List.drop_eq_getElem_cons hi2, hx2] at h1
    exact h1
  have z := hs H2 (xs.take i) x (xs.drop (i + 1)) v σ' H' H'' e2 ex p.1 p.2 e3 r
  rw [← et] at z
  exact z
theorem q_for (K : PySem.W.Frag) {wi : TI} {xs : List α} (h : Wk K wi σ H xs) {gt : TG} {tb : TS} (Pv : List α → L2.St → Hp → Prop) (h0 : ∀ H1, Ex H H1 → Pv [] σ H1)
    (hs : ∀ H1 pre x post v σ' H' H'', Ex H H1 → xs = pre ++ x :: post → Ey H1 H' → Pv pre σ' H' → Ex H' H'' → Rep.rel K H'' v x →
      gt v σ' H'' fun σ2 H2 => tb { D with nx := fun σ3 H3 => Ey H1 H3 ∧ Pv (pre ++ [x]) σ3 H3, ct := fun σ3 H3 => Ey H1 H3 ∧ Pv (pre ++ [x]) σ3 H3, bk := u D } σ2 H2)
    (hd : ∀ σ' H', Ey H H' → Pv xs σ' H' → u D σ' H') : tSeq (tFor wi gt tb) u D σ H := for_wk K (D := { D with nx := u D }) h Pv h0 hs hd
/-! ### comprehensions -/
theorem er_lc [Imm β] {wi : TI} {xs : List α} {vs : List Nat} {gt : TG} (f : α → Bool) (g : α → β) (h : Wk K wi σ H xs) (hz : xs.length ≤ 100000)
    (ht : ∀ x v H1, x ∈ xs → Ex H H1 → Rep.rel K H1 v x → ∀ Q : L2.St → Hp → Prop, (∀ σ2 H2, Ex H1 H2 → wipe σ2 vs = wipe σ vs → ET K tt σ2 H2 (f x) → (f x = true → ER K te σ2 H2 (g x)) → Q σ2 H2) → gt v (wipe σ vs) H1 Q) :
    ER K (tLc wi gt tt te vs) σ H ((xs.filter f).map g) := fun H0 e Q q => by
  refine h H0 e _ fun J H2 G Y e2 w hG hY => ?_
  intro Dl hD
  have hx0 : ∀ i x, xs[i]? = some x → xs.take (i + 1) = xs.take i ++ [x] := fun i x hx => by
    rw [List.take_add_one, hx]
    rfl
  refine lc_it w (fun i H' => Ex H2 H' ∧ ∃ ws, H' Dl = some (.lst ws) ∧ rels K H' ws (((xs.take i).filter f).map g)) ⟨Ex.new hD, [], upd_same, by rw [List.take_zero]; exact .nil⟩ (fun i H' _ p => hG H' p.1.y) (fun i v H' H'' hi p y => ?_) (fun H' p => ?_)
  · obtain ⟨p1, ws, p2, p3⟩ := p
    obtain ⟨e3, x, hx, r⟩ := hY i H' v H'' hi p1.y y
    have hm : x ∈ xs := List.mem_of_getElem? hx
    refine ht x v H'' hm ((e.trans e2).trans (p1.trans e3)) r _ fun σ2 H3 e4 hw t1 t2 => ⟨hw, ?_⟩
    refine t1 H3 (Ex.refl _) _ fun H4 e5 => ?_
    have hl : ws.length ≤ i := by
      rw [rels_len p3, List.length_map]
      exact Nat.le_trans (List.length_filter_le ..) (by rw [List.length_take]; omega)
    have p1' : Ex H2 H4 := ((p1.trans e3).trans e4).trans e5
    have p2' : H4 Dl = some (.lst ws) := e5 _ _ (e4 _ _ (e3 _ _ p2))
    cases hf : f x with
    | true =>
      show te σ2 H4 _
      refine t2 hf H4 e5 _ fun y H5 e6 ry => ⟨ws, e6 _ _ p2', sz_lt (by omega), Ex.mut (p1'.trans e6) hD, ws ++ [y], upd_same, ?_⟩
      have fin : rels K H5 (ws ++ [y]) (((xs.take (i + 1)).filter f).map g) := by
        rw [hx0 i x hx, List.filter_append, List.map_append, List.filter_cons, if_pos hf]
        exact rels_snoc (rels_mono ((((e3.trans e4).trans e5)).trans e6) p3) ry
      exact rels_imm (e6 _ _ p2') fin
    | false =>
      show Ex H2 H4 ∧ _
      refine ⟨p1', ws, p2', ?_⟩
      rw [hx0 i x hx, List.filter_append, List.map_append, List.filter_cons, if_neg (by rw [hf]; decide)]
      show rels K H4 ws (_ ++ [])
      rw [List.append_nil]
      exact rels_mono ((e3.trans e4).trans e5) p3
  · obtain ⟨p1, ws, p2, p3⟩ := p
    rw [List.take_length] at p3
    exact q (.ref Dl) H' (e2.trans p1) ⟨Dl, ws, rfl, p2, p3⟩
end

section
variable {α β γ : Type} [Rep α] [Rep β] [Rep γ] {K : PySem.W.Frag} {σ : L2.St} {H H' : Hp} {te tl ta tb tc : TE} {u : TS} {D : Ends} {tt : TT} {tA : TA} {i j : Int}
theorem er_lcY [Imm β] {wi : TI} {xs : List α} {vs : List Nat} {gt : TG} (g : α → β) (h : Wk K wi σ H xs) (hz : xs.length ≤ 100000)
    (ht : ∀ x v H1, x ∈ xs → Ex H H1 → Rep.rel K H1 v x → ∀ Q : L2.St → Hp → Prop, (∀ σ2 H2, Ex H1 H2 → wipe σ2 vs = wipe σ vs → ER K te σ2 H2 (g x) → Q σ2 H2) → gt v (wipe σ vs) H1 Q) :
    ER K (tLc wi gt tYes te vs) σ H (xs.map g) := by
  have z := er_lc (tt := tYes) (te := te) (vs := vs) (gt := gt) (fun _ => true) g h hz fun x v H1 hx e r Q q => ht x v H1 hx e r Q fun σ2 H2 e2 hw t2 => q σ2 H2 e2 hw (fun H3 _ Q' q' => q' H3 (Ex.refl _)) (fun _ => t2)
  have ef : xs.filter (fun _ => true) = xs := List.filter_eq_self.mpr fun _ _ => rfl
  rw [ef] at z
  exact z
/-- the target is one name: its slot is set in the turn, wiped behind -/
theorem gn_ok {n : Nat} {s0 : L2.St} {s1 : V → L2.St} {v : V} {H1 : Hp} {Q : L2.St → Hp → Prop} {vs : List Nat} (h0 : wipe σ vs = s0) (hs : SetAt s0 n v (s1 v)) (hw : wipe (s1 v) vs = s0) (q : wipe (s1 v) vs = wipe σ vs → Q (s1 v) H1) : gName n v (wipe σ vs) H1 Q := by
  show Q ((wipe σ vs).set n (some v)) H1
  rw [h0, hs.eq]
  exact q (by rw [hw, h0])
/-! ### built-ins -/
theorem er_all {bs : List Bool} (h : ER K ta σ H bs) : ER K (tCB (rAll K) (tCons ta tNil)) σ H (bs.all id) := fun H1 e Q q => h H1 e _ fun v H2 e2 ⟨a, vs, hv, hs, hr⟩ => ⟨a, bs, by rw [hv], by rw [← rels_bls hr]; exact sq_of hs, q _ H2 e2 rfl⟩
theorem er_any {bs : List Bool} (h : ER K ta σ H bs) : ER K (tCB (rAny K) (tCons ta tNil)) σ H (bs.any id) := fun H1 e Q q => h H1 e _ fun v H2 e2 ⟨a, vs, hv, hs, hr⟩ => ⟨a, bs, by rw [hv], by rw [← rels_bls hr]; exact sq_of hs, q _ H2 e2 rfl⟩
theorem er_sum {ns : List Int} (h : ER K ta σ H ns) : ER K (tCB (rSum K) (tCons ta tNil)) σ H ns.sum := fun H1 e Q q => h H1 e _ fun v H2 e2 ⟨a, vs, hv, hs, hr⟩ => ⟨a, ns, by rw [hv], by rw [← rels_ints hr]; exact sq_of hs, q _ H2 e2 rfl⟩
abbrev rLenQ (K : PySem.W.Frag) : List V → Hp → VK → Prop := fun xs H Q => ∃ p ys, xs = [.ref p] ∧ (SqL K H p ys ∨ SqT K H p ys) ∧ Q (.int ys.length) H
theorem er_lenL {xs : List α} (h : ER K ta σ H xs) : ER K (tCB (rLenQ K) (tCons ta tNil)) σ H (xs.length : Int) := fun H1 e Q q => h H1 e _ fun v H2 e2 ⟨a, vs, hv, hs, hr⟩ => ⟨a, vs, by rw [hv], .inl (sq_of hs), by
  rw [rels_len hr]
  exact q _ H2 e2 rfl⟩
theorem er_lenT {xs : Tpl α} (h : ER K ta σ H xs) : ER K (tCB (rLenQ K) (tCons ta tNil)) σ H (xs.l.length : Int) := fun H1 e Q q => h H1 e _ fun v H2 e2 ⟨a, vs, hv, hs, hr⟩ => ⟨a, vs, by rw [hv], .inr hs, by
  rw [rels_len hr]
  exact q _ H2 e2 rfl⟩
abbrev rLenZ : List V → Hp → VK → Prop := fun xs H Q => ∃ z, xs = [.str z] ∧ z.length ≤ sizeLine ∧ Q (.int z.length) H
theorem er_lenS {z : Str} (h : ER K ta σ H z) (hz : z.length ≤ 100000) : ER K (tCB rLenZ (tCons ta tNil)) σ H (z.length : Int) := fun H1 e Q q => h H1 e _ fun v H2 e2 r => ⟨z, by rw [r], sz_of hz, q _ H2 e2 rfl⟩
abbrev rAbs : List V → Hp → VK → Prop := fun xs H Q => ∃ i, xs = [.int i] ∧ Q (.int (if i < 0 then -i else i)) H
theorem er_abs (h : ER K ta σ H i) : ER K (tCB rAbs (tCons ta tNil)) σ H (if i < 0 then -i else i) := fun H1 e Q q => h H1 e _ fun v H2 e2 r => ⟨i, by rw [r], q _ H2 e2 rfl⟩
abbrev rMax2' : List V → Hp → VK → Prop := fun xs H Q => ∃ i j, xs = [.int i, .int j] ∧ Q (.int (if j > i then j else i)) H
abbrev rMin2' : List V → Hp → VK → Prop := fun xs H Q => ∃ i j, xs = [.int i, .int j] ∧ Q (.int (if j < i then j else i)) H
theorem er_max2 (h : ER K ta σ H i) (h2 : ER K tb σ H j) : ER K (tCB rMax2' (tCons ta (tCons tb tNil))) σ H (max i j) := fun H1 e Q q => h H1 e _ fun v H2 e2 r => h2 H2 (e.trans e2) _ fun w H3 e3 r2 => ⟨i, j, by rw [r, r2], by
  have z : (if j > i then j else i) = max i j := by
    split <;> omega
  rw [z]
  exact q _ H3 (e2.trans e3) rfl⟩
theorem er_min2 (h : ER K ta σ H i) (h2 : ER K tb σ H j) : ER K (tCB rMin2' (tCons ta (tCons tb tNil))) σ H (min i j) := fun H1 e Q q => h H1 e _ fun v H2 e2 r => h2 H2 (e.trans e2) _ fun w H3 e3 r2 => ⟨i, j, by rw [r, r2], by
  have z : (if j < i then j else i) = min i j := by
    split <;> omega
  rw [z]
  exact q _ H3 (e2.trans e3) rfl⟩
abbrev rInt1 : List V → Hp → VK → Prop := fun xs H Q => (∃ i, xs = [.int i] ∧ Q (.int i) H) ∨ ∃ k, xs = [.bl k] ∧ Q (.int (if k then 1 else 0)) H
theorem er_int1 (h : ER K ta σ H i) : ER K (tCB rInt1 (tCons ta tNil)) σ H i := fun H1 e Q q => h H1 e _ fun v H2 e2 r => .inl ⟨i, by rw [r], q _ H2 e2 rfl⟩
theorem er_intB {b : Bool} (h : ER K ta σ H b) : ER K (tCB rInt1 (tCons ta tNil)) σ H (if b then (1 : Int) else 0) := fun H1 e Q q => h H1 e _ fun v H2 e2 r => .inr ⟨b, by rw [r], q _ H2 e2 rfl⟩
/-! ### displays -/
def EAs (K : PySem.W.Frag) (ta : TA) (σ : L2.St) (H : Hp) (xs : List α) : Prop := ∀ H1, Ex H H1 → ∀ Q : List V → Hp → Prop, (∀ vs H2, Ex H1 H2 → rels K H2 vs xs → Q vs H2) → ta σ H1 Q
theorem eas_nil : EAs (α := α) K tNil σ H [] := fun H1 _ Q q => q [] H1 (Ex.refl _) .nil
theorem eas_cons {x : α} {xs : List α} {tr : TA} (h : ER K te σ H x) (hr : EAs K tr σ H xs) : EAs K (tCons te tr) σ H (x :: xs) := fun H1 e Q q => h H1 e _ fun v H2 e2 r => hr H2 (e.trans e2) _ fun vs H3 e3 rs => q _ H3 (e2.trans e3) (.cons (Rep.mono e3 r) rs)
theorem er_lst {xs : List α} (h : EAs K tA σ H xs) (hl : xs.length ≤ 100000) : ER K (tLst tA) σ H xs := fun H1 e Q q => h H1 e _ fun vs H2 e2 rs => ⟨by rw [rels_len rs]; exact sz_of hl, fun p hp =>
  have n := Ex.new (o := .lst vs) hp
  q _ _ (e2.trans n) ⟨p, vs, rfl, upd_same, rels_mono n rs⟩⟩
theorem er_tpl {xs : List α} (h : EAs K tA σ H xs) (hl : xs.length ≤ 100000) : ER K (tTup tA) σ H (Tpl.mk xs) := fun H1 e Q q => h H1 e _ fun vs H2 e2 rs => ⟨by rw [rels_len rs]; exact sz_of hl, fun p hp =>
  have n := Ex.new (o := .tup vs) hp
  q _ _ (e2.trans n) ⟨p, vs, rfl, st_of upd_same, rels_mono n rs⟩⟩
theorem er_cat {xs ys : List α} (h : ER K ta σ H xs) (h2 : ER K tb σ H ys) (hl : xs.length + ys.length ≤ 100000) : ER K (tOp rCat ta tb) σ H (xs ++ ys) := fun H1 e Q q => h H1 e _ fun v H2 e2 ⟨a, vs, hv, hs, hr⟩ => h2 H2 (e.trans e2) _ fun w H3 e3 ⟨b, ws, hw, hs', hr'⟩ =>
  ⟨a, b, vs, ws, hv, hw, e3 _ _ hs, hs', by rw [rels_len hr, rels_len hr']; exact sz_of hl, fun p hp =>
    have n := Ex.new (o := .lst (vs ++ ws)) hp
    q _ _ ((e2.trans e3).trans n) ⟨p, vs ++ ws, rfl, upd_same, rels_mono n (rels_app (rels_mono e3 hr) hr')⟩⟩
/-- an item of a list, of a tuple -/
theorem er_ixL {xs : List α} {x : α} (h : ER K ta σ H xs) (h2 : ER K tb σ H i) (hx : atI xs i = some x) : ER K (tOp (rIxL K) ta tb) σ H x := fun H1 e Q q => h H1 e _ fun v H2 e2 ⟨a, vs, hv, hs, hr⟩ => h2 H2 (e.trans e2) _ fun w H3 e3 r2 => by
  have hl := rels_len hr
  obtain ⟨k, hk, hx2⟩ := Option.bind_eq_some_iff.mp hx
  obtain ⟨w', hw, rw'⟩ := rels_at hr hx2
  exact ⟨a, vs, i, w', hv, r2, sq_of (e3 _ _ hs), by unfold atI; rw [hl, hk]; exact hw, q w' H3 (e2.trans e3) (Rep.mono e3 rw')⟩
theorem er_ixT {xs : Tpl α} {x : α} (h : ER K ta σ H xs) (h2 : ER K tb σ H i) (hx : atI xs.l i = some x) : ER K (tOp (rIxT K) ta tb) σ H x := fun H1 e Q q => h H1 e _ fun v H2 e2 ⟨a, vs, hv, hs, hr⟩ => h2 H2 (e.trans e2) _ fun w H3 e3 r2 => by
  have hl := rels_len hr
  obtain ⟨k, hk, hx2⟩ := Option.bind_eq_some_iff.mp hx
  obtain ⟨w', hw, rw'⟩ := rels_at hr hx2
  exact ⟨a, vs, i, w', hv, r2, ex_t e3 hs, by unfold atI; rw [hl, hk]; exact hw, q w' H3 (e2.trans e3) (Rep.mono e3 rw')⟩
end

/-! ### any data -/
section
variable {K : PySem.W.Frag} {σ : L2.St} {H H' : Hp} {te tl ta tb tc : TE}
mutual
theorem dp_mono (e : Ey H H') : ∀ (d : PyData) (v : V), Dp K H v d → Dp K H' v d
  | .none, _, .non => .non
  | .bool b, _, .bl _ => .bl b
  | .int i, _, .int _ => .int i
  | .str x, _, .str _ => .str x
  | .list ds, _, .lst hs hr => .lst (ey_l e hs) (dpAll_mono e ds _ hr)
  | .tuple ds, _, .tup hs hr => .tup (ey_t e hs) (dpAll_mono e ds _ hr)
theorem dpAll_mono (e : Ey H H') : ∀ (ds : List PyData) (vs : List V), DpAll K H vs ds → DpAll K H' vs ds
  | [], _, .nil => .nil
  | d :: ds, _, .cons h hr => .cons (dp_mono e d _ h) (dpAll_mono e ds _ hr)
end
instance : Rep PyData := ⟨fun K H v d => Dp K H v d, fun e h => dp_mono e _ _ h⟩
class Enc (α : Type) [Rep α] where
  enc : α → PyData
  dp : ∀ {K : PySem.W.Frag} {H : Hp} {v : V} {x : α}, Rep.rel K H v x → Dp K H v (enc x)
instance : Enc Int := ⟨.int, fun h => by cases h; exact .int _⟩
instance : Enc Bool := ⟨.bool, fun h => by cases h; exact .bl _⟩
instance : Enc Str := ⟨.str, fun h => by cases h; exact .str _⟩
instance : Enc Sg := ⟨fun s => .str ⟨#[s.c]⟩, fun h => by cases h; exact .str _⟩
instance : Enc Unit := ⟨fun _ => .none, fun h => by cases h; exact .non⟩
instance : Enc PyData := ⟨id, id⟩
def Fld.enc (f : Fld) : PyData := .tuple [.int f.low, .int f.high, .int f.step, .int f.base, .str f.off, .str f.ends, .int f.big]
instance : Enc Fld := ⟨Fld.enc, fun ⟨a, h, hs⟩ => by
  subst h
  exact .tup hs (.cons (.int _) (.cons (.int _) (.cons (.int _) (.cons (.int _) (.cons (.str _) (.cons (.str _) (.cons (.int _) .nil)))))))⟩
instance {α β : Type} [Rep α] [Rep β] [Enc α] [Enc β] : Enc (α × β) := ⟨fun x => .tuple [Enc.enc x.1, Enc.enc x.2], fun ⟨a, v1, v2, h, hs, h1, h2⟩ => by
  subst h
  exact .tup hs (.cons (Enc.dp h1) (.cons (Enc.dp h2) .nil))⟩
instance {α β γ : Type} [Rep α] [Rep β] [Rep γ] [Enc α] [Enc β] [Enc γ] : Enc (Tri α β γ) := ⟨fun x => .tuple [Enc.enc x.a, Enc.enc x.b, Enc.enc x.c], fun ⟨a, v1, v2, v3, h, hs, h1, h2, h3⟩ => by
  subst h
  exact .tup hs (.cons (Enc.dp h1) (.cons (Enc.dp h2) (.cons (Enc.dp h3) .nil)))⟩
theorem rels_dp {α : Type} [Rep α] [Enc α] {vs : List V} {xs : List α} (h : rels K H vs xs) : DpAll K H vs (xs.map Enc.enc) := by
  induction h with
  | nil => exact .nil
  | cons r _ ih => exact .cons (Enc.dp r) ih
instance {α : Type} [Rep α] [Enc α] : Enc (List α) := ⟨fun xs => .list (xs.map Enc.enc), fun ⟨a, vs, h, hs, hr⟩ => by
  subst h
  exact .lst (sq_of hs) (rels_dp hr)⟩
instance {α : Type} [Rep α] [Enc α] : Enc (Tpl α) := ⟨fun xs => .tuple (xs.l.map Enc.enc), fun ⟨a, vs, h, hs, hr⟩ => by
  subst h
  exact .tup hs (rels_dp hr)⟩
instance {α : Type} [Rep α] [Enc α] : Enc (Option α) := ⟨fun x => match x with
  | none => .none
  | some y => Enc.enc y, fun {K H v x} h => by
    cases x with
    | none =>
      have h1 : v = .non := h
      subst h1
      exact .non
    | some y => exact Enc.dp (x := y) h⟩
theorem er_enc {α : Type} [Rep α] [Enc α] {x : α} (h : ER K te σ H x) : ER K te σ H (Enc.enc x) := fun H1 e Q q => h H1 e Q fun v H2 e2 r => q v H2 e2 (Enc.dp r)
def tyN : PyData → String
  | .none => "NoneType"
  | .bool _ => "bool"
  | .int _ => "int"
  | .str _ => "str"
  | .list _ => "list"
  | .tuple _ => "tuple"
  | .dict _ => "dict"
theorem dp_ty {v : V} : ∀ {d : PyData}, Dp K H v d → TyX K H v (.type (tyN d))
  | .none, .non => .base .non
  | .bool b, .bl _ => .base (.bl b)
  | .int i, .int _ => .base (.int i)
  | .str x, .str _ => .base (.str x)
  | .list ds, .lst hs hr => by
    rcases hs with (h | ⟨o, h⟩) | ⟨o, its, n, hk, hc, _⟩
    · exact .base (.lst h)
    · exact .base (.frz h)
    · exact .kList hk hc
  | .tuple ds, .tup hs hr => by
    rcases hs with (h | ⟨o, h⟩) | ⟨o, its, n, hk, hc, _⟩
    · exact .base (.tup h)
    · exact .fTuple h
    · exact .kTuple hk hc
theorem er_isi {d : PyData} {T : String} {b : Bool} (h : ER K ta σ H d) (hk : kitB (tyN d) T = some b) : ER K (tCB (rIsi K) (tCons ta (tCons (tC (.ty T)) tNil))) σ H b := fun H1 e Q q =>
  h H1 e _ fun v H2 e2 r => ⟨v, .ty T, _, _, b, rfl, .ty T, dp_ty r, kit_ty hk, q _ H2 e2 rfl⟩
/-- deep == -/
theorem er_eqD {x y : PyData} (ha : ER K ta σ H x) (hb : ER K tb σ H y) (h1 : SeqAt.shaped x = true) (h2 : SeqAt.shaped y = true) : ER K (tOp (rEqD K) ta tb) σ H (PyData.eqv x y) := fun H1 e Q q =>
  ha H1 e _ fun v H2 e2 r => hb H2 (e.trans e2) _ fun w H3 e3 r2 => ⟨x, y, dp_mono e3.y _ _ r, r2, h1, h2, q _ H3 (e2.trans e3) rfl⟩
theorem er_neD {x y : PyData} (ha : ER K ta σ H x) (hb : ER K tb σ H y) (h1 : SeqAt.shaped x = true) (h2 : SeqAt.shaped y = true) : ER K (tOp (rNeD K) ta tb) σ H (!PyData.eqv x y) := fun H1 e Q q =>
  ha H1 e _ fun v H2 e2 r => hb H2 (e.trans e2) _ fun w H3 e3 r2 => ⟨x, y, dp_mono e3.y _ _ r, r2, h1, h2, q _ H3 (e2.trans e3) rfl⟩
/-- a text in a tuple of texts -/
theorem in_strs {s : Str} {xs : List Str} : inV (.str s) (xs.map V.str) = decide (s ∈ xs) := by
  unfold inV
  induction xs with
  | nil => rfl
  | cons x r ih =>
    rw [List.map_cons, List.any_cons, ih]
    show (x == s || _) = _
    rw [Bool.eq_iff_iff]
    simp only [Bool.or_eq_true, beq_iff_eq, decide_eq_true_eq, List.mem_cons]
    constructor
    · rintro (h | h)
      · exact .inl h.symm
      · exact .inr h
    · rintro (h | h)
      · exact .inl h.symm
      · exact .inr h
theorem flat_strs {xs : List Str} : (xs.map V.str).all flatV = true := by
  rw [List.all_map]
  exact List.all_eq_true.mpr fun _ _ => rfl
theorem er_inT {s : Str} {xs : Tpl Str} (ha : ER K ta σ H s) (hb : ER K tb σ H xs) : ER K (tOp (rIn K false) ta tb) σ H (decide (s ∈ xs.l)) := fun H1 e Q q =>
  ha H1 e _ fun v H2 e2 r => hb H2 (e.trans e2) _ fun w H3 e3 ⟨p, vs, hw, hs, hr⟩ => by
    cases r
    have h1 := rels_strs hr
    subst h1
    exact ⟨p, _, hw, .inr hs, rfl, flat_strs, q _ H3 (e2.trans e3) (by rw [if_neg Bool.false_ne_true, in_strs]; rfl)⟩
end

/-! ### more statements -/
section
variable {α β : Type} [Rep α] [Rep β] {σ σ' : L2.St} {H : Hp} {te ta tb : TE} {D : Ends} {u : TS} {n m : Nat} {g : TGs}
theorem q_unpP (K : PySem.W.Frag) {x : α × β} (h : ER K te σ H x) (k : ∀ v1 v2 H1, Ex H H1 → Rep.rel K H1 v1 x.1 → Rep.rel K H1 v2 x.2 → g [v1, v2] σ H1 fun σ' H' => u D σ' H') : tSeq (tAsg te (gTup K 2 g)) u D σ H := h H (Ex.refl H) _ fun v H1 e ⟨a, v1, v2, hv, hs, r1, r2⟩ =>
  ⟨a, [v1, v2], hv, hs, rfl, k v1 v2 H1 e r1 r2⟩
theorem q_unpII (K : PySem.W.Frag) {x : Int × Int} (h : ER K te σ H x) (k : ∀ H1, Ex H H1 → g [.int x.1, .int x.2] σ H1 fun σ' H' => u D σ' H') : tSeq (tAsg te (gTup K 2 g)) u D σ H := q_unpP K h fun v1 v2 H1 e r1 r2 => by
  cases r1
  cases r2
  exact k H1 e
theorem q_par (K : PySem.W.Frag) {s1 s2 : V → V → L2.St} {x : α} {y : β} (h : ER K ta σ H x) (h2 : ∀ H1, Ex H H1 → ER K tb σ H1 y) (hs1 : ∀ v w, SetAt σ n v (s1 v w)) (hs2 : ∀ v w, SetAt (s1 v w) m w (s2 v w))
    (k : ∀ v w H1, Ex H H1 → Rep.rel K H1 v x → Rep.rel K H1 w y → u D (s2 v w) H1) : tSeq (tPar n m (tCons ta (tCons tb tNil))) u D σ H := h H (Ex.refl H) _ fun v H1 e r => h2 H1 e H1 (Ex.refl H1) _ fun w H2 e2 r2 => ⟨v, w, rfl, by
  show u D ((σ.set n (some v)).set m (some w)) H2
  rw [(hs1 v w).eq, (hs2 v w).eq]
  exact k v w H2 (e.trans e2) (Rep.mono e2 r) r2⟩
theorem q_raise {D : Ends} {σ : L2.St} {H : Hp} (h : False) {t : TS} : t D σ H := h.elim
end

/-! ### a written dict, read by a text -/
section
variable {K : PySem.W.Frag} {σ : L2.St} {H : Hp} {tk tv ty ta te : TE} {trs : List (TE × TE)} {i j : Int}
def EPs (K : PySem.W.Frag) (trs : List (TE × TE)) (σ : L2.St) (H : Hp) (ps : List (Str × Int)) : Prop := ∀ H1, Ex H H1 → ∀ Q : List (V × V) → Hp → Prop, (∀ H2, Ex H1 H2 → Q (ps.map fun p => (V.str p.1, V.int p.2)) H2) → tPairs trs σ H1 Q
theorem eps_nil : EPs K [] σ H [] := fun H1 _ _ q => q H1 (Ex.refl _)
theorem eps_cons {s : Str} {ps : List (Str × Int)} (h : ER K tv σ H i) (hr : EPs K trs σ H ps) : EPs K ((tC (.str s), tv) :: trs) σ H ((s, i) :: ps) := fun H1 e Q q => by
  show tv σ H1 _
  exact h H1 e _ fun v H2 e2 r => by
    cases r
    exact hr H2 (e.trans e2) _ fun H3 e3 => q H3 (e2.trans e3)
theorem er_dsp {ps : List (Str × Int)} {s : Str} (h : EPs K trs σ H ps) (hk : ER K ty σ H s) (hl : ps.length ≤ 15) (hv : valV (mergeK [] (ps.map fun p => ((Sum.inr p.1 : Key), V.int p.2))) (Sum.inr s) = some (.int i)) :
    ER K (tDGet (tDisp trs) ty) σ H i := fun H1 e Q q => by
  show ∀ p, H1 p = none → _
  intro p hp
  refine h _ (e.trans (Ex.new hp)) _ fun H2 e2 => ⟨e2 p _ upd_same, ps.map (fun p => ((Sum.inr p.1 : Key), V.int p.2)), ?_, by rw [List.length_map]; exact hl, ?_⟩
  · rw [List.map_map]
    rfl
  have e4 : Ex H1 (upd H2 p (.dK (mergeK [] (ps.map fun p => ((Sum.inr p.1 : Key), V.int p.2))))) := Ex.mut ((Ex.new hp).trans e2) hp
  refine hk _ (e.trans e4) _ fun v H3 e3 r => ?_
  cases r
  exact ⟨p, .int i, rfl, hv ▸ DGet.k (k := Sum.inr s) (e3 p _ upd_same), q _ H3 (e4.trans e3) rfl⟩
theorem er_sg {c : Nat} (h : ER K te σ H (Sg.mk c)) : ER K te σ H (⟨#[c]⟩ : Str) := fun H1 e Q q => h H1 e Q fun v H2 e2 r => q v H2 e2 r
/-! ### tuples told by their places -/
theorem er_ixq {α : Type} [Rep α] {x : α} {p : Addr} {xs : List V} {k : Nat} {n : Int} {w : V} (h : σ[k]? = some (some (.ref p))) (hs : SqT K H p xs) (hx : atI xs n = some w) (r : Rep.rel K H w x) : ER K (tOp (rIxT K) (tVar k) (tC (.int n))) σ H x := fun H1 e Q q =>
  ⟨.ref p, h, p, xs, n, w, rfl, rfl, ex_t e hs, hx, q w H1 (Ex.refl _) (Rep.mono e r)⟩
theorem cutV_rels {α : Type} [Rep α] {vs : List V} {xs : List α} (h : rels K H vs xs) (lo hi : Option Int) : rels K H (cutV vs lo hi) ((xs.drop (HT.sIx xs.length 0 lo)).take (HT.sIx xs.length xs.length hi - HT.sIx xs.length 0 lo)) := by
  have hl := rels_len h
  unfold cutV
  rw [hl]
  generalize HT.sIx xs.length 0 lo = a
  generalize HT.sIx xs.length xs.length hi - a = b
  have hd : ∀ (n : Nat) (vs : List V) (xs : List α), rels K H vs xs → rels K H (vs.drop n) (xs.drop n) := by
    intro n
    induction n with
    | zero => intro vs xs h; exact h
    | succ n ih =>
      intro vs xs h
      cases h with
      | nil => exact .nil
      | cons _ t => exact ih _ _ t
  have ht : ∀ (n : Nat) (vs : List V) (xs : List α), rels K H vs xs → rels K H (vs.take n) (xs.take n) := by
    intro n
    induction n with
    | zero => intro vs xs h; exact .nil
    | succ n ih =>
      intro vs xs h
      cases h with
      | nil => exact .nil
      | cons r t => exact .cons r (ih _ _ t)
  exact ht b _ _ (hd a _ _ h)
theorem er_slT {α : Type} [Rep α] {xs : Tpl α} {ys : List α} {tl th : TO} (lo hi : Option Int) (h : ER K te σ H xs) (hl : ∀ (Q : Option Int → Hp → Prop) H1, Q lo H1 → tl σ H1 Q) (hh : ∀ (Q : Option Int → Hp → Prop) H1, Q hi H1 → th σ H1 Q)
    (hn : ¬ (HT.sIx xs.l.length 0 lo = 0 ∧ HT.sIx xs.l.length xs.l.length hi = xs.l.length)) (hy : (xs.l.drop (HT.sIx xs.l.length 0 lo)).take (HT.sIx xs.l.length xs.l.length hi - HT.sIx xs.l.length 0 lo) = ys) : ER K (tSl (rSlT K) te tl th) σ H (Tpl.mk ys) := fun H1 e Q q =>
  h H1 e _ fun v H2 e2 ⟨a, vs, hv, hs, hr⟩ => hl _ _ (hh _ _ ⟨a, vs, hv, hs, by rw [rels_len hr]; exact hn, fun p hp => by
    have n := Ex.new (o := .tup (cutV vs lo hi)) hp
    exact q _ _ (e2.trans n) ⟨p, _, rfl, st_of upd_same, by rw [← hy]; exact rels_mono n (cutV_rels hr lo hi)⟩⟩)
theorem dpAll_rels {vs : List V} : ∀ {ds : List PyData}, DpAll K H vs ds → rels K H vs ds := by
  induction vs with
  | nil =>
    intro ds h
    cases h
    exact .nil
  | cons v vs ih =>
    intro ds h
    cases h with
    | cons h1 h2 => exact .cons h1 (ih h2)
end
theorem g_name1 {i : Nat} {v : V} {σ σ' : L2.St} {H : Hp} {Q : L2.St → Hp → Prop} (s : SetAt σ i v σ') (k : Q σ' H) : gName i v σ H Q := by
  show Q (σ.set i (some v)) H
  rw [s.eq]
  exact k

/-! ### the source of draws: a list of two ints, of which only that it is one is told -/
inductive Src where
  | mk
instance : Rep Src := ⟨fun _ H v _ => ∃ S, v = .ref S ∧ H S = some (SrcO S), fun e ⟨S, h1, h2⟩ => ⟨S, h1, ey_src e h2⟩⟩
section
variable {P : Program} {w : World} {K : PySem.W.Frag} {mg : Str → Option Value} {base : Heap} {k : Nat} {f : Addr} {fd : FuncData} {ps : List Str} {sp : Sp}
theorem src_new {h : Heap} {H : Hp} {S : Addr} {x y : Int} (hs : ObjOk P w H h S (.lst [.int x, .int y])) (h0 : 0 ≤ y) (h1 : y < 2147483647) {H' : Hp} : ObjOk P w H' h S (SrcO S) := by
  obtain ⟨_, its, n, r, e⟩ := hs
  exact ⟨⟨x, y, its, n, h0, h1, r, e⟩, ⟨_, e⟩, fun h1 h2 ⟨x, y, its, n, a, b, r, e⟩ k => ⟨x, y, its, n, a, b, r, k _ e⟩⟩
theorem src_get {h : Heap} {H : Hp} {S : Addr} (hs : ObjOk P w H h S (SrcO S)) : ∃ x y : Int, 0 ≤ y ∧ y < 2147483647 ∧ ∀ H', ObjOk P w H' h S (.lst [.int x, .int y]) := by
  obtain ⟨⟨x, y, its, n, a, b, r, e⟩, _⟩ := hs
  exact ⟨x, y, a, b, fun _ => ⟨by show 2 ≤ sizeLine; decide, its, n, r, e⟩⟩
/-- a def that hands back a source -/
theorem toSrc (F : FnOk P w K mg base CX0 k f fd ps sp) : FnOk P w K mg base CX0 k f fd ps (fun vs H Q E => sp vs H (fun v H' => ∃ S x y, 0 ≤ y ∧ y < 2147483647 ∧ H' S = some (.lst [.int x, .int y]) ∧ Q v (upd H' S (SrcO S))) E) := by
  refine ⟨fun vs H Q E h => F.len _ _ _ _ h, fun A outer s H args us vs Q E hr e0 hb hv hs => ?_⟩
  refine codeAny_mono (F.run A outer s H args us vs _ E hr e0 hb hv hs) fun r s' hq => ?_
  cases r with
  | error e => exact hq
  | ok fl =>
    cases fl with
    | ret u =>
      obtain ⟨v, H', e1, e2, e3, e4, e5, S, x, y, y0, y1, hS, q⟩ := hq
      have mu : Mut (H' S) := by
        rw [hS]
        exact trivial
      obtain ⟨_, its, n, _, eo⟩ := e4 S _ hS
      exact ⟨v, _, e1, e2, e3.trans (Un.write (o := SrcO S) mu (.inl rfl) (fun _ _ _ q => q) ⟨_, eo⟩), e4.write mu (.inl rfl) (fun _ _ _ q => q) ⟨_, eo⟩ (src_new (e4 S _ hS) y0 y1), e5, q⟩
    | _ => exact hq
/-- a def that is given one -/
theorem ofSrc (F : FnOk P w K mg base CX0 k f fd ps sp) (len : ∀ vs H Q E, sp vs H Q E → vs.length = ps.length) : FnOk P w K mg base CX0 k f fd ps (fun vs H Q E => ∃ S, H S = some (SrcO S) ∧ ∀ x y : Int, 0 ≤ y → y < 2147483647 → sp vs (upd H S (.lst [.int x, .int y])) Q E) := by
  refine ⟨fun vs H Q E h => ?_, fun A outer s H args us vs Q E hr e0 hb hv hs => ?_⟩
  · obtain ⟨S, _, h⟩ := h
    exact len _ _ _ _ (h 0 0 (by omega) (by omega))
  obtain ⟨S, hS, hs⟩ := hs
  obtain ⟨x, y, y0, y1, hn⟩ := src_get (e0.hok S _ hS)
  have mu : Mut (H S) := by
    rw [hS]
    exact trivial
  obtain ⟨_, its, n, _, eo⟩ := hn H
  have ne : ∀ b, H b = none → b ≠ S := fun b hb z => by
    rw [z, hS] at hb
    cases hb
  have e1 : Env0 P w K mg base A outer s (upd H S (.lst [.int x, .int y])) := ⟨e0.frames, e0.mod, fun b o hb => ⟨(e0.bs b o hb).1, by rw [upd_ne (ne b (e0.bs b o hb).2)]; exact (e0.bs b o hb).2⟩, e0.bsz, e0.funs, fun b hb => by rw [upd_ne (ne b (e0.frf b hb))]; exact e0.frf b hb,
    e0.hok.write mu (.inl rfl) (fun _ _ _ q => q) ⟨_, eo⟩ (hn _), e0.bare⟩
  refine codeAny_mono (F.run A outer s _ args us vs Q E hr e1 hb hv (hs x y y0 y1)) fun r s' hq => ?_
  cases r with
  | error e => exact (show False from hq).elim
  | ok fl =>
    cases fl with
    | ret u =>
      obtain ⟨v, H', e2, e3, e4, e5, e6, q⟩ := hq
      exact ⟨v, H', e2, e3, (Un.write (o := .lst [.int x, .int y]) mu (.inl rfl) (fun _ _ _ q => q) ⟨_, eo⟩).trans e4, e5, e6, q⟩
    | _ => exact hq
end

/-! ### what evaluates to some datum with a property -/
section
variable {α β γ : Type} [Rep α] [Rep β] [Rep γ] {K : PySem.W.Frag} {σ σ' : L2.St} {H H' : Hp} {ta tb te ts : TE} {tA : TA} {E : XK} {u : TS} {D : Ends}
def EN (K : PySem.W.Frag) (te : TE) (σ : L2.St) (H : Hp) (P : α → Prop) : Prop := ∀ H1, Ex H H1 → ∀ Q : VK, (∀ x v H2, P x → Ex H1 H2 → Rep.rel K H2 v x → Q v H2) → te σ H1 Q
theorem en_of {P : α → Prop} {x : α} (h : ER K te σ H x) (hp : P x) : EN K te σ H P := fun H1 e Q q => h H1 e Q fun v H2 e2 r => q x v H2 hp e2 r
theorem en_imp {P P' : α → Prop} (h : EN K te σ H P) (hp : ∀ x, P x → P' x) : EN K te σ H P' := fun H1 e Q q => h H1 e Q fun x v H2 p e2 r => q x v H2 (hp x p) e2 r
theorem en_II {r : R2} {P1 P2 : Int → Prop} {P : β → Prop} (ha : EN K ta σ H P1) (hb : EN K tb σ H P2) (hr : ∀ i j H1 (Q : VK), P1 i → P2 j → (∀ x v, P x → Rep.rel K H1 v x → Q v H1) → r (.int i) (.int j) H1 Q) : EN K (tOp r ta tb) σ H P := fun H1 e Q q =>
  ha H1 e _ fun i v1 H2 p1 e2 r1 => hb H2 (e.trans e2) _ fun j v2 H3 p2 e3 r2 => by
    cases r1
    cases r2
    exact hr i j H3 Q p1 p2 fun x v p rv => q x v H3 p (e2.trans e3) rv
theorem en_add {P1 P2 P : Int → Prop} (ha : EN K ta σ H P1) (hb : EN K tb σ H P2) (h : ∀ i j, P1 i → P2 j → P (i + j)) : EN K (tOp (rI0 fun i j => .int (i + j)) ta tb) σ H P := en_II ha hb fun i j H1 Q p1 p2 q => ⟨i, j, rfl, rfl, q _ _ (h i j p1 p2) rfl⟩
theorem en_sub {P1 P2 P : Int → Prop} (ha : EN K ta σ H P1) (hb : EN K tb σ H P2) (h : ∀ i j, P1 i → P2 j → P (i - j)) : EN K (tOp (rI0 fun i j => .int (i - j)) ta tb) σ H P := en_II ha hb fun i j H1 Q p1 p2 q => ⟨i, j, rfl, rfl, q _ _ (h i j p1 p2) rfl⟩
theorem en_mul {P1 P2 P : Int → Prop} (ha : EN K ta σ H P1) (hb : EN K tb σ H P2) (h : ∀ i j, P1 i → P2 j → CMul i j ∧ P (i * j)) : EN K (tOp (rI CMul fun i j => .int (i * j)) ta tb) σ H P := en_II ha hb fun i j H1 Q p1 p2 q => ⟨i, j, rfl, rfl, (h i j p1 p2).1, q _ _ (h i j p1 p2).2 rfl⟩
theorem en_div {P1 P2 P : Int → Prop} (ha : EN K ta σ H P1) (hb : EN K tb σ H P2) (h : ∀ i j, P1 i → P2 j → CDivW i j ∧ P (i / j)) : EN K (tOp (rI CDivW fun i j => .int (i / j)) ta tb) σ H P := en_II ha hb fun i j H1 Q p1 p2 q => ⟨i, j, rfl, rfl, (h i j p1 p2).1, q _ _ (h i j p1 p2).2 rfl⟩
theorem en_eqI {P1 P2 : Int → Prop} (ha : EN K ta σ H P1) (hb : EN K tb σ H P2) : EN K (tOp rEq ta tb) σ H (fun _ : Bool => True) := en_II ha hb fun i j H1 Q p1 p2 q => ⟨rfl, q (decide (V.int i = V.int j)) _ trivial rfl⟩
theorem en_min2 {P1 P2 P : Int → Prop} (ha : EN K ta σ H P1) (hb : EN K tb σ H P2) (h : ∀ i j, P1 i → P2 j → P (min i j)) : EN K (tCB rMin2' (tCons ta (tCons tb tNil))) σ H P := fun H1 e Q q =>
  ha H1 e _ fun i v1 H2 p1 e2 r1 => hb H2 (e.trans e2) _ fun j v2 H3 p2 e3 r2 => ⟨i, j, by rw [r1, r2], by
    have z : (if j < i then j else i) = min i j := by
      split <;> omega
    rw [z]
    exact q _ _ H3 (h i j p1 p2) (e2.trans e3) rfl⟩
theorem en_max2 {P1 P2 P : Int → Prop} (ha : EN K ta σ H P1) (hb : EN K tb σ H P2) (h : ∀ i j, P1 i → P2 j → P (max i j)) : EN K (tCB rMax2' (tCons ta (tCons tb tNil))) σ H P := fun H1 e Q q =>
  ha H1 e _ fun i v1 H2 p1 e2 r1 => hb H2 (e.trans e2) _ fun j v2 H3 p2 e3 r2 => ⟨i, j, by rw [r1, r2], by
    have z : (if j > i then j else i) = max i j := by
      split <;> omega
    rw [z]
    exact q _ _ H3 (h i j p1 p2) (e2.trans e3) rfl⟩
/-- n data, each with a property -/
def ENs (K : PySem.W.Frag) (tA : TA) (σ : L2.St) (H : Hp) (n : Nat) (P : α → Prop) : Prop := ∀ H1, Ex H H1 → ∀ Q : List V → Hp → Prop, (∀ (xs : List α) vs H2, xs.length = n → (∀ x ∈ xs, P x) → Ex H1 H2 → rels K H2 vs xs → Q vs H2) → tA σ H1 Q
theorem ens_nil {P : α → Prop} : ENs K tNil σ H 0 P := fun H1 _ Q q => q [] [] H1 rfl (fun _ h => nomatch h) (Ex.refl _) .nil
theorem ens_cons {P : α → Prop} {n : Nat} (h : EN K te σ H P) (hr : ENs K tA σ H n P) : ENs K (tCons te tA) σ H (n + 1) P := fun H1 e Q q => h H1 e _ fun x v H2 p e2 r => hr H2 (e.trans e2) _ fun xs vs H3 l pa e3 rs =>
  q (x :: xs) _ H3 (by rw [List.length_cons, l]) (fun y hy => by
    rcases List.mem_cons.mp hy with z | z
    · rw [z]
      exact p
    · exact pa y z) (e2.trans e3) (.cons (Rep.mono e3 r) rs)
theorem en_lst {P : α → Prop} {n : Nat} (h : ENs K tA σ H n P) (hn : n ≤ 100000) : EN K (tLst tA) σ H (fun xs : List α => xs.length = n ∧ ∀ x ∈ xs, P x) := fun H1 e Q q => h H1 e _ fun xs vs H2 l pa e2 rs => ⟨by rw [rels_len rs, l]; exact sz_of hn, fun p hp =>
  have n := Ex.new (o := .lst vs) hp
  q xs _ _ ⟨l, pa⟩ (e2.trans n) ⟨p, vs, rfl, upd_same, rels_mono n rs⟩⟩
theorem en_tup2 {P1 : α → Prop} {P2 : β → Prop} (ha : EN K ta σ H P1) (hb : EN K tb σ H P2) : EN K (tTup (tCons ta (tCons tb tNil))) σ H (fun x : α × β => P1 x.1 ∧ P2 x.2) := fun H1 e Q q =>
  ha H1 e _ fun x v1 H2 p1 e2 r1 => hb H2 (e.trans e2) _ fun y v2 H3 p2 e3 r2 => ⟨sz_of (by show 2 ≤ 100000; decide), fun p hp =>
    have n := Ex.new (o := .tup [v1, v2]) hp
    q (x, y) (.ref p) _ ⟨p1, p2⟩ ((e2.trans e3).trans n) ⟨p, v1, v2, rfl, st_of upd_same, Rep.mono (e3.trans n) r1, Rep.mono n r2⟩⟩
/-! the promises of draws -/
def SP_draw (K : PySem.W.Frag) : Sp := fun vs H Q _ => ∃ v n, vs = [v, .int n] ∧ Rep.rel K H v Src.mk ∧ 1 ≤ n ∧ n ≤ 1000000000000000000000000 ∧ ∀ d H', 0 ≤ d → d < n → Ex H H' → Q (.int d) H'
def SP_choice (K : PySem.W.Frag) : Sp := fun vs H Q _ => ∃ v l xs, vs = [v, .ref l] ∧ Rep.rel K H v Src.mk ∧ H l = some (.lst xs) ∧ 1 ≤ xs.length ∧ xs.length ≤ 100000 ∧ ∀ x H', x ∈ xs → Ex H H' → Q x H'
theorem en_draw {P1 P : Int → Prop} (hs : ER K ts σ H Src.mk) (ha : EN K ta σ H P1) (h : ∀ n, P1 n → 1 ≤ n ∧ n ≤ 1000000000000000000000000) (hp : ∀ n d, P1 n → 0 ≤ d → d < n → P d) : EN K (tCall (SP_draw K) [] E (tCons ts (tCons ta tNil))) σ H P := fun H1 e Q q =>
  hs H1 e _ fun v1 H2 e2 r1 => ha H2 (e.trans e2) _ fun n v2 H3 p1 e3 r2 => by
    cases r2
    exact ⟨v1, n, rfl, Rep.mono e3 r1, (h n p1).1, (h n p1).2, fun d H' d0 d1 e4 => q d _ H' (hp n d p1 d0 d1) ((e2.trans e3).trans e4) rfl⟩
theorem rels_mem {vs : List V} {xs : List α} (h : rels K H vs xs) {v : V} (hv : v ∈ vs) : ∃ x, x ∈ xs ∧ Rep.rel K H v x := by
  obtain ⟨i, hi⟩ := List.getElem?_of_mem hv
  obtain ⟨x, h1, h2⟩ := rels_get h hi
  exact ⟨x, List.mem_of_getElem? h1, h2⟩
theorem en_choice {P : α → Prop} (hs : ER K ts σ H Src.mk) (ha : EN K ta σ H (fun xs : List α => 1 ≤ xs.length ∧ xs.length ≤ 100000 ∧ ∀ x ∈ xs, P x)) : EN K (tCall (SP_choice K) [] E (tCons ts (tCons ta tNil))) σ H P := fun H1 e Q q =>
  hs H1 e _ fun v1 H2 e2 r1 => ha H2 (e.trans e2) _ fun xs v2 H3 ⟨p1, p2, p3⟩ e3 ⟨l, vs, hv, hl, hr⟩ => by
    subst hv
    refine ⟨v1, l, vs, rfl, Rep.mono e3 r1, hl, by rw [rels_len hr]; exact p1, by rw [rels_len hr]; exact p2, fun v H' hm e4 => ?_⟩
    obtain ⟨x, hx, rx⟩ := rels_mem hr hm
    exact q x v H' (p3 x hx) ((e2.trans e3).trans e4) (Rep.mono e4 rx)
/-- .. of a written list -/
theorem en_pick {P : α → Prop} {n : Nat} (hs : ER K ts σ H Src.mk) (ha : ENs K tA σ H n P) (h1 : 1 ≤ n) (h2 : n ≤ 100000) : EN K (tCall (SP_choice K) [] E (tCons ts (tCons (tLst tA) tNil))) σ H P :=
  en_choice hs (en_imp (en_lst ha h2) fun xs ⟨l, p⟩ => ⟨by omega, by omega, p⟩)
theorem n_set (K : PySem.W.Frag) {P : α → Prop} {n : Nat} {s' : V → L2.St} (h : EN K te σ H P) (s : ∀ v, SetAt σ n v (s' v)) (k : ∀ x v H1, P x → Ex H H1 → Rep.rel K H1 v x → u D (s' v) H1) : tSeq (tAsg te (gName n)) u D σ H := h H (Ex.refl H) _ fun x v H1 p e r => by
  show u D (σ.set n (some v)) H1
  rw [(s v).eq]
  exact k x v H1 p e r
theorem nl_set (K : PySem.W.Frag) {P : α → Prop} {n : Nat} {s' : V → L2.St} (h : EN K te σ H P) (s : ∀ v, SetAt σ n v (s' v)) (k : ∀ x v H1, P x → Ex H H1 → Rep.rel K H1 v x → D.nx (s' v) H1) : tAsg te (gName n) D σ H := h H (Ex.refl H) _ fun x v H1 p e r => by
  show D.nx (σ.set n (some v)) H1
  rw [(s v).eq]
  exact k x v H1 p e r
theorem n_setI (K : PySem.W.Frag) {P : Int → Prop} {n : Nat} {s' : V → L2.St} (h : EN K te σ H P) (s : ∀ v, SetAt σ n v (s' v)) (k : ∀ i H1, P i → Ex H H1 → u D (s' (.int i)) H1) : tSeq (tAsg te (gName n)) u D σ H := n_set K h s fun x v H1 p e r => by
  cases r
  exact k x H1 p e
theorem n_par (K : PySem.W.Frag) {n m : Nat} {s1 s2 : V → V → L2.St} {P1 : α → Prop} {P2 : β → Prop} (h : EN K ta σ H P1) (h2 : ∀ H1, Ex H H1 → EN K tb σ H1 P2) (hs1 : ∀ v w, SetAt σ n v (s1 v w)) (hs2 : ∀ v w, SetAt (s1 v w) m w (s2 v w))
    (k : ∀ x y v w H1, P1 x → P2 y → Ex H H1 → Rep.rel K H1 v x → Rep.rel K H1 w y → u D (s2 v w) H1) : tSeq (tPar n m (tCons ta (tCons tb tNil))) u D σ H := h H (Ex.refl H) _ fun x v H1 p1 e r => h2 H1 e H1 (Ex.refl H1) _ fun y w H2 p2 e2 r2 => ⟨v, w, rfl, by
  show u D ((σ.set n (some v)).set m (some w)) H2
  rw [(hs1 v w).eq, (hs2 v w).eq]
  exact k x y v w H2 p1 p2 (e.trans e2) (Rep.mono e2 r) r2⟩
theorem n_ret (K : PySem.W.Frag) {P : α → Prop} {Q : VK} {nx bk ct} (h : EN K te σ H P) (k : ∀ x v H1, P x → Ex H H1 → Rep.rel K H1 v x → Q v H1) : tRet te ⟨nx, Q, bk, ct⟩ σ H := h H (Ex.refl H) _ fun x v H1 p e r => k x v H1 p e r
end

/-! ### texts and their signs -/
section
variable {K : PySem.W.Frag} {σ : L2.St} {H : Hp} {ta te to : TE}
def rListZ : List V → Hp → VK → Prop := fun xs H Q => ∃ z, xs = [.str z] ∧ z.length ≤ 100000 ∧ ∀ l, H l = none → Q (.ref l) (upd H l (.lst (z.cps.toList.map fun c => V.str ⟨#[c]⟩)))
theorem call_listZ {X : Cx} (hc : X.calm = true) : CallR X (.type "list") rListZ := by
  intro pins s σ H xs us Q I r h
  obtain ⟨z, rfl, hz, q⟩ := h
  obtain ⟨u, rfl, rx⟩ := vals1 r
  obtain ⟨t, rfl⟩ := rx
  refine PySem.call_list_str (I.ok.hd hc) z t (fun h' tk acc' c' kp e hi => ?_) (sz_of hz)
  refine ⟨.ref s.heap.objs.size, _, I.laid (t' := tk) kp (Nat.le_refl _) (show ObjOk X.prog X.w _ h' _ (.lst (z.cps.toList.map fun c => V.str ⟨#[c]⟩)) from ⟨?_, acc'.toList, c', ?_, e⟩), rfl, q _ (I.hok.fresh (Nat.le_refl _))⟩
  · rw [List.length_map, Array.length_toList]
    exact sz_of hz
  · have go : ∀ (n : Nat) (cs : List Nat) (vs : List Value), cs.length = n → vs.length = n → (∀ (i : Nat) (v : Value), vs[i]? = some v → ∃ c u, cs[i]? = some c ∧ v = Value.str ⟨#[c]⟩ u) → Vals (cs.map fun c => V.str ⟨#[c]⟩) vs := by
      intro n
      induction n with
      | zero =>
        intro cs vs h1 h2 _
        have e1 := List.length_eq_zero_iff.mp h1
        have e2 := List.length_eq_zero_iff.mp h2
        subst e1
        subst e2
        exact .nil
      | succ n ih =>
        intro cs vs h1 h2 hh
        match cs, vs, h1, h2 with
        | c :: cs, v :: vs, h1, h2 =>
          obtain ⟨c', u, hc', hv⟩ := hh 0 v rfl
          cases hc'
          exact .cons ⟨u, hv⟩ (ih cs vs (by simpa using h1) (by simpa using h2) fun i w hw => hh (i + 1) w (by simpa using hw))
    refine go z.cps.size _ _ (by simp) (by rw [Array.length_toList]; exact hi.1) fun i v hv => ?_
    obtain ⟨c, u, h1, h2⟩ := hi.2 i v (by rw [← Array.getElem?_toList]; exact hv)
    exact ⟨c, u, by rw [Array.getElem?_toList]; exact h1, h2⟩
theorem sgs_rels {cs : List Nat} : rels K H (cs.map fun c => V.str ⟨#[c]⟩) (cs.map Sg.mk) := by
  induction cs with
  | nil => exact .nil
  | cons c r ih => exact .cons rfl ih
theorem er_listZ {z : Str} (h : ER K ta σ H z) (hz : z.length ≤ 100000) : ER K (tCB rListZ (tCons ta tNil)) σ H (sgs z) := fun H1 e Q q => h H1 e _ fun v H2 e2 r => ⟨z, by rw [r], hz, fun l hl =>
  have n := Ex.new (o := .lst (z.cps.toList.map fun c => .str ⟨#[c]⟩)) hl
  q _ _ (e2.trans n) ⟨l, _, rfl, upd_same, sgs_rels⟩⟩
theorem en_listZ {P : Str → Prop} (h : EN K ta σ H P) (hz : ∀ z, P z → z.length ≤ 100000) : EN K (tCB rListZ (tCons ta tNil)) σ H (fun xs : List Sg => ∃ z, P z ∧ xs = sgs z) := fun H1 e Q q => h H1 e _ fun z v H2 p e2 r => ⟨z, by rw [r], hz z p, fun l hl =>
  have n := Ex.new (o := .lst (z.cps.toList.map fun c => .str ⟨#[c]⟩)) hl
  q (sgs z) _ _ ⟨z, p, rfl⟩ (e2.trans n) ⟨l, _, rfl, upd_same, sgs_rels⟩⟩
def unsg (xs : List Sg) : Str := ⟨(xs.map Sg.c).toArray⟩
theorem unsg_codes (xs : List Sg) : (unsg xs).cps.toList = xs.map Sg.c := by simp [unsg]
theorem unsg_len (xs : List Sg) : (unsg xs).length = xs.length := by
  show (xs.map Sg.c).toArray.size = _
  simp
theorem sg_strs {vs : List V} {xs : List Sg} (h : rels K H vs xs) : vs = (xs.map fun s => (⟨#[s.c]⟩ : Str)).map V.str := by
  induction h with
  | nil => rfl
  | cons r _ ih =>
    cases r
    rw [ih]
    rfl
theorem sg_sum (xs : List Sg) : ((xs.map fun s => (⟨#[s.c]⟩ : Str)).map (·.length)).sum = xs.length := by
  induction xs with
  | nil => rfl
  | cons s r ih =>
    simp only [List.map_cons, List.sum_cons, List.length_cons]
    rw [ih]
    show 1 + _ = _
    omega
theorem sg_flat (xs : List Sg) : ((xs.map fun s => (⟨#[s.c]⟩ : Str)).map fun z => z.cps.toList).flatten = xs.map Sg.c := by
  induction xs with
  | nil => rfl
  | cons s r ih =>
    simp only [List.map_cons, List.flatten_cons]
    rw [ih]
    rfl
abbrev rJoinQ (K : PySem.W.Frag) : V → List V → Hp → VK → Prop := fun x xs H Q => ∃ a p, ∃ ys : List Str, x = .str a ∧ xs = [.ref p] ∧ (SqL K H p (ys.map V.str) ∨ SqT K H p (ys.map V.str)) ∧ (ys.map (·.length)).sum + ys.length * a.length ≤ 16777216 ∧ Q (.str (Txt.join a ys)) H
theorem tl_joinE (ys : List Str) : (Txt.join (Str.ofString "") ys).cps.toList = (ys.map fun z => z.cps.toList).flatten := by
  have h : ∀ ps : List (List Nat), TL.joinL [] ps = ps.flatten := by
    intro ps
    induction ps with
    | nil => rfl
    | cons p r ih =>
      cases r with
      | nil => simp [TL.joinL]
      | cons q r =>
        show p ++ ([] ++ TL.joinL [] (q :: r)) = p ++ (q :: r).flatten
        rw [ih]
        rfl
  rw [TL.join_eq]
  exact (TL.tl_join _ ys).trans (h _)
/-- ''.join of signs -/
theorem er_joinG {xs : List Sg} (h : ER K te σ H xs) (hl : xs.length ≤ 100000) : ER K (tM1 (rJoinQ K) (tC (.str "")) te) σ H (unsg xs) := fun H1 e Q q => ⟨⟨_, rfl⟩, h H1 e _ fun v H2 e2 ⟨a, vs, hv, hs, hr⟩ => by
  subst hv
  have hvs := sg_strs hr
  subst hvs
  refine ⟨_, a, _, rfl, rfl, .inl (sq_of hs), ?_, q _ H2 e2 ?_⟩
  · rw [sg_sum, List.length_map]
    show xs.length + xs.length * 0 ≤ _
    omega
  · show V.str _ = V.str _
    congr 1
    have h1 := (tl_joinE (xs.map fun s => (⟨#[s.c]⟩ : Str))).trans (sg_flat xs)
    have e3 : ∀ a b : Str, a.cps.toList = b.cps.toList → a = b := by
      intro a b h
      obtain ⟨⟨a⟩⟩ := a
      obtain ⟨⟨b⟩⟩ := b
      have h' : a = b := h
      rw [h']
    exact e3 _ _ (h1.trans (unsg_codes xs).symm)⟩
end

/-! ### promises of defs that draw -/
section
variable {α β γ ε δ : Type} [Rep α] [Rep β] [Rep γ] [Rep ε] [Rep δ]
def spn2 (K : PySem.W.Frag) (pre : α → β → Prop) (post : α → β → δ → Prop) : Sp := fun vs H Q _ => ∃ x y a b, vs = [x, y] ∧ Rep.rel K H x a ∧ Rep.rel K H y b ∧ pre a b ∧ ∀ c v H', post a b c → Ex H H' → Rep.rel K H' v c → Q v H'
def spn3 (K : PySem.W.Frag) (pre : α → β → γ → Prop) (post : α → β → γ → δ → Prop) : Sp := fun vs H Q _ => ∃ x y z a b c, vs = [x, y, z] ∧ Rep.rel K H x a ∧ Rep.rel K H y b ∧ Rep.rel K H z c ∧ pre a b c ∧ ∀ d v H', post a b c d → Ex H H' → Rep.rel K H' v d → Q v H'
variable {K : PySem.W.Frag} {σ : L2.St} {H : Hp} {ta tb tc td : TE} {E : XK} {a : α} {b : β} {c : γ}
theorem en_call2 {pre : α → β → Prop} {post : α → β → δ → Prop} (ha : ER K ta σ H a) (hb : ER K tb σ H b) (hp : pre a b) : EN K (tCall (spn2 K pre post) [] E (tCons ta (tCons tb tNil))) σ H (post a b) := fun H1 e Q q =>
  ha H1 e _ fun v1 H2 e2 r1 => hb H2 (e.trans e2) _ fun v2 H3 e3 r2 => ⟨v1, v2, a, b, rfl, Rep.mono e3 r1, r2, hp, fun c v H' p e' r => q c v H' p ((e2.trans e3).trans e') r⟩
/-- the second argument drawn -/
theorem en_call2n {pre : α → β → Prop} {post : α → β → δ → Prop} {P1 : β → Prop} {P : δ → Prop} (ha : ER K ta σ H a) (hb : EN K tb σ H P1) (hp : ∀ b, P1 b → pre a b) (h : ∀ b c, P1 b → post a b c → P c) : EN K (tCall (spn2 K pre post) [] E (tCons ta (tCons tb tNil))) σ H P := fun H1 e Q q =>
  ha H1 e _ fun v1 H2 e2 r1 => hb H2 (e.trans e2) _ fun b v2 H3 p1 e3 r2 => ⟨v1, v2, a, b, rfl, Rep.mono e3 r1, r2, hp b p1, fun c v H' p e' r => q c v H' (h b c p1 p) ((e2.trans e3).trans e') r⟩
theorem en_call3 {pre : α → β → γ → Prop} {post : α → β → γ → δ → Prop} (ha : ER K ta σ H a) (hb : ER K tb σ H b) (hc : ER K tc σ H c) (hp : pre a b c) : EN K (tCall (spn3 K pre post) [] E (tCons ta (tCons tb (tCons tc tNil)))) σ H (post a b c) := fun H1 e Q q =>
  ha H1 e _ fun v1 H2 e2 r1 => hb H2 (e.trans e2) _ fun v2 H3 e3 r2 => hc H3 ((e.trans e2).trans e3) _ fun v3 H4 e4 r3 =>
    ⟨v1, v2, v3, a, b, c, rfl, Rep.mono (e3.trans e4) r1, Rep.mono e4 r2, r3, hp, fun d v H' p e' r => q d v H' p (((e2.trans e3).trans e4).trans e') r⟩
variable {P : Program} {w : World} {mg : Str → Option Value} {base : Heap} {x qual : Str} {params : Arguments} {body : List Stmt} {scope : Scope} {dvs : List V} {kws : List (Str × V)} {f : Addr} {fd : FuncData} {N ps : List Str} {k : Nat} {CX : CXT}
theorem okn2 {pre : α → β → Prop} {post : α → β → δ → Prop} (F : FunD K x qual params body scope dvs kws f fd) (S : FnScope N ps scope) (hl : ps.length = 2) (σ0 : V → V → L2.St) (h0 : ∀ x y, start N [x, y] = σ0 x y)
    (h : ∀ (H : Hp) (Q : VK) (x y : V) (a : α) (b : β), Rep.rel K H x a → Rep.rel K H y b → pre a b → (∀ c v H', post a b c → Ex H H' → Rep.rel K H' v c → Q v H') → Body CX P w K mg base k f N qual scope body H Q (σ0 x y)) : FnOk P w K mg base CX (k + 1) f fd ps (spn2 K pre post) := by
  refine F.ok S (fun vs H Q E hs => ?_) (fun cdv A outer s H vs Q E hr hs => ?_)
  · obtain ⟨x, y, a, b, rfl, _⟩ := hs
    exact hl.symm
  · obtain ⟨x, y, a, b, rfl, h1, h2, hp, q⟩ := hs
    rw [h0]
    exact h H Q x y a b h1 h2 hp q cdv A outer s E hr
theorem okn3 {pre : α → β → γ → Prop} {post : α → β → γ → δ → Prop} (F : FunD K x qual params body scope dvs kws f fd) (S : FnScope N ps scope) (hl : ps.length = 3) (σ0 : V → V → V → L2.St) (h0 : ∀ x y z, start N [x, y, z] = σ0 x y z)
    (h : ∀ (H : Hp) (Q : VK) (x y z : V) (a : α) (b : β) (c : γ), Rep.rel K H x a → Rep.rel K H y b → Rep.rel K H z c → pre a b c → (∀ d v H', post a b c d → Ex H H' → Rep.rel K H' v d → Q v H') → Body CX P w K mg base k f N qual scope body H Q (σ0 x y z)) : FnOk P w K mg base CX (k + 1) f fd ps (spn3 K pre post) := by
  refine F.ok S (fun vs H Q E hs => ?_) (fun cdv A outer s H vs Q E hr hs => ?_)
  · obtain ⟨x, y, z, a, b, c, rfl, _⟩ := hs
    exact hl.symm
  · obtain ⟨x, y, z, a, b, c, rfl, h1, h2, h3, hp, q⟩ := hs
    rw [h0]
    exact h H Q x y z a b c h1 h2 h3 hp q cdv A outer s E hr
/-! the source's own two defs -/
def spDraw : Sp := fun vs H Q _ => ∃ S x y n, vs = [.ref S, .int n] ∧ H S = some (.lst [.int x, .int y]) ∧ 0 ≤ y ∧ y < 2147483647 ∧ 1 ≤ n ∧ n ≤ 1000000000000000000000000 ∧
  ∀ d x' y' H', 0 ≤ d → d < n → 0 ≤ y' → y' < 2147483647 → (∀ a o, a ≠ S → H a = some o → H' a = some o) → H' S = some (.lst [.int x', .int y']) → Q (.int d) H'
theorem draw_of {P : Program} (F : FnOk P w K mg base CX0 k f fd ps spDraw) (hl : ps.length = 2) : FnOk P w K mg base CX0 k f fd ps (SP_draw K) := by
  refine FnOk.imp (ofSrc (toSrc F) ?_) ?_
  · intro vs H Q E h
    obtain ⟨S, x, y, n, rfl, _⟩ := h
    exact hl.symm
  · rintro vs H Q E ⟨v, n, rfl, ⟨S, rfl, hS⟩, n1, n2, q⟩
    refine ⟨S, hS, fun x y y0 y1 => ⟨S, x, y, n, rfl, upd_same, y0, y1, n1, n2, fun d x' y' H' d0 d1 y0' y1' hH hS' => ⟨S, x', y', y0', y1', hS', q d _ d0 d1 fun a o ha => ?_⟩⟩⟩
    by_cases z : a = S
    · subst z
      rw [upd_same, ← hS, ha]
    · rw [upd_ne z]
      exact hH a o z (by rw [upd_ne z]; exact ha)
def spSource (K : PySem.W.Frag) : Sp := fun vs H Q _ => ∃ (a : Addr) (ns : List Int) (n : Int), vs = [.ref a, .int n] ∧ SqL K H a (ns.map V.int) ∧ 0 ≤ n ∧ n ≤ 1000000 ∧ ∀ p x y H', H p = none → Ex H H' → 0 ≤ y → y < 2147483647 → H' p = some (.lst [.int x, .int y]) → Q (.ref p) H'
def SP_source (K : PySem.W.Frag) : Sp := fun vs H Q _ => ∃ (a : Addr) (ns : List Int) (n : Int), vs = [.ref a, .int n] ∧ SqL K H a (ns.map V.int) ∧ 0 ≤ n ∧ n ≤ 1000000 ∧ ∀ v H', Ex H H' → Rep.rel K H' v Src.mk → Q v H'
theorem source_of {P : Program} (F : FnOk P w K mg base CX0 k f fd ps (spSource K)) : FnOk P w K mg base CX0 k f fd ps (SP_source K) := by
  refine FnOk.imp (toSrc F) ?_
  rintro vs H Q E ⟨a, ns, n, rfl, hs, n0, n1, q⟩
  exact ⟨a, ns, n, rfl, hs, n0, n1, fun p x y H' hp e y0 y1 hp' => ⟨p, x, y, y0, y1, hp', q _ _ (Ex.mut e hp) ⟨p, rfl, upd_same⟩⟩⟩
end

/-! ### walks over drawn data, comprehensions that draw -/
section
variable {α β γ : Type} [Rep α] [Rep β] [Rep γ] {K : PySem.W.Frag} {σ : L2.St} {H H' : Hp} {te tl ta tb : TE}
def WkN (K : PySem.W.Frag) (wi : TI) (σ : L2.St) (H : Hp) (PX : List α → Prop) : Prop := ∀ H1, Ex H H1 → ∀ R : It → Hp → Prop, (∀ xs J H2 G Y, PX xs → Ex H1 H2 → Walk J xs.length G Y → (∀ H3, Ey H2 H3 → G H3) →
  (∀ i Ha v Hb, i < xs.length → Ey H2 Ha → Y i Ha v Hb → Ex Ha Hb ∧ ∃ x, xs[i]? = some x ∧ Rep.rel K Hb v x) → R J H2) → wi σ H1 R
theorem wkn_of {wi : TI} {xs : List α} (h : Wk K wi σ H xs) : WkN K wi σ H (fun ys => ys = xs) := fun H1 e R k => h H1 e R fun J H2 G Y e2 w hG hY => k xs J H2 G Y rfl e2 w hG hY
theorem wkn_rng1 {P1 : Int → Prop} (h : EN K ta σ H P1) (hn : ∀ n, P1 n → -(2 ^ 62) ≤ n ∧ n < 2 ^ 62) : WkN K (iRng1 (tCons ta tNil)) σ H (fun xs : List Int => ∃ n, P1 n ∧ xs = rng 0 n.toNat) := fun H1 e R k => h H1 e _ fun n v H2 p e2 r => by
  cases r
  refine ⟨n, rfl, (hn n p).1, (hn n p).2, k (rng 0 n.toNat) _ H2 _ _ ⟨n, p, rfl⟩ e2 walk_rng (fun _ _ => trivial) fun i Ha v Hb hi ea y => ?_⟩
  obtain ⟨rfl, rfl⟩ := y
  rw [rng_len] at hi
  exact ⟨Ex.refl _, _, rng_get hi, rfl⟩
theorem en_lcY [Imm β] {wi : TI} {PX : List α → Prop} {vs : List Nat} {gt : TG} (P : α → β → Prop) (h : WkN K wi σ H PX) (hz : ∀ xs, PX xs → xs.length ≤ 100000)
    (ht : ∀ xs x v H1, PX xs → x ∈ xs → Ex H H1 → Rep.rel K H1 v x → ∀ Q : L2.St → Hp → Prop, (∀ σ2 H2, Ex H1 H2 → wipe σ2 vs = wipe σ vs → EN K te σ2 H2 (P x) → Q σ2 H2) → gt v (wipe σ vs) H1 Q) :
    EN K (tLc wi gt tYes te vs) σ H (fun ys : List β => ∃ xs, PX xs ∧ Paired P xs ys) := fun H0 e Q q => by
  refine h H0 e _ fun xs J H2 G Y px e2 w hG hY => ?_
  intro Dl hD
  have hx0 : ∀ i x, xs[i]? = some x → xs.take (i + 1) = xs.take i ++ [x] := fun i x hx => by
    rw [List.take_add_one, hx]
    rfl
  have pl : ∀ (as : List α) (bs : List β), Paired P as bs → bs.length = as.length := by
    intro as bs h
    induction h with
    | nil => rfl
    | cons _ _ ih => simp only [List.length_cons, ih]
  refine lc_it w (fun i H' => Ex H2 H' ∧ ∃ ws ys, H' Dl = some (.lst ws) ∧ rels K H' ws ys ∧ Paired P (xs.take i) ys) ⟨Ex.new hD, [], [], upd_same, .nil, by rw [List.take_zero]; exact .nil⟩ (fun i H' _ p => hG H' p.1.y) (fun i v H' H'' hi p y => ?_) (fun H' p => ?_)
  · obtain ⟨p1, ws, ys, p2, p3, p4⟩ := p
    obtain ⟨e3, x, hx, r⟩ := hY i H' v H'' hi p1.y y
    have hm : x ∈ xs := List.mem_of_getElem? hx
    refine ht xs x v H'' px hm ((e.trans e2).trans (p1.trans e3)) r _ fun σ2 H3 e4 hw t1 => ⟨hw, ?_⟩
    show te σ2 H3 _
    have hl : ws.length ≤ i := by
      rw [rels_len p3, pl _ _ p4, List.length_take]
      omega
    have hz2 := hz xs px
    refine t1 H3 (Ex.refl _) _ fun y v5 H5 py e6 ry => ⟨ws, e6 _ _ (e4 _ _ (e3 _ _ p2)), sz_lt (by omega), Ex.mut (((p1.trans e3).trans e4).trans e6) hD, ws ++ [v5], ys ++ [y], upd_same, ?_, ?_⟩
    · exact rels_imm (e6 _ _ (e4 _ _ (e3 _ _ p2))) (rels_snoc (rels_mono ((e3.trans e4).trans e6) p3) ry)
    · rw [hx0 i x hx]
      exact Paired.snoc p4 py
  · obtain ⟨p1, ws, ys, p2, p3, p4⟩ := p
    rw [List.take_length] at p4
    exact q ys (.ref Dl) H' ⟨xs, px, p4⟩ (e2.trans p1) ⟨Dl, ws, rfl, p2, p3⟩
theorem paired_len {P : α → β → Prop} {as : List α} {bs : List β} (h : Paired P as bs) : bs.length = as.length := by
  induction h with
  | nil => rfl
  | cons _ _ ih => simp only [List.length_cons, ih]
theorem paired_all {P : α → β → Prop} {P2 : β → Prop} {as : List α} {bs : List β} (h : Paired P as bs) (hp : ∀ a b, P a b → P2 b) : ∀ b ∈ bs, P2 b := by
  induction h with
  | nil => exact fun _ h => nomatch h
  | cons r _ ih =>
    intro b hb
    rcases List.mem_cons.mp hb with z | z
    · rw [z]
      exact hp _ _ r
    · exact ih b z
/-- ''.join of drawn signs -/
theorem en_joinG {P : List Sg → Prop} (h : EN K te σ H P) (hl : ∀ xs, P xs → xs.length ≤ 100000) : EN K (tM1 (rJoinQ K) (tC (.str "")) te) σ H (fun z => ∃ xs, P xs ∧ z = unsg xs) := fun H1 e Q q => by
  refine ⟨⟨_, rfl⟩, h H1 e _ fun xs v H2 p e2 r => ?_⟩
  have z := er_joinG (K := K) (te := tC v) (σ := σ) (H := H2) (xs := xs) (fun H3 e3 Q' q' => q' v H3 (Ex.refl _) (Rep.mono e3 r)) (hl xs p)
  obtain ⟨_, z2⟩ := z H2 (Ex.refl _) Q fun v' H3 e3 r3 => q (unsg xs) v' H3 ⟨xs, p, rfl⟩ (e2.trans e3) r3
  exact z2
end

/-! ### a field made; tests that draw; ways that meet again -/
section
variable {α β γ : Type} [Rep α] [Rep β] [Rep γ] {K : PySem.W.Frag} {σ σ' : L2.St} {H H' : Hp} {te tl ta tb tc td t4 t5 t6 : TE} {tt tu : TT} {u t1 t2 : TS} {D : Ends} {i : Int}
theorem er_mkF {f : Fld} (h0 : ER K ta σ H f.low) (h1 : ER K tb σ H f.high) (h2 : ER K tc σ H f.step) (h3 : ER K td σ H f.base) (h4 : ER K t4 σ H f.off) (h5 : ER K t5 σ H f.ends) (h6 : ER K t6 σ H f.big) :
    ER K (tTup (tCons ta (tCons tb (tCons tc (tCons td (tCons t4 (tCons t5 (tCons t6 tNil)))))))) σ H f := fun H1 e Q q =>
  h0 H1 e _ fun v0 H2 e2 r0 => h1 H2 (e.trans e2) _ fun v1 H3 e3 r1 => h2 H3 ((e.trans e2).trans e3) _ fun v2 H4 e4 r2 => h3 H4 (((e.trans e2).trans e3).trans e4) _ fun v3 H5 e5 r3 =>
  h4 H5 ((((e.trans e2).trans e3).trans e4).trans e5) _ fun v4 H6 e6 r4 => h5 H6 (((((e.trans e2).trans e3).trans e4).trans e5).trans e6) _ fun v5 H7 e7 r5 => h6 H7 ((((((e.trans e2).trans e3).trans e4).trans e5).trans e6).trans e7) _ fun v6 H8 e8 r6 => by
    cases r0
    cases r1
    cases r2
    cases r3
    cases r4
    cases r5
    cases r6
    refine ⟨sz_of (by show 7 ≤ 100000; decide), fun p hp => q (.ref p) _ ((((((((e2.trans e3).trans e4).trans e5).trans e6).trans e7).trans e8)).trans (Ex.new hp)) ⟨p, rfl, st_of upd_same⟩⟩
theorem en_c : EN K (tC (.int i)) σ H (fun x => x = i) := en_of er_int rfl
theorem en_s {s : Str} : EN K (tC (.str s)) σ H (fun x => x = s) := en_of er_str rfl
theorem en_v {n : Nat} (h : σ[n]? = some (some (.int i))) : EN K (tVar n) σ H (fun x => x = i) := en_of (er_varI h) rfl
theorem er_powc {i j k : Int} (hc : CPow i j) (hk : i ^ j.toNat = k) : ER K (tOp (rI CPow fun i j => .int (i ^ j.toNat)) (tC (.int i)) (tC (.int j))) σ H k := er_is (er_pow er_int er_int hc) hk
def ETN (K : PySem.W.Frag) (tt : TT) (σ : L2.St) (H : Hp) (P : Bool → Prop) : Prop := ∀ H1, Ex H H1 → ∀ Q : Bool → Hp → Prop, (∀ b H2, P b → Ex H1 H2 → Q b H2) → tt σ H1 Q
theorem etn_of {P : Bool → Prop} {b : Bool} (h : ET K tt σ H b) (hp : P b) : ETN K tt σ H P := fun H1 e Q q => h H1 e Q fun H2 e2 => q b H2 hp e2
theorem etn_t {P : Bool → Prop} (h : EN K te σ H P) : ETN K (tTest te) σ H P := fun H1 e Q q => h H1 e _ fun b v H2 p e2 r => ⟨b, r, q b H2 p e2⟩
theorem etn_b {P : Bool → Prop} (h : EN K te σ H P) : ETN K (tB te) σ H P := fun H1 e Q q => h H1 e _ fun b v H2 p e2 r => ⟨b, r, q b H2 p e2⟩
theorem etn_and {P1 P2 P : Bool → Prop} (h1 : ETN K tt σ H P1) (h2 : P1 true → ETN K tu σ H P2) (hf : P1 false → P false) (ht : ∀ b, P1 true → P2 b → P b) : ETN K (tAnd tt tu) σ H P := fun H1 e Q q => h1 H1 e _ fun b H2 p e2 => by
  cases b with
  | true =>
    show tu σ H2 Q
    exact h2 p H2 (e.trans e2) Q fun c H3 p3 e3 => q c H3 (ht c p p3) (e2.trans e3)
  | false => exact q false H2 (hf p) e2
theorem q_ifN (K : PySem.W.Frag) {P : Bool → Prop} (h : ETN K tt σ H P) (h1 : P true → ∀ H1, Ex H H1 → t1 { D with nx := u D } σ H1) (h2 : P false → ∀ H1, Ex H H1 → t2 { D with nx := u D } σ H1) : tSeq (tIfS tt t1 t2) u D σ H := h H (Ex.refl H) _ fun b H1 p e => by
  cases b with
  | true =>
    show t1 { D with nx := u D } σ H1
    exact h1 p H1 e
  | false =>
    show t2 { D with nx := u D } σ H1
    exact h2 p H1 e
theorem q_ifJ (K : PySem.W.Frag) {P : Bool → Prop} (W : L2.St → Hp → Prop) (hW : ∀ σ' H', W σ' H' → u D σ' H') (h : ETN K tt σ H P) (h1 : ∀ D2 : Ends, (∀ σ' H', W σ' H' → D2.nx σ' H') → P true → ∀ H1, Ex H H1 → t1 D2 σ H1)
    (h2 : ∀ D2 : Ends, (∀ σ' H', W σ' H' → D2.nx σ' H') → P false → ∀ H1, Ex H H1 → t2 D2 σ H1) : tSeq (tIfS tt t1 t2) u D σ H := q_ifN K h (h1 _ hW) (h2 _ hW)
theorem l_ifN (K : PySem.W.Frag) {P : Bool → Prop} (h : ETN K tt σ H P) (h1 : P true → ∀ H1, Ex H H1 → t1 D σ H1) (h2 : P false → ∀ H1, Ex H H1 → t2 D σ H1) : tIfS tt t1 t2 D σ H := h H (Ex.refl H) _ fun b H1 p e => by
  cases b with
  | true =>
    show t1 D σ H1
    exact h1 p H1 e
  | false =>
    show t2 D σ H1
    exact h2 p H1 e
end

section
variable {α β γ : Type} [Rep α] [Rep β] [Rep γ] {K : PySem.W.Frag} {σ σ' : L2.St} {H H' : Hp} {te tl ta tb tc td t4 t5 t6 : TE} {tt tu : TT} {u t1 t2 : TS} {D : Ends} {i : Int} {a b : Bool}
theorem er_BB {r : R2} {z : β} (ha : ER K ta σ H a) (hb : ER K tb σ H b) (hr : ∀ H1 (Q : VK), (∀ v, Rep.rel K H1 v z → Q v H1) → r (.bl a) (.bl b) H1 Q) : ER K (tOp r ta tb) σ H z := fun H1 e Q q =>
  ha H1 e _ fun v1 H2 e2 r1 => hb H2 (e.trans e2) _ fun v2 H3 e3 r2 => by
    cases r1
    cases r2
    exact hr H3 Q fun v rv => q v H3 (e2.trans e3) rv
theorem er_eqB (ha : ER K ta σ H a) (hb : ER K tb σ H b) : ER K (tOp rEq ta tb) σ H (decide (a = b)) := er_BB ha hb fun H1 Q q => ⟨rfl, q _ (by
  show V.bl (decide (V.bl a = V.bl b)) = V.bl (decide (a = b))
  simp only [V.bl.injEq])⟩
theorem er_neB (ha : ER K ta σ H a) (hb : ER K tb σ H b) : ER K (tOp rNe ta tb) σ H (!decide (a = b)) := er_BB ha hb fun H1 Q q => ⟨rfl, q _ (by
  show V.bl (!decide (V.bl a = V.bl b)) = V.bl (!decide (a = b))
  simp only [V.bl.injEq])⟩
theorem q_unpF {n : Nat} {g : TGs} {f : Fld} (hn : n = 7) (h : ER K te σ H f) (k : ∀ H1, Ex H H1 → g f.vs σ H1 fun σ' H' => u D σ' H') : tSeq (tAsg te (gTup K n g)) u D σ H := h H (Ex.refl H) _ fun v H1 e ⟨a, hv, hs⟩ => ⟨a, f.vs, hv, hs, hn.symm, k H1 e⟩
/-- a test that is known -/
theorem q_no (K : PySem.W.Frag) (h : ET K tt σ H false) (k : ∀ H1, Ex H H1 → u D σ H1) : tSeq (tIfS tt t1 tNext) u D σ H := q_if0 K h (fun z => nomatch z) (fun _ => k)
theorem l_no (K : PySem.W.Frag) (h : ET K tt σ H false) (k : ∀ H1, Ex H H1 → D.nx σ H1) : tIfS tt t1 tNext D σ H := l_if0 K h (fun z => nomatch z) (fun _ => k)
theorem et_is {b : Bool} (h : ET K tt σ H a) (e : a = b) : ET K tt σ H b := e ▸ h
theorem sg_eq {c d : Nat} : ((⟨#[c]⟩ : Str) = ⟨#[d]⟩) ↔ c = d := by
  constructor
  · intro h
    have h1 : #[c] = #[d] := congrArg Str.cps h
    have h2 : [c] = [d] := congrArg Array.toList h1
    exact (List.cons.inj h2).1
  · intro h
    rw [h]
theorem er_notInS {c : Sg} {z : Str} (ha : ER K ta σ H c) (hb : ER K tb σ H z) : ER K (tOp rNotInS ta tb) σ H (!decide (c.c ∈ z.cps.toList)) := fun H1 e Q q =>
  ha H1 e _ fun v1 H2 e2 r1 => hb H2 (e.trans e2) _ fun v2 H3 e3 r2 => by
    cases r1
    cases r2
    exact ⟨c.c, z, rfl, rfl, q _ H3 (e2.trans e3) rfl⟩
/-- an int in a list of ints -/
theorem in_ints {i : Int} {xs : List Int} : inV (.int i) (xs.map V.int) = decide (i ∈ xs) := by
  unfold inV
  induction xs with
  | nil => rfl
  | cons x r ih =>
    rw [List.map_cons, List.any_cons, ih]
    show (x == i || _) = _
    rw [Bool.eq_iff_iff]
    simp only [Bool.or_eq_true, beq_iff_eq, decide_eq_true_eq, List.mem_cons]
    constructor
    · rintro (h | h)
      · exact .inl h.symm
      · exact .inr h
    · rintro (h | h)
      · exact .inl h.symm
      · exact .inr h
theorem flat_ints {xs : List Int} : (xs.map V.int).all flatV = true := by
  rw [List.all_map]
  exact List.all_eq_true.mpr fun _ _ => rfl
theorem er_inL {xs : List Int} (ha : ER K ta σ H i) (hb : ER K tb σ H xs) : ER K (tOp (rIn K false) ta tb) σ H (decide (i ∈ xs)) := fun H1 e Q q =>
  ha H1 e _ fun v H2 e2 r => hb H2 (e.trans e2) _ fun w H3 e3 ⟨p, vs, hw, hs, hr⟩ => by
    cases r
    have h1 := rels_ints hr
    subst h1
    exact ⟨p, _, hw, .inl (sq_of hs), rfl, flat_ints, q _ H3 (e2.trans e3) (by rw [if_neg Bool.false_ne_true, in_ints]; rfl)⟩
theorem er_ninL {xs : List Int} (ha : ER K ta σ H i) (hb : ER K tb σ H xs) : ER K (tOp (rIn K true) ta tb) σ H (!decide (i ∈ xs)) := fun H1 e Q q =>
  ha H1 e _ fun v H2 e2 r => hb H2 (e.trans e2) _ fun w H3 e3 ⟨p, vs, hw, hs, hr⟩ => by
    cases r
    have h1 := rels_ints hr
    subst h1
    exact ⟨p, _, hw, .inl (sq_of hs), rfl, flat_ints, q _ H3 (e2.trans e3) (by rw [if_pos rfl, in_ints]; rfl)⟩
end

/-! ### a law's own promise -/
def SP_lawdef (K : PySem.W.Frag) : Sp := fun vs H Q _ => ∃ (a : Addr) (ns : List Int), vs = [.ref a] ∧ SqF K H a (ns.map V.int) ∧ ns.length ≤ 63 ∧ ∀ H', Q (.bl true) H'
section
variable {K : PySem.W.Frag} {σ : L2.St} {H : Hp} {tb : TE} {E : XK}
theorem er_source {a : Addr} {ns : List Int} {n : Int} {i : Nat} (h : σ[i]? = some (some (.ref a))) (hs : SqF K H a (ns.map V.int)) (hb : ER K tb σ H n) (h0 : 0 ≤ n) (h1 : n ≤ 1000000) : ER K (tCall (SP_source K) [] E (tCons (tVar i) (tCons tb tNil))) σ H Src.mk := fun H1 e Q q =>
  ⟨.ref a, h, hb H1 e _ fun v H2 e2 r => by
    cases r
    exact ⟨a, ns, n, rfl, ex_l (e.trans e2) hs.l, h0, h1, fun v H' e3 r => q v H' (e2.trans e3) r⟩⟩
theorem er_lenScript {a : Addr} {ns : List Int} {i : Nat} (h : σ[i]? = some (some (.ref a))) (hs : SqF K H a (ns.map V.int)) : ER K (tCB (rLenQ K) (tCons (tVar i) tNil)) σ H (ns.length : Int) := fun H2 e2 Q q => ⟨.ref a, h, a, ns.map V.int, rfl, .inl (ex_l e2 hs.l), by
  rw [List.length_map]
  exact q _ H2 (Ex.refl _) rfl⟩
end

/-! ### tuples put together -/
section
variable {α β γ : Type} [Rep α] [Rep β] [Rep γ] {K : PySem.W.Frag} {σ σ' : L2.St} {H H' : Hp} {te tl ta tb tc td t4 t5 t6 : TE} {tA : TA} {u t1 t2 : TS} {D : Ends} {i : Int}
def EV (K : PySem.W.Frag) (te : TE) (σ : L2.St) (H : Hp) (vs : List V) : Prop := ∀ H1, Ex H H1 → ∀ Q : VK, (∀ p H2, Ex H1 H2 → SqT K H2 p vs → Q (.ref p) H2) → te σ H1 Q
/-- items that are told by themselves (ints, texts, bools) -/
def EVs (tA : TA) (σ : L2.St) (H : Hp) (vs : List V) : Prop := EvA tA σ H vs
theorem ev_fld {f : Fld} (h : ER K te σ H f) : EV K te σ H f.vs := fun H1 e Q q => h H1 e Q fun v H2 e2 ⟨a, hv, hs⟩ => by
  subst hv
  exact q a H2 e2 hs
theorem ev_slF {vs ys : List V} {tl th : TO} (lo hi : Option Int) (h : EV K te σ H vs) (hl : ∀ (Q : Option Int → Hp → Prop) H1, Q lo H1 → tl σ H1 Q) (hh : ∀ (Q : Option Int → Hp → Prop) H1, Q hi H1 → th σ H1 Q)
    (hn : ¬ (HT.sIx vs.length 0 lo = 0 ∧ HT.sIx vs.length vs.length hi = vs.length)) (hy : cutV vs lo hi = ys) : EV K (tSl (rSlT K) te tl th) σ H ys := fun H1 e Q q =>
  h H1 e _ fun a H2 e2 hs => hl _ _ (hh _ _ ⟨a, vs, rfl, hs, hn, fun p hp => q p _ (e2.trans (Ex.new hp)) (by rw [← hy]; exact st_of upd_same)⟩)
theorem ev_cat {vs ws : List V} (h : EV K ta σ H vs) (h2 : EV K tb σ H ws) (hn : vs ≠ []) (hw : ws ≠ []) (hl : vs.length + ws.length ≤ 100000) : EV K (tOp (rCatT K) ta tb) σ H (vs ++ ws) := fun H1 e Q q =>
  h H1 e _ fun a H2 e2 hs => h2 H2 (e.trans e2) _ fun b H3 e3 hs2 => by
    refine ⟨a, b, vs, ws, rfl, rfl, ex_t e3 hs, hs2, hn, sz_of hl, ?_⟩
    first
      | exact ⟨fun z => absurd z hw, fun _ p hp => q p _ ((e2.trans e3).trans (Ex.new hp)) (st_of upd_same)⟩
      | exact ⟨fun z => absurd z hw, fun p hp => q p _ ((e2.trans e3).trans (Ex.new hp)) (st_of upd_same)⟩
theorem evs_nil : EVs tNil σ H [] := fun H1 _ _ q => q H1 (Ex.refl _)
theorem evs_I {vs : List V} (h : ER K te σ H i) (hr : EVs tA σ H vs) : EVs (tCons te tA) σ H (.int i :: vs) := fun H1 e Q q => h H1 e _ fun v H2 e2 r => by
  cases r
  exact hr H2 (e.trans e2) _ fun H3 e3 => q H3 (e2.trans e3)
theorem evs_S {vs : List V} {s : Str} (h : ER K te σ H s) (hr : EVs tA σ H vs) : EVs (tCons te tA) σ H (.str s :: vs) := fun H1 e Q q => h H1 e _ fun v H2 e2 r => by
  cases r
  exact hr H2 (e.trans e2) _ fun H3 e3 => q H3 (e2.trans e3)
theorem ev_tup {vs : List V} (h : EVs tA σ H vs) (hl : vs.length ≤ 100000) : EV K (tTup tA) σ H vs := fun H1 e Q q => h H1 e _ fun H2 e2 => ⟨sz_of hl, fun p hp => q p _ (e2.trans (Ex.new hp)) (st_of upd_same)⟩
theorem er_ofV {vs : List V} {f : Fld} (h : EV K te σ H vs) (hv : vs = f.vs) : ER K te σ H f := fun H1 e Q q => h H1 e Q fun p H2 e2 hs => q (.ref p) H2 e2 ⟨p, rfl, by rw [← hv]; exact hs⟩
end
end Sf

namespace Sf
open PySem PySem.Spec PyProof.Rows L2 Evl
/-! ### the head: what the top leaves, told by names, tuples of texts too -/
def tabsB (ts : List (Str × List Str)) (K : PySem.W.Frag) : Bool := ts.all fun p => He.tupB K p.1 (p.2.map He.Dv.str)
def obsS (n : Nat) (fa : List He.Fa) (fn : List He.DefD) (ts : List (Str × List Str)) (g : Addr → Option Obj) : He.AlD × Bool := (He.obsDG n fa fn g, tabsB ts (He.frG g (He.asD g n)))
def hookS (n : Nat) (fa : List He.Fa) (fn : List He.DefD) (ts : List (Str × List Str)) : PySem.W.Hook where
  α := He.AlD × Bool
  obs := fun s => obsS n fa fn ts s.heap.get?
  val := fun _ => (He.valD fn, true)
  says := fun _ h => ∃ K : PySem.W.Frag, K.In h ∧ He.SaysD fa fn K ∧ tabsB ts K = true
  of := fun _ _ e => ⟨_, He.frG_in, congrArg (fun z : He.AlD × Bool => z.1) e, congrArg (fun z : He.AlD × Bool => z.2) e⟩
  keeps := fun _ _ _ ⟨K, hK, c⟩ k => ⟨K, PySem.W.Frag.In.keeps hK k, c⟩
theorem obsS_eq {n : Nat} {fa : List He.Fa} {fn : List He.DefD} {ts : List (Str × List Str)} {g : Addr → Option Obj} {s : Shared} (h : ∀ a, g a = s.heap.get? a) : obsS n fa fn ts g = (hookS n fa fn ts).obs s := by
  have e : g = s.heap.get? := funext h
  rw [e] <;> rfl
theorem tab_of {ts : List (Str × List Str)} {K : PySem.W.Frag} (h : tabsB ts K = true) (i : Nat) {p : Str × List Str} (hp : ts[i]? = some p) (H : Hp) : SqT K H (He.ga K p.1) (p.2.map V.str) := by
  have h1 := List.all_eq_true.mp h p (List.mem_of_getElem? hp)
  have h2 := He.tupB_ok h1 H
  rw [List.map_map] at h2
  exact h2
end Sf

/-! ### an own exception below two classes, whose __init__ says super().__init__("..") and keeps one field -/
namespace PySem
namespace ManyX
open PySem.W PySem.Calls PyProof.Rows PySem.HandSPX
abbrev VI : String := "ValueError.__init__"
def iA (p1 p2 : Pos) : Arguments := { posonlyargs := [], args := [{ arg := "self", annotation := none, pos := p1 }, { arg := "limit", annotation := none, pos := p2 }], vararg := none, kwonlyargs := [], kw_defaults := [], kwarg := none, defaults := [] }
def iB (t : Str) (a1 a2 a3 a4 a5 a6 q1 q2 q3 q4 : Pos) : List Stmt := [.Expr (.Call (.Attribute (.Call (.Name "super" a1) [] [] a2) "__init__" a3) [.Constant (.str t) 0 a4] [] a5) a6, .Assign [.Attribute (.Name "self" q1) "limit" q2] (.Name "limit" q3) q4]
def iS : Scope := { kind := .function, names := [(PySem.Str.ofString "self", .local), (PySem.Str.ofString "limit", .local), (PySem.Str.ofString "__class__", .free), (PySem.Str.ofString "super", .globalImplicit)], isGenerator := false, isCoroutine := false, more := [] }
/-- what the written part says of the class at C, of its __init__, at fI, of the cell and the code of that -/
structure ManyTxt (file : Str) (K : Frag) (C fI cc cda : Addr) : Prop where
  cls : ∃ nm q N bs bm sn sub ab col dd k0 k1 k2 k3 k5, K.lookup C = some (excClassObj nm q C N bs bm true sn sub ab col dd k0 k1 k2 k3 k5 "ValueError.__new__") ∧ refsVE bm = true
  sa : findIn K (.ref C) "__setattr__" = some (some (.builtin "object.__setattr__"))
  ga : findIn K (.ref C) "__getattribute__" = some (some (.builtin "BaseException.__getattribute__"))
  gg : findIn K (.ref C) "__getattr__" = some none
  noN : findIn K (.ref C) "limit" = some none
  iC : findIn K (.ref C) "__init__" = some (some (.ref fI))
  tC : typeIn K (.ref fI) = some (.type "function")
  kC : keepIn K (.ref C) = true
  exC : subIn K (.ref C) (.type "BaseException") = some true
  veC : subIn K (.ref C) (.type "ValueError") = some true
  tyC : typeIn K (.ref C) = some (.type "type")
  hdC : hasDictIn K C = true
  te : exmOne K (.ref C) (.ref C) = some true
  su : ks_superIn K C C "__init__" = some (some (.builtin VI))
  op : nsIn K cStatics "thirdparty.any" = some none
  mr : mroIn K C (.ref C) = some true
  cell : ∃ cl cld csl, K.lookup cc = some ⟨cl, cld, .cell (some (.ref C)), csl⟩
  code : ∃ ccl cdd vs ccs tf, K.lookup cda = some ⟨ccl, cdd, .fields vs, ccs⟩ ∧ vs[2]? = some (.str file tf)
  fn : ∃ (t : Str) (oc : Value) (od : Option Addr) (dV kV doc pm : Value) (an : Option Addr) (ct : Value) (osl : Array (Option Value)) (p1 p2 a1 a2 a3 a4 a5 a6 q1 q2 q3 q4 : Pos) (qn : Str),
    K.lookup fI = some ⟨oc, od, .func (ksFn "__init__" qn (iA p1 p2) (iB t a1 a2 a3 a4 a5 a6 q1 q2 q3 q4) iS dV kV doc pm an (.ref cda) ct cc), osl⟩ ∧ codeIn K (.ref cda) qn = true ∧ dV = .none ∧ kV = .none ∧ (a3.endLine == a5.line) = true
section
variable {prog : Program} {w : World} {A : Around} {E : Value → Shared → Prop} {h : Heap} {g : Array GenState} {d : Drawn} {t : Nat} {os : OsState}
variable {nm q : Str} {C N : Addr} {bs bm : List Value} {hdct : Bool} {sn : List Str} {sub : List Value} {ab : Bool} {col : Option Bool} {dd : Option Addr} {k0 k1 k2 k3 k5 : Option Value}
theorem call_mwV {u e t0 : Addr} {rest : List Value} {Q : Value → Shared → Prop}
    (hC : h.get? C = some (excClassObj nm q C N bs bm hdct sn sub ab col dd k0 k1 k2 k3 k5 "ValueError.__new__")) (he : h.get? e = some (HandSPX.excO C t0)) (hu : h.get? u = some (kxs_mw VI e)) (hrest : rest.length ≤ sizeLine)
    (hq : ∀ h' t1, (∀ b o, b ≠ e → h.get? b = some o → h'.get? b = some o) → h'.get? e = some (HandSPX.excO C t1) → Q .none ⟨h', g, d, t, os⟩) :
    wpAny (model prog w) A (call (.ref u) rest) Q E ⟨h, g, d, t, os⟩ := by
  refine wpAny_call (codeAny_of_tree ?_)
  show wpAny _ A.in1 (callAny (.ref u) ⟨rest, []⟩) _ _ _
  simp only [callAny]
  refine wpAny_bind (wpAny_load hu ?_)
  simp only [kxs_mw, show (Value.type "method-wrapper" == Value.type "method" || Value.type "method-wrapper" == Value.type "builtin_function_or_method" || Value.type "method-wrapper" == Value.type "method-wrapper") = true by decide, if_true]
  refine W.KFB.if_so (by decide) ?_
  refine wpAny_bind (check_bound_init F.excBase_ValueError.toExcCallFacts hC he rfl ?_)
  refine wpAny_bind (wpAny_pure (wpAny_pure ?_))
  refine ⟨Code.quiet_builtin _ (by decide +kernel), codeAny_builtin F.excBase_ValueError.initEntry ?_⟩
  rw [Around.under_plainId F.excBase_ValueError.init.plain _]
  wp_walk
  refine hq _ h.objs.size (fun b o hb ho => ?_) ?_
  · rw [Heap.get?_update_other _ _ (Ne.symm hb)]
    exact Heap.get?_push_of_some _ ho
  · rw [Heap.get?_update_self _ (Heap.get?_push_of_some _ he) rfl]
    rfl
end
theorem many_call {prog : Program} {w : World} {A : Around} {c : Code} {E : Value → Shared → Prop} {s : Shared} {env : Env} {o : Expr} {name : Str} {apos pos : Pos} {args : List Expr} {Q : Value → Shared → Prop}
    (hfew : ((backTo pos (starEach args env)).all (fun x => !x.1) && (backToKw pos (keywordEach [] env)).all (fun x => x.1.isSome)
      && decide (args.length + ([] : List Keyword).length + (if ([] : List Keyword).isEmpty then 0 else 1) < 30)) = true)
    (hline : (apos.endLine == pos.line) = true)
    (h : wpAt (model prog w) A c (attributeBase o name env (eval o env)) (fun ov s₁ => ∀ pl, wpAny (model prog w) A (getMethod ov name pl) (fun fx s₂ => wpAny (model prog w) A (callWith pos fx.1 fx.2 (backTo pos (starEach args env)) []) Q E s₂) E s₁) E s) :
    wpAt (model prog w) A c (eval (.Call (.Attribute o name apos) args [] pos) env) Q E s := by
  rw [arm_eval_Call]
  refine wpAt_bind (wpAt_mono h (fun ov s₁ h₁ => ?_) fun _ _ x => x)
  refine wpAt_of_wpAny (wpAny_bind (wpAny_standAt ?_))
  have hform : methodCallForm (args.length + ([] : List Keyword).length) (backTo pos (starEach args env)) (backToKw pos (keywordEach [] env)) = true := hfew
  have hpos : methodCallPos true o env apos pos = pure pos := by unfold methodCallPos; simp [hline]
  unfold methodCall
  rw [hform]
  refine wpAny_bind (wpAny_holding (wpAny_mono (h₁ _) (fun fx s₂ h₂ => ?_) fun _ _ x => x))
  exact wpAny_bind (wpAny_of_eq hpos h₂)
theorem ldX {M : Model} {s : Shared} {name : Str} {scope : Scope} {L a : Addr} {cd : Value} {cells : List (Str × Addr)} {m : Str → Option Value} {x : Str} {pos : Pos} {v : Value} {Q : Value → Shared → Prop} {A : Around} {E : Value → Shared → Prop} (hn : s.heap.Ns L m) (hv : m x = some v) (h : Q v s)
    (hk : scope.kind = .function := by rfl) (hl : (envX name scope L a cd cells).kindOf x = some .local := by rfl) (hd : (x == ("__debug__" : Str)) = false := by decide) :
    wpAny M A (eval (.Name x pos) (envX name scope L a cd cells)) Q E s := wpAny_Name (wpAny_loadName_local hk hl hn hv h) hd
/-- what __init__ leaves of a fresh exception at x -/
structure InitEnd (h h' : Heap) (x C dx t1 : Addr) (v : Value) : Prop where
  keep : ∀ b o, b ≠ x → h.get? b = some o → h'.get? b = some o
  obj : h'.get? x = some { cls := .ref C, dict := some dx, data := .fields #[.ref t1, .none, .none, .none, .bool false, .none] }
  dbig : h.objs.size ≤ dx
  dne : dx ≠ x
  ns : h'.Ns1 dx (fun y => if y = "limit" then some v else none)
section
variable {prog : Program} {w : World} {A : Around} {E : Value → Shared → Prop} {R : Result → Shared → Prop} {s : Shared} {K : Frag} {mg mb : Str → Option Value} {C fI cc cda : Addr}
theorem many_init (T : ManyTxt prog.main.file K C fI cc cda) {x t0 : Addr} {v : Value} (X : K.In s.heap) (hlim : s.heap.NoLimit) (hx : s.heap.get? x = some (excO C t0)) (hnx : K.lookup x = none) (hroom : A.depth < recursionLimit)
    (hg : s.heap.Ns mainGlobals mg) (hms : mg "super" = none) (hb : s.heap.Ns builtinsNs mb) (hmb : mb "super" = some (.type "super")) (htop : (prog.main.scope.names.lookup ("super" : Str)).isSome = false)
    (hq : ∀ h' tk dx t1, InitEnd s.heap h' x C dx t1 v → R (.ok (.ret .none)) { s with heap := h', toks := tk }) :
    codeAny (model prog w) A (.call (.ref fI) ⟨[.ref x, v], []⟩) R s := by
  obtain ⟨t, oc, od, dV, kV, doc, pm, an, ct, osl, p1, p2, a1, a2, a3, a4, a5, a6, q1, q2, q3, q4, qn, ho, hcd, rfl, rfl, hline⟩ := T.fn
  obtain ⟨nm, q, N, bs, bm, sn, sub, ab, col, dd, k0, k1, k2, k3, k5, hC, hbm⟩ := T.cls
  obtain ⟨cl, cld, csl, hcell⟩ := T.cell
  obtain ⟨ccl, cdd, vs, ccs, tf, hcode, hvs⟩ := T.code
  have hcl : clsIn K C = some { name := nm, bases := bs, mro := .ref C :: bm, ns := N, qualname := q, hasDict := true, slotNames := sn, subclasses := sub, abstract := ab, collection := col, hasDel := false } := by unfold clsIn; rw [hC] <;> rfl
  refine ks_codeAny_call_defAt (fd := ksFn "__init__" qn (iA p1 p2) (iB t a1 a2 a3 a4 a5 a6 q1 q2 q3 q4) iS .none .none doc pm an (.ref cda) ct cc) (body := iB t a1 a2 a3 a4 a5 a6 q1 q2 q3 q4) (binds := [("self", .ref x), ("limit", v)]) hroom (X _ _ ho) rfl hlim (codeRec_of X hcd) rfl (BindsTo.of_eq (by first | rfl | with_unfolding_all rfl)) (show ∀ x ∈ iS.names, x.2 ≠ .cell by decide) (fun y hy => by
    rcases List.mem_cons.mp hy with z | z
    · subst z
      rfl
    · rw [List.mem_singleton.mp z]
      rfl) (fun h₁ hn k => ?_)
  have X₁ := X.keeps k
  have hx₁ := k _ _ hx
  have hC₁ := X₁ _ _ hC
  have hxC : x ≠ C := fun e => by rw [e, hC] at hnx; cases hnx
  have hg₁ := hg.keeps k
  have hb₁ := hb.keeps k
  -- super().__init__(t)
  refine ks_wpAt_execs_cons (ks_wpAt_Expr_any (many_call rfl hline ?_))
  refine ks_wpAt_super_base (env := ksEnv qn iS s.heap.objs.size fI (.ref cda) cc) rfl rfl rfl rfl (X₁ _ _ ho) rfl rfl rfl (X₁ _ _ hcode) rfl hvs (by simp) htop ?_
  refine ks_loadName_global rfl rfl (loadGlobal_builtin (env := ksEnv qn iS s.heap.objs.size fI (.ref cda) cc) hg₁ hms hb₁ hmb ⟨rfl, ?_⟩)
  refine wpAny_loadName_free rfl rfl rfl ⟨_, X₁ _ _ hcell, rfl⟩ ?_
  refine wpAny_loadName_local (v := .ref x) rfl rfl hn (by first | rfl | with_unfolding_all rfl | kernel_rfl) ?_
  refine ks_wpAny_isType_cls hC₁ rfl ⟨rfl, ?_⟩
  refine ks_wpAny_call_super hC₁ rfl hx₁ rfl (fun c e => by cases e) (looks_mroIn X₁ T.mr) (fun h₂ e₂ k₂ => ?_)
  have X₂ := X₁.keeps k₂
  have hx₂ := k₂ _ _ hx₁
  intro pl
  refine kxs_getMethod kxs_ValueError e₂ (looks_opaque X₂ T.op) (l₀ := .ref C :: bm) ?_ rfl X₂ ?_ ?_ hxC rfl ?_
  · exact (looks_clsIn X₂ hcl).andThen .now
  · have e := T.su
    unfold ks_superIn at e
    rw [hcl] at e
    exact e
  · exact (show InstAt h₂ x (excO C t0) C none from ⟨hx₂, rfl, rfl, trivial⟩).type.andThen (looks_subIn X₂ T.veC)
  have up : ∀ b o, h₂.get? b = some o → (h₂.push (kxs_mw VI x)).get? b = some o := fun b o e => Heap.get?_push_of_some _ e
  have hu : (h₂.push (kxs_mw VI x)).get? h₂.objs.size = some (kxs_mw VI x) := Heap.get?_push_at rfl rfl
  refine kxs_callWith (i := VI) (x := x) rfl ?_
  refine evalArgs_plain (spliced_more (wpAny_Constant_str (spliced_none ⟨hu, ?_⟩)) rfl)
  refine call_mwV (t0 := t0) (up _ _ (X₂ _ _ hC)) (up _ _ hx₂) hu (by show 1 ≤ sizeLine; rw [sizeLine_eq]; decide) (fun h₃ t1 k₃ hx₃ => ?_)
  have k13 : ∀ b o, b ≠ x → h₁.get? b = some o → h₃.get? b = some o := fun b o hb e => k₃ b o hb (up _ _ (k₂ _ _ e))
  have X₃ : K.In h₃ := fun a o e => k13 a o (fun z => by rw [z, hnx] at e; cases e) (X₁ a o e)
  have hxL : s.heap.objs.size ≠ x := Nat.ne_of_gt (Heap.lt_size hx)
  obtain ⟨oL, es, ep, hL, hr⟩ := hn
  have hL₃ := k13 _ _ hxL hL
  have hn₃ : h₃.Ns s.heap.objs.size (fun x_1 => List.lookup x_1 [(PySem.Str.ofString "self", Value.ref x), (PySem.Str.ofString "limit", v)].reverse) := ⟨oL, es, ep, hL₃, hr⟩
  -- self.limit = limit
  refine wpAt_of_wpAny ?_
  show wpAny _ _ (execs _ _) _ _ _
  refine wpAny_execs_cons (plainObj_wpAny_Assign_Attribute ?_)
  refine ldX (v := v) hn₃ (by first | rfl | with_unfolding_all rfl | kernel_rfl) (ldX (v := .ref x) hn₃ (by first | rfl | with_unfolding_all rfl | kernel_rfl) ?_)
  refine set_plain X₃ (ox := excO C t1) (od := none) ⟨hx₃, rfl, rfl, trivial⟩ T.sa ?_
  refine exc_osa X₃ hx₃ hcl (show refsVE (.ref C :: bm) = true from hbm) rfl T.noN (fun h₄ tk₄ dx k₄ dn dne hx₄ hn₄ => ?_)
  show wpAny _ _ (execs _ _) _ _ _
  exact wpAny_execs_nil (hq h₄ tk₄ dx t1 ⟨fun b o hb e => k₄ b o hb (k13 b o hb (k b o e)), hx₄, Nat.le_of_lt (Nat.lt_of_lt_of_le (Heap.lt_size hL₃) dn), dne, hn₄⟩)
/-- one that is made -/
structure OwnMade (h h' : Heap) (e C d : Addr) (v : Value) : Prop where
  keep : ∀ b o, h.get? b = some o → h'.get? b = some o
  new : h.objs.size ≤ e
  obj : ∃ oe vs, h'.get? e = some oe ∧ oe.cls = .ref C ∧ oe.dict = some d ∧ oe.data = .fields vs ∧ vs[1]? = some .none ∧ vs[2]? = some .none
  dbig : h.objs.size ≤ d
  dne : d ≠ e
  ns : h'.Ns1 d (fun y => if y = "limit" then some v else none)
theorem many_made (T : ManyTxt prog.main.file K C fI cc cda) {v : Value} (X : K.In s.heap) (hlim : s.heap.NoLimit) (hroom : A.depth + 1 < recursionLimit)
    (hg : s.heap.Ns mainGlobals mg) (hms : mg "super" = none) (hb : s.heap.Ns builtinsNs mb) (hmb : mb "super" = some (.type "super")) (htop : (prog.main.scope.names.lookup ("super" : Str)).isSome = false)
    (hq : ∀ h' tk e d, OwnMade s.heap h' e C d v → R (.ok (.ret (.ref e))) { s with heap := h', toks := tk }) :
    codeAny (model prog w) A (.call (.ref C) ⟨[v], []⟩) R s := by
  obtain ⟨nm, q, N, bs, bm, sn, sub, ab, col, dd, k0, k1, k2, k3, k5, hC, hbm⟩ := T.cls
  obtain ⟨hp, g, dr, tk, os⟩ := s
  have k : ∀ b o, hp.get? b = some o → ((hp.push (kdv_tup [v])).push (excO C hp.objs.size)).get? b = some o := fun b o e => Heap.get?_push_of_some _ (Heap.get?_push_of_some _ e)
  have hget : ((hp.push (kdv_tup [v])).push (excO C hp.objs.size)).get? (hp.objs.size + 1) = some (excO C hp.objs.size) := by heap_get
  have hnx : K.lookup (hp.objs.size + 1) = none := by
    cases e : K.lookup (hp.objs.size + 1) with
    | none => rfl
    | some o =>
      have z : hp.get? (hp.objs.size + 1) = some o := X _ _ e
      exact absurd (Nat.lt_of_succ_lt (Heap.lt_size z)) (Nat.lt_irrefl _)
  refine call_own F.excBase_ValueError (fun X => refsVE_contains X bm hbm) (X _ _ hC) (looks_findIn X T.iC) (fun self => bind_fn X self T.tC) (by show 1 ≤ sizeLine; rw [sizeLine_eq]; decide) ?_
  refine many_init (s := ⟨(hp.push (kdv_tup [v])).push (excO C hp.objs.size), g, dr, tk, os⟩) T (X.keeps k) (hlim.keeps k) hget hnx ?_ (hg.keeps k) hms (hb.keeps k) hmb htop fun h' tk' dx t1 ⟨k', hx, dn, dne, hns⟩ => ?_
  · show A.depth + 1 < recursionLimit
    exact hroom
  · have old : ∀ b o, hp.get? b = some o → h'.get? b = some o := fun b o e => k' b o (Nat.ne_of_lt (Nat.lt_succ_of_lt (Heap.lt_size e))) (k b o e)
    have z : hp.objs.size + 1 + 1 ≤ dx := by
      first
        | (simpa only [Heap.size_push] using dn)
        | exact dn
        | (have q := dn; rw [Heap.size_push, Heap.size_push] at q; exact q)
    exact ⟨rfl, hq h' tk' (hp.objs.size + 1) dx ⟨old, Nat.le_succ _, ⟨_, _, hx, rfl, rfl, rfl, rfl, rfl⟩, Nat.le_trans (Nat.le_trans (Nat.le_succ _) (Nat.le_succ _)) z, dne, hns⟩⟩
end
end ManyX
end PySem
namespace L2
open PySem PySem.Spec PyProof.Rows
theorem relO_lim {v : V} {v' : Value} (r : RelV v v') (f : Str) : RelO (List.lookup f [(("limit" : Str), v)]) (if f = "limit" then some v' else none) := by
  by_cases hw : f = "limit"
  · subst hw
    rw [if_pos rfl]
    have q : List.lookup ("limit" : Str) [(("limit" : Str), v)] = some v := by simp [List.lookup]
    rw [q]
    exact r
  · rw [if_neg hw]
    have qw : (f == ("limit" : Str)) = false := by simpa using hw
    have q2 : List.lookup f [(("limit" : Str), v)] = none := by simp [List.lookup, qw]
    rw [q2]
    trivial
section
variable {X : Cx} {C fI cc cda : Addr}
/-- what a program's text must say besides -/
structure ManyTop (X : Cx) (x : Str) (C fI cc cda : Addr) : Prop where
  txt : PySem.ManyX.ManyTxt X.prog.main.file X.K C fI cc cda
  gC : X.mg x = some (.ref C)
  su : X.mg "super" = none
  top : (X.prog.main.scope.names.lookup ("super" : Str)).isSome = false
/-- TooMany(e) -/
def tMkMany (C : Addr) (ta : TA) : St → Hp → XK → Prop := fun σ H Q => ta σ H fun vs H1 => ∃ v, vs = [v] ∧ ∀ d, H1 d = none → Q (.ref C) (some d) (upd H1 d (.xd [(("limit" : Str), v)]))
theorem pmk_many {x : Str} {a : Expr} {ta : TA} {p pos : Pos} {k : Nat} (T : ManyTop X x C fI cc cda) (hr : Room k X.A) (hk : 2 ≤ k) (ha : PA X [a] ta) (hg : Gl X x := by rfl) (hdb : (x == ("__debug__" : Str)) = false := by decide)
    (he : starEach (a :: []) X.env = (false, eval a X.env) :: starEach [] X.env := by rfl) (hpl : (backTo pos (starEach [] X.env)).any (·.1) = false := by rfl) :
    PMk X (.Call (.Name x p) [a] [] pos) (tMkMany C ta) := by
  intro pins s σ H Q I h
  refine wpAny_Call_Name_kw (ld_glob I hg T.gC ?_ hdb)
  refine PySem.W.callWith_K (h₀ := X.base) I.ok.mod.kin T.txt.kC (thn (ha.run pos pins s σ H _ I h) fun us s1 hh => ?_) he hpl
  obtain ⟨vs, H1, I1, r1, v, ev, q1⟩ := hh
  subst ev
  refine ⟨I1.kIn, ?_⟩
  cases r1 with
  | cons rv rn =>
    rename_i v' us'
    cases rn
    show wpAny _ _ (call (.ref C) [v']) _ _ _
    have hlim := I1.nolimit
    obtain ⟨mb, hb1, hb2⟩ := I1.mod.blt
    have hg1 := I1.mod.glob.keeps I1.bk
    have hb1 := hb1.keeps I1.bk
    obtain ⟨hp, g, dr, tk, os⟩ := s1
    refine wpAny_call (PySem.ManyX.many_made T.txt I1.kIn hlim (by have := hr.dp; omega) hg1 T.su hb1 ((hb2 "super" (by decide)).trans (by first | boot_by_name | rfl | kernel_rfl)) T.top fun h' tk' e d M => ?_)
    show MkP X pins σ Q (.ref e) ⟨h', g, dr, tk', os⟩
    obtain ⟨oe, fv, hoe, hc, hd, hdat, h1, _⟩ := M.obj
    have hns := M.ns
    obtain ⟨G', g1, g2⟩ := restrict h' fun b => decide (b ≠ e)
    have gk : ∀ b, b ≠ e → G'.get? b = h'.get? b := fun b hb => g1 b (decide_eq_true hb)
    have ge : G'.get? e = none := g2 e (by simp)
    have old : ∀ b o, hp.get? b = some o → G'.get? b = some o := fun b o q => (gk b (Nat.ne_of_lt (Nat.lt_of_lt_of_le (Heap.lt_size q) M.new))).trans (M.keep b o q)
    have ob : ObjOk X.prog X.w (upd H1 d (.xd [(("limit" : Str), v)])) G' d (.xd [(("limit" : Str), v)]) :=
      ⟨_, hns.at (fun o q => (gk d M.dne).trans q), fun f => relO_lim rv f⟩
    have J : Inv X pins σ (upd H1 d (.xd [(("limit" : Str), v)])) ⟨G', g, dr, tk', os⟩ := I1.laid (t' := tk') old M.dbig ob
    refine ⟨e, oe, fv, ⟨G', g, dr, tk', os⟩, _, .ref C, some d, rfl, J, fun b o q => ?_, ge, hoe, ⟨hc, hd⟩, hdat, h1, ?_, rfl, I1.bare, raises_own T.txt.exC T.txt.tyC, q1 d (I1.hok.fresh M.dbig)⟩
    · by_cases hb : b = e
      · have q' : G'.get? b = some o := q
        rw [hb, ge] at q'; cases q'
      · exact (gk b hb).symm.trans q
    · rw [upd_ne (Ne.symm M.dne)]
      exact I1.hok.fresh M.new
/-- e.limit, e the exception that the suite holds (at a; its class cls, its dict d) -/
def tByMany (C : Addr) (a : Addr) (cls : Value) (d : Option Addr) (te : TE) : TE := fun σ H Q => te σ H fun x H1 => x = .ref a ∧ cls = .ref C ∧ ∃ (dd : Addr) (v : V), d = some dd ∧ H1 dd = some (.xd [(("limit" : Str), v)]) ∧ Q v H1
theorem pe_byMany {a : Addr} {oe : Obj} {cls : Value} {d : Option Addr} {pn : List (Addr × Obj)} {e : Expr} {te : TE} {pos : Pos} {file : Str} (T : PySem.ManyX.ManyTxt file X.K C fI cc cda) (hz : Zc cls d oe) (hf : ∃ vs, oe.data = .fields vs) (he : PE (X.suite a ((a, oe) :: pn)) e te)
    (hb : attributeBase e "limit" X.env (eval e X.env) = eval e X.env := by rfl) :
    PE (X.suite a ((a, oe) :: pn)) (.Attribute e "limit" pos) (tByMany C a cls d te) := by
  refine ⟨fun pins s σ H Q I h => ?_⟩
  refine attr_of hb (thn (he.run pins s σ H _ I h) fun u s1 hh => ?_)
  obtain ⟨x, H1, I1, rx, ex, ec, dd, v, ed, ea, q⟩ := hh
  subst ex
  obtain rfl : u = Value.ref a := rx
  subst ec
  subst ed
  obtain ⟨ha, _⟩ := I1.pin (a, oe) (List.mem_append_left _ List.mem_cons_self)
  obtain ⟨vs, hd⟩ := hf
  have hx : ObjOk X.prog X.w H1 s1.heap dd (.xd [(("limit" : Str), v)]) := I1.hok dd _ ea
  obtain ⟨mA, hns, hr⟩ := hx
  obtain ⟨od, ho, hl⟩ := lookIn_ns hns
  have l : List.lookup ("limit" : Str) [(("limit" : Str), v)] = some v := by simp [List.lookup]
  obtain ⟨u, hu, ru⟩ := RelO.some_of (v := v) (o := mA "limit") (by rw [← l]; exact hr "limit")
  have J : PySem.W.InstAt s1.heap a oe C (some od) := ⟨ha, hz.1, by unfold PySem.W.notCls; rw [hd] <;> rfl, by rw [hz.2]; exact ho⟩
  exact HandSPX.exc_get I1.kIn J T.ga T.gg T.exC (PySem.W.findObj_own T.hdC T.noN rfl (by rw [hl, hu])) (handed_of ru) ⟨v, H1, I1.tok _, ru, q⟩
end
end L2

namespace Sf
open PySem PySem.Spec PyProof.Rows L2 Evl
open PySem.W (Frag findIn keepIn subIn typeIn nsIn mroIn clsIn hasDictIn codeIn exmOne ks_superIn)
/-! ### the head also tells an own error with its __init__ -/
abbrev InV : Type := Option (Str × Str × Arguments × FuncBody × Scope × Addr × Addr)
def initObs (K : PySem.W.Frag) (x : Str) : InV := match K.lookup (He.ma K (He.ga K x) "__init__") with
  | some ⟨_, _, .func fd, _⟩ => some (fd.name, fd.qualname, fd.params, fd.body, fd.scope, fd.globals, fd.builtins)
  | _ => none
def cellHB (K : PySem.W.Frag) (C : Addr) : List (Str × Addr) → Bool
  | [(n, cc)] => decide (n = "__class__") && (match K.lookup cc with
    | some ⟨_, _, .cell (some (.ref D)), _⟩ => decide (D = C)
    | _ => false)
  | _ => false
def strAtB (file : Str) : Option Value → Bool
  | some (.str f _) => decide (f = file)
  | _ => false
def codeB (K : PySem.W.Frag) (file qn : Str) : Value → Bool
  | .ref a => PySem.W.codeIn K (.ref a) qn && (match K.lookup a with
    | some ⟨_, _, .fields vs, _⟩ => strAtB file vs[2]?
    | _ => false)
  | _ => false
def noneB : Value → Bool
  | .none => true
  | _ => false
def fnB (K : PySem.W.Frag) (C fI : Addr) (file : Str) : Bool := match K.lookup fI with
  | some ⟨_, _, .func fd, _⟩ => cellHB K C fd.closure && (codeB K file fd.qualname fd.code && (noneB fd.defaults && noneB fd.kwdefaults))
  | _ => false
def clsB (K : PySem.W.Frag) (C : Addr) : Bool := match K.lookup C with
  | some ⟨.type "type", _, .cls cd, sl⟩ => (match cd.mro, sl.toList with
    | .ref D :: bm, [_, _, _, _, some (.builtin n), _] => decide (D = C) && (decide (n = "ValueError.__new__") && (!cd.hasDel && (cd.hasDict && PySem.HandSPX.refsVE bm)))
    | _, _ => false)
  | _ => false
def lkB (K : PySem.W.Frag) (C fI : Addr) : Bool :=
  He.eqO (PySem.W.findIn K (.ref C) "__setattr__") (some (some (.builtin "object.__setattr__"))) && (He.eqO (PySem.W.findIn K (.ref C) "__getattribute__") (some (some (.builtin "BaseException.__getattribute__")))
  && (He.eqO (PySem.W.findIn K (.ref C) "__getattr__") (some none) && (He.eqO (PySem.W.findIn K (.ref C) "limit") (some none) && (He.eqO (PySem.W.findIn K (.ref C) "__init__") (some (some (.ref fI)))
  && (decide (PySem.W.typeIn K (.ref fI) = some (.type "function")) && (PySem.W.keepIn K (.ref C) && (decide (PySem.W.subIn K (.ref C) (.type "BaseException") = some true) && (decide (PySem.W.subIn K (.ref C) (.type "ValueError") = some true)
  && (decide (PySem.W.typeIn K (.ref C) = some (.type "type")) && (PySem.W.hasDictIn K C && (decide (PySem.W.exmOne K (.ref C) (.ref C) = some true) && (He.eqO (PySem.W.ks_superIn K C C "__init__") (some (some (.builtin PySem.ManyX.VI)))
  && (He.eqO (PySem.W.nsIn K cStatics "thirdparty.any") (some none) && decide (PySem.W.mroIn K C (.ref C) = some true))))))))))))))
def manyB (K : PySem.W.Frag) (x file : Str) : Bool := clsB K (He.ga K x) && (lkB K (He.ga K x) (He.ma K (He.ga K x) "__init__") && (fnB K (He.ga K x) (He.ma K (He.ga K x) "__init__") file && (He.eqO (PySem.W.nsIn K mainGlobals x) (some (some (.ref (He.ga K x)))) && He.eqO (PySem.W.nsIn K mainGlobals "super") (some none))))
theorem cls_of {K : PySem.W.Frag} {C : Addr} (q : clsB K C = true) : ∃ nm qn N bs bm sn sub ab col dd k0 k1 k2 k3 k5, K.lookup C = some (excClassObj nm qn C N bs bm true sn sub ab col dd k0 k1 k2 k3 k5 "ValueError.__new__") ∧ PySem.HandSPX.refsVE bm = true := by
  unfold clsB at q
  split at q
  · rename_i dd cd sl ho
    split at q
    · rename_i D bm k0 k1 k2 k3 n k5 hm hs
      simp only [Bool.and_eq_true, decide_eq_true_eq, Bool.not_eq_true'] at q
      obtain ⟨rfl, rfl, hdel, hdic, hr⟩ := q
      obtain ⟨nm, bs, mro, ns, qn, hd, sn, sub, ab, col, del⟩ := cd
      dsimp only at hm hdel hdic
      subst hm hdel hdic
      have hsl : sl = #[k0, k1, k2, k3, some (.builtin "ValueError.__new__"), k5] := by
        obtain ⟨l⟩ := sl
        simp only at hs
        rw [hs]
      subst hsl
      exact ⟨nm, qn, ns, bs, bm, sn, sub, ab, col, dd, k0, k1, k2, k3, k5, ho, hr⟩
    · cases q
  · cases q
theorem none_of {v : Value} (h : noneB v = true) : v = .none := by
  cases v with
  | none => rfl
  | _ => cases h
theorem cell_of {K : PySem.W.Frag} {C : Addr} {l : List (Str × Addr)} (h : cellHB K C l = true) : ∃ cc, l = [(("__class__" : Str), cc)] ∧ ∃ cl cld csl, K.lookup cc = some ⟨cl, cld, .cell (some (.ref C)), csl⟩ := by
  unfold cellHB at h
  split at h
  · rename_i n cc
    obtain ⟨h1, h2⟩ := He.ba h
    have e : n = "__class__" := of_decide_eq_true h1
    subst e
    split at h2
    · rename_i cl cld D csl ho
      have e := of_decide_eq_true h2
      subst e
      exact ⟨cc, rfl, cl, cld, csl, ho⟩
    · cases h2
  · cases h
theorem code_of {K : PySem.W.Frag} {file qn : Str} {v : Value} (h : codeB K file qn v = true) : ∃ a, v = .ref a ∧ PySem.W.codeIn K (.ref a) qn = true ∧ ∃ ccl cdd vs ccs tf, K.lookup a = some ⟨ccl, cdd, .fields vs, ccs⟩ ∧ vs[2]? = some (.str file tf) := by
  unfold codeB at h
  split at h
  · rename_i a
    obtain ⟨h1, h2⟩ := He.ba h
    refine ⟨a, rfl, h1, ?_⟩
    split at h2
    · rename_i ccl cdd vs ccs ho
      cases hv : vs[2]? with
      | none =>
        rw [hv] at h2
        cases h2
      | some u =>
        rw [hv] at h2
        cases u with
        | str f tf =>
          have e : f = file := of_decide_eq_true h2
          subst e
          exact ⟨ccl, cdd, vs, ccs, tf, ho, hv⟩
        | _ => cases h2
    · cases h2
  · cases h
/-- what a law's defs need of the own error -/
structure ManyP (P : Program) (K : PySem.W.Frag) (mg : Str → Option Value) : Prop where
  ex : ∃ cc cda, PySem.ManyX.ManyTxt P.main.file K (He.ga K "TooMany") (He.ma K (He.ga K "TooMany") "__init__") cc cda
  gC : mg "TooMany" = some (.ref (He.ga K "TooMany"))
  su : mg "super" = none
  top : (P.main.scope.names.lookup ("super" : Str)).isSome = false
theorem many_of {P : Program} {K : PySem.W.Frag} {h : Heap} {mg : Str → Option Value} {file : Str} (X : K.In h) (G : h.Ns mainGlobals mg) (m : manyB K "TooMany" file = true) {t qn : Str} {p1 p2 a1 a2 a3 a4 a5 a6 q1 q2 q3 q4 : Pos}
    (ci : initObs K "TooMany" = some (("__init__" : Str), qn, PySem.ManyX.iA p1 p2, FuncBody.stmts (PySem.ManyX.iB t a1 a2 a3 a4 a5 a6 q1 q2 q3 q4), PySem.ManyX.iS, mainGlobals, builtinsNs)) (hl : (a3.endLine == a5.line) = true)
    (hf : P.main.file = file) (top : (P.main.scope.names.lookup ("super" : Str)).isSome = false) : ManyP P K mg := by
  obtain ⟨m1, m⟩ := He.ba m
  obtain ⟨m2, m⟩ := He.ba m
  obtain ⟨m3, m⟩ := He.ba m
  obtain ⟨m4, m5⟩ := He.ba m
  subst hf
  refine ⟨?_, PySem.W.mg_of X G (He.eqO_ok m4), PySem.W.mg_none_of X G (He.eqO_ok m5), top⟩
  unfold lkB at m2
  obtain ⟨l1, m2⟩ := He.ba m2
  obtain ⟨l2, m2⟩ := He.ba m2
  obtain ⟨l3, m2⟩ := He.ba m2
  obtain ⟨l4, m2⟩ := He.ba m2
  obtain ⟨l5, m2⟩ := He.ba m2
  obtain ⟨l6, m2⟩ := He.ba m2
  obtain ⟨l7, m2⟩ := He.ba m2
  obtain ⟨l8, m2⟩ := He.ba m2
  obtain ⟨l9, m2⟩ := He.ba m2
  obtain ⟨l10, m2⟩ := He.ba m2
  obtain ⟨l11, m2⟩ := He.ba m2
  obtain ⟨l12, m2⟩ := He.ba m2
  obtain ⟨l13, m2⟩ := He.ba m2
  obtain ⟨l14, l15⟩ := He.ba m2
  unfold fnB at m3
  unfold initObs at ci
  split at m3
  · rename_i oc od fd osl ho
    rw [ho] at ci
    obtain ⟨n1, n2, n3, n4, n5, n6, n7, n8, n9, n10, n11, n12, n13, n14, n15⟩ := fd
    have e2 : (some (n1, n2, n3, n4, n5, n6, n15) : InV) = _ := ci
    simp only [Option.some.injEq, Prod.mk.injEq] at e2
    obtain ⟨h1, h2, h3, h4, h5, h6, h7⟩ := e2
    subst h1 h2 h3 h4 h5 h6 h7
    obtain ⟨c1, m3⟩ := He.ba m3
    obtain ⟨c2, m3⟩ := He.ba m3
    obtain ⟨c3, c4⟩ := He.ba m3
    dsimp only at c1 c2 c3 c4
    obtain ⟨cc, rfl, hcell⟩ := cell_of c1
    obtain ⟨cda, rfl, hcd, hcode⟩ := code_of c2
    have e3 := none_of c3
    have e4 := none_of c4
    subst e3 e4
    exact ⟨cc, cda, ⟨cls_of m1, He.eqO_ok l1, He.eqO_ok l2, He.eqO_ok l3, He.eqO_ok l4, He.eqO_ok l5, of_decide_eq_true l6, l7, of_decide_eq_true l8, of_decide_eq_true l9, of_decide_eq_true l10, l11, of_decide_eq_true l12, He.eqO_ok l13, He.eqO_ok l14, of_decide_eq_true l15, hcell, hcode,
      ⟨t, oc, od, _, _, _, _, _, _, osl, p1, p2, a1, a2, a3, a4, a5, a6, q1, q2, q3, q4, _, ho, hcd, rfl, rfl, hl⟩⟩⟩
  · cases m3
/-! ### the hook -/
def frM (g : Addr → Option Obj) (n : Nat) : PySem.W.Frag := He.frG g (He.asD g n ++ [cStatics])
def obsMK (x file : Str) (fa : List He.Fa) (fn : List He.DefD) (ts : List (Str × List Str)) (K : PySem.W.Frag) : (He.AlD × Bool) × Bool × InV := ((He.obsD fa fn K, tabsB ts K), manyB K x file, initObs K x)
def obsM (n : Nat) (x file : Str) (fa : List He.Fa) (fn : List He.DefD) (ts : List (Str × List Str)) (g : Addr → Option Obj) : (He.AlD × Bool) × Bool × InV := obsMK x file fa fn ts (frM g n)
def hookM (n : Nat) (x file : Str) (iv : InV) (fa : List He.Fa) (fn : List He.DefD) (ts : List (Str × List Str)) : PySem.W.Hook where
  α := (He.AlD × Bool) × Bool × InV
  obs := fun s => obsM n x file fa fn ts s.heap.get?
  val := fun _ => ((He.valD fn, true), true, iv)
  says := fun _ h => ∃ K : PySem.W.Frag, K.In h ∧ He.SaysD fa fn K ∧ tabsB ts K = true ∧ manyB K x file = true ∧ initObs K x = iv
  of := fun _ _ e => ⟨_, He.frG_in, congrArg (fun z : (He.AlD × Bool) × Bool × InV => z.1.1) e, congrArg (fun z : (He.AlD × Bool) × Bool × InV => z.1.2) e, congrArg (fun z : (He.AlD × Bool) × Bool × InV => z.2.1) e, congrArg (fun z : (He.AlD × Bool) × Bool × InV => z.2.2) e⟩
  keeps := fun _ _ _ ⟨K, hK, c⟩ k => ⟨K, PySem.W.Frag.In.keeps hK k, c⟩
theorem obsM_eq {n : Nat} {x file : Str} {iv : InV} {fa : List He.Fa} {fn : List He.DefD} {ts : List (Str × List Str)} {g : Addr → Option Obj} {s : Shared} (h : ∀ a, g a = s.heap.get? a) : obsM n x file fa fn ts g = (hookM n x file iv fa fn ts).obs s := by
  have e : g = s.heap.get? := funext h
  rw [e] <;> rfl
end Sf

namespace Sf
open PySem PySem.Spec PyProof.Rows L2 Evl
/-! ### the head of a law that makes lambdas and asks for errors -/
def isxB (K : PySem.W.Frag) (C : Addr) : Bool :=
  He.eqO (PySem.W.findIn K (.ref C) "__getattribute__") (some (some (.builtin "BaseException.__getattribute__"))) && (He.eqO (PySem.W.findIn K (.ref C) "__getattr__") (some none) && (decide (PySem.W.subIn K (.ref C) (.type "BaseException") = some true) && (PySem.W.hasDictIn K C
  && (He.eqO (PySem.W.findIn K (.ref C) "__class__") (some (some (.builtin "object.__class__"))) && (He.eqO (PySem.W.specialIn K (.builtin "object.__class__") "__get__") (some (some (.builtin "getset_descriptor.__get__"))) && (decide (PySem.W.takesIn K (.builtin "object.__class__") = some true)
  && decide (PySem.W.mroIn K C (.type "object") = some true)))))))
/-- the class x, among the classes cs -/
def kindB (K : PySem.W.Frag) (cs : List Str) (x : Str) : Bool := isxB K (He.ga K x) && ((cs.all fun y => decide (PySem.W.kitOne K (.ref (He.ga K x)) (.ref (He.ga K y)) = some (decide (x = y)))) && (decide (PySem.W.kitOne K (.ref (He.ga K x)) (.type "ValueError") = some true) && decide (PySem.W.exmOne K (.ref (He.ga K x)) (.ref (He.ga K "StepError")) = some true)))
def errB (K : PySem.W.Frag) (all cs : List Str) : Bool := (cs.all fun c => (He.Fa.glo c).ok K && ((He.Fa.exc c).ok K && kindB K all c)) && ((He.Fa.glo "StepError").ok K && (He.Fa.free "ValueError").ok K)
/-! ### the hook -/
structure SaysL (fa : List He.Fa) (fn : List He.DefD) (ts : List (Str × List Str)) (tf : List He.Defn) (ex : PySem.W.Frag → Bool) (io : PySem.W.Frag → InV) (iv : InV) (h : Heap) (K : PySem.W.Frag) : Prop where
  d : He.SaysD fa fn K
  ts : tabsB ts K = true
  more : ex K = true
  io : io K = iv
  hd : ∀ p ∈ tf, PySem.W.codeHdIn K (He.cT K p).1 (He.cT K p).2 = true
  out : ∀ p ∈ tf, K.lookup (He.cT K p).2 = none
  empty : ∀ p ∈ tf, h.get? (He.cT K p).2 = some { cls := .none, data := .fields #[] }
abbrev AlL : Type := (He.AlD × Bool) × Bool × InV
def frL (g : Addr → Option Obj) (n : Nat) : PySem.W.Frag := He.frT g (He.asD g n ++ [cStatics])
def obsLK (fa : List He.Fa) (fn : List He.DefD) (ts : List (Str × List Str)) (tf : List He.Defn) (ex : PySem.W.Frag → Bool) (io : PySem.W.Frag → InV) (g : Addr → Option Obj) (K : PySem.W.Frag) : AlL := ((He.obsD fa fn K, tabsB ts K), (ex K && He.tabsB g tf K), io K)
def obsL (n : Nat) (fa : List He.Fa) (fn : List He.DefD) (ts : List (Str × List Str)) (tf : List He.Defn) (ex : PySem.W.Frag → Bool) (io : PySem.W.Frag → InV) (g : Addr → Option Obj) : AlL := obsLK fa fn ts tf ex io g (frL g n)
theorem saysL_of {n : Nat} {fa : List He.Fa} {fn : List He.DefD} {ts : List (Str × List Str)} {tf : List He.Defn} {ex : PySem.W.Frag → Bool} {io : PySem.W.Frag → InV} {iv : InV} {h : Heap} (e : obsL n fa fn ts tf ex io h.get? = ((He.valD fn, true), true, iv)) : SaysL fa fn ts tf ex io iv h (frL h.get? n) := by
  have e2 : (ex (frL h.get? n) && He.tabsB h.get? tf (frL h.get? n)) = true := congrArg (fun z : AlL => z.2.1) e
  obtain ⟨h1, h2⟩ := He.ba e2
  have key : ∀ p ∈ tf, PySem.W.codeHdIn (frL h.get? n) (He.cT (frL h.get? n) p).1 (He.cT (frL h.get? n) p).2 = true ∧ ∃ o, h.get? (He.cT (frL h.get? n) p).2 = some o ∧ He.emptyTab o = true := fun p hp => by
    obtain ⟨h3, h4⟩ := He.ba (List.all_eq_true.mp h2 p hp)
    refine ⟨h3, ?_⟩
    cases q : h.get? (He.cT (frL h.get? n) p).2 with
    | none =>
      rw [q] at h4
      cases h4
    | some o =>
      rw [q] at h4
      exact ⟨o, rfl, h4⟩
  exact ⟨congrArg (fun z : AlL => z.1.1) e, congrArg (fun z : AlL => z.1.2) e, h1, congrArg (fun z : AlL => z.2.2) e, fun p hp => (key p hp).1, fun p hp => by
    obtain ⟨_, o, q, z⟩ := key p hp
    exact He.frT_none q z, fun p hp => by
    obtain ⟨_, o, q, z⟩ := key p hp
    rw [q, He.emptyTab_eq z]⟩
def hookL (n : Nat) (fa : List He.Fa) (fn : List He.DefD) (ts : List (Str × List Str)) (tf : List He.Defn) (ex : PySem.W.Frag → Bool) (io : PySem.W.Frag → InV) (iv : InV) : PySem.W.Hook where
  α := AlL
  obs := fun s => obsL n fa fn ts tf ex io s.heap.get?
  val := fun _ => ((He.valD fn, true), true, iv)
  says := fun _ h => ∃ K : PySem.W.Frag, K.In h ∧ SaysL fa fn ts tf ex io iv h K
  of := fun _ _ e => ⟨_, He.frT_in, saysL_of e⟩
  keeps := fun _ _ _ ⟨K, hK, c⟩ k => ⟨K, PySem.W.Frag.In.keeps hK k, ⟨c.d, c.ts, c.more, c.io, c.hd, c.out, fun p hp => k _ _ (c.empty p hp)⟩⟩
theorem obsL_eq {n : Nat} {fa : List He.Fa} {fn : List He.DefD} {ts : List (Str × List Str)} {tf : List He.Defn} {ex : PySem.W.Frag → Bool} {io : PySem.W.Frag → InV} {iv : InV} {g : Addr → Option Obj} {s : Shared} (h : ∀ a, g a = s.heap.get? a) : obsL n fa fn ts tf ex io g = (hookL n fa fn ts tf ex io iv).obs s := by
  have e : g = s.heap.get? := funext h
  rw [e] <;> rfl
/-! ### the tables of the defs that make lambdas -/
/-- no two defs share a table -/
def apartB (K : PySem.W.Frag) (tf : List He.Defn) : Bool := decide ((tf.map fun p => (He.cT K p).2).Nodup)
def tabsL (K : PySem.W.Frag) (tf : List He.Defn) : List (Addr × Str) := tf.map fun p => ((He.cT K p).2, p.1 ++ (".<locals>.<lambda>" : Str))
theorem tabs_in {K : PySem.W.Frag} {tf : List He.Defn} {p : He.Defn} {q : Str} (h : p ∈ tf) (e : p.1 ++ (".<locals>.<lambda>" : Str) = q) : ((He.cT K p).2, q) ∈ tabsL K tf := by
  subst e
  exact List.mem_map.mpr ⟨p, h, rfl⟩
theorem nodup_map {α β : Type} {f : α → β} : ∀ {l : List α}, (l.map f).Nodup → ∀ {a b : α}, a ∈ l → b ∈ l → f a = f b → a = b
  | [], _, a, b, h, _, _ => nomatch h
  | x :: l, h, a, b, ha, hb, e => by
    rw [List.map_cons, List.nodup_cons] at h
    rcases List.mem_cons.mp ha with rfl | ha
    · rcases List.mem_cons.mp hb with rfl | hb
      · rfl
      · exact absurd (List.mem_map.mpr ⟨b, hb, e.symm⟩) h.1
    · rcases List.mem_cons.mp hb with eb | hb
      · rw [eb] at e
        exact absurd (List.mem_map.mpr ⟨a, ha, e⟩) h.1
      · exact nodup_map h.2 ha hb e
theorem tabs_uq {K : PySem.W.Frag} {tf : List He.Defn} {p : He.Defn} {q : Str} (a : apartB K tf = true) (h : p ∈ tf) (e : p.1 ++ (".<locals>.<lambda>" : Str) = q) : ∀ z ∈ tabsL K tf, z.1 = (He.cT K p).2 → z.2 = q := fun z hz ez => by
  obtain ⟨r, hr, rfl⟩ := List.mem_map.mp hz
  have := nodup_map (of_decide_eq_true a) hr h ez
  rw [this]
  exact e
end Sf

namespace Sf
open PySem PySem.Spec PyProof.Rows L2 Evl
/-! ### the head with classes: the objects level by level, each looked for once -/
def levW (g : Addr → Option Obj) (as : List Addr) : List Addr := as.flatMap fun a => match g a with
  | some o => He.refsD o
  | none => []
/-- what a class, its names and its methods name -/
def downW (g : Addr → Option Obj) : Nat → List Addr → List Addr
  | 0, as => as
  | n + 1, as => as ++ downW g n (levW g as)
def asW (g : Addr → Option Obj) (n : Nat) : List Addr := downW g n [mainGlobals]
def obsW (n : Nat) (fa : List He.Fa) (fn : List He.DefD) (ts : List (Str × List Str)) (g : Addr → Option Obj) : He.AlD × Bool := (He.obsD fa fn (He.frG g (asW g n)), tabsB ts (He.frG g (asW g n)))
def hookW (n : Nat) (fa : List He.Fa) (fn : List He.DefD) (ts : List (Str × List Str)) : PySem.W.Hook where
  α := He.AlD × Bool
  obs := fun s => obsW n fa fn ts s.heap.get?
  val := fun _ => (He.valD fn, true)
  says := fun _ h => ∃ K : PySem.W.Frag, K.In h ∧ He.SaysD fa fn K ∧ tabsB ts K = true
  of := fun _ _ e => ⟨_, He.frG_in, congrArg (fun z : He.AlD × Bool => z.1) e, congrArg (fun z : He.AlD × Bool => z.2) e⟩
  keeps := fun _ _ _ ⟨K, hK, c⟩ k => ⟨K, PySem.W.Frag.In.keeps hK k, c⟩
theorem obsW_eq {n : Nat} {fa : List He.Fa} {fn : List He.DefD} {ts : List (Str × List Str)} {g : Addr → Option Obj} {s : Shared} (h : ∀ a, g a = s.heap.get? a) : obsW n fa fn ts g = (hookW n fa fn ts).obs s := by
  have e : g = s.heap.get? := funext h
  rw [e] <;> rfl
end Sf

namespace Sf
open PySem PySem.Spec PyProof.Rows L2 Evl
/-! ### the head of a law with classes, lambdas and errors -/
/-- what isinstance and == ask of a class -/
structure ClsI (K : PySem.W.Frag) (C : Addr) : Prop where
  cl : Cls K C
  ha : PySem.W.findIn K (.ref C) "__class__" = some (some (.builtin "object.__class__"))
  hn : PySem.W.specialIn K (.builtin "object.__class__") "__get__" = some (some (.builtin "getset_descriptor.__get__"))
  ht : PySem.W.takesIn K (.builtin "object.__class__") = some true
  hm : PySem.W.mroIn K C (.type "object") = some true
  me : PySem.W.kitOne K (.ref C) (.ref C) = some true
  tup : PySem.W.kitOne K (.type "tuple") (.ref C) = some false
  nf : PySem.W.notFirst K C (.type "tuple") = true
def clsIB (K : PySem.W.Frag) (C : Addr) : Bool :=
  PySem.W.plainGet K C Str.empty && (PySem.W.hasDictIn K C && (PySem.W.plainOver K C && (He.eqO (PySem.W.findIn K (.ref C) "__setattr__") (some (some (.builtin "object.__setattr__"))) && (He.eqO (PySem.W.findIn K (.ref C) "__class__") (some (some (.builtin "object.__class__"))) &&
  (He.eqO (PySem.W.specialIn K (.builtin "object.__class__") "__get__") (some (some (.builtin "getset_descriptor.__get__"))) && (decide (PySem.W.takesIn K (.builtin "object.__class__") = some true) && (decide (PySem.W.mroIn K C (.type "object") = some true) &&
  (decide (PySem.W.kitOne K (.ref C) (.ref C) = some true) && (decide (PySem.W.kitOne K (.type "tuple") (.ref C) = some false) && PySem.W.notFirst K C (.type "tuple"))))))))))
theorem clsI_ok {K : PySem.W.Frag} {C : Addr} (h : clsIB K C = true) : ClsI K C := by
  unfold clsIB at h
  obtain ⟨h1, h⟩ := He.ba h
  obtain ⟨h2, h⟩ := He.ba h
  obtain ⟨h3, h⟩ := He.ba h
  obtain ⟨h4, h⟩ := He.ba h
  obtain ⟨h5, h⟩ := He.ba h
  obtain ⟨h6, h⟩ := He.ba h
  obtain ⟨h7, h⟩ := He.ba h
  obtain ⟨h8, h⟩ := He.ba h
  obtain ⟨h9, h⟩ := He.ba h
  obtain ⟨h10, h11⟩ := He.ba h
  exact ⟨⟨h1, h2, h3, He.eqO_ok h4⟩, He.eqO_ok h5, He.eqO_ok h6, of_decide_eq_true h7, of_decide_eq_true h8, of_decide_eq_true h9, of_decide_eq_true h10, h11⟩
/-- the getter of a property -/
def pgA (K : PySem.W.Frag) (C : Addr) (f : Str) : Addr := match PySem.W.recIn K (He.ma K C f) "property" with
  | some (.ref g :: _) => g
  | _ => 0
def isRecB : Option (List Value) → Bool
  | some (.ref _ :: _) => true
  | _ => false
def propFB (K : PySem.W.Frag) (g : Addr) (q : Str) : Bool := PySem.W.keepIn K (.ref g) && (match K.lookup g with
  | some ⟨_, _, .func fd, _⟩ => PySem.W.codeIn K fd.code q && (He.dflB K fd.defaults [] && fd.closure.isEmpty)
  | _ => false)
def propB (K : PySem.W.Frag) (C : Addr) (f q : Str) : Bool :=
  He.eqO (PySem.W.findIn K (.ref C) f) (some (some (.ref (He.ma K C f)))) && (He.eqO (PySem.W.specialIn K (.ref (He.ma K C f)) "__get__") (some (some (.builtin "property.__get__"))) && (decide (PySem.W.takesIn K (.ref (He.ma K C f)) = some true) && (isRecB (PySem.W.recIn K (He.ma K C f) "property") && propFB K (pgA K C f) q)))
def propObs (K : PySem.W.Frag) (x f : Str) : InV := match K.lookup (pgA K (He.ga K x) f) with
  | some ⟨_, _, .func fd, _⟩ => some (fd.name, fd.qualname, fd.params, fd.body, fd.scope, fd.globals, fd.builtins)
  | _ => none
theorem prop_of {K : PySem.W.Frag} {C : Addr} {f q : Str} (h : propB K C f q = true) : PropOf K C f (He.ma K C f) (pgA K C f) ∧ propFB K (pgA K C f) q = true := by
  unfold propB at h
  obtain ⟨h1, h⟩ := He.ba h
  obtain ⟨h2, h⟩ := He.ba h
  obtain ⟨h3, h⟩ := He.ba h
  obtain ⟨h4, h5⟩ := He.ba h
  refine ⟨⟨He.eqO_ok h1, He.eqO_ok h2, of_decide_eq_true h3, ?_⟩, h5⟩
  unfold pgA
  cases e : PySem.W.recIn K (He.ma K C f) "property" with
  | none =>
    rw [e] at h4
    cases h4
  | some l =>
    rw [e] at h4
    cases l with
    | nil => cases h4
    | cons v vs =>
      cases v with
      | ref g => exact ⟨vs, rfl⟩
      | _ => cases h4
theorem prop_fun {K : PySem.W.Frag} {x f q nm : Str} {params : Arguments} {body : List Stmt} {scope : Scope} (e : propObs K x f = some (nm, q, params, .stmts body, scope, mainGlobals, builtinsNs)) (h : propFB K (pgA K (He.ga K x) f) q = true) :
    ∃ fd, FunD K nm q params body scope [] [] (pgA K (He.ga K x) f) fd := by
  unfold propFB at h
  obtain ⟨kp, c2⟩ := He.ba h
  unfold propObs at e
  cases z : K.lookup (pgA K (He.ga K x) f) with
  | none =>
    rw [z] at c2
    cases c2
  | some o =>
    obtain ⟨oc, od, dt, osl⟩ := o
    rw [z] at c2 e
    cases dt with
    | func fd =>
      obtain ⟨n1, n2, n3, n4, n5, n6, n7, n8, n9, n10, n11, n12, n13, n14, n15⟩ := fd
      have e2 : (some (n1, n2, n3, n4, n5, n6, n15) : InV) = some (nm, q, params, .stmts body, scope, mainGlobals, builtinsNs) := e
      simp only [Option.some.injEq, Prod.mk.injEq] at e2
      obtain ⟨h1, h2, h3, h4, h5, h6, h8⟩ := e2
      subst h1 h2 h3 h4 h5 h6 h8
      have c3 : (PySem.W.codeIn K n13 n2 && (He.dflB K n8 [] && n7.isEmpty)) = true := c2
      obtain ⟨k1, k2⟩ := He.ba c3
      obtain ⟨k3, k4⟩ := He.ba k2
      have e7 : n7 = [] := List.isEmpty_iff.mp k4
      subst e7
      exact ⟨_, ⟨oc, od, n8, n9, n10, n11, n12, n13, n14, osl, rfl, z, k1, He.dflB_ok k3, .inl rfl⟩, kp⟩
    | _ => cases c2
/-! ### the hook, objects level by level -/
def frLW (g : Addr → Option Obj) (n : Nat) : PySem.W.Frag := He.frT g (asW g n ++ [cStatics])
def obsLW (n : Nat) (fa : List He.Fa) (fn : List He.DefD) (ts : List (Str × List Str)) (tf : List He.Defn) (ex : PySem.W.Frag → Bool) (io : PySem.W.Frag → InV) (g : Addr → Option Obj) : AlL := obsLK fa fn ts tf ex io g (frLW g n)
theorem saysLW_of {n : Nat} {fa : List He.Fa} {fn : List He.DefD} {ts : List (Str × List Str)} {tf : List He.Defn} {ex : PySem.W.Frag → Bool} {io : PySem.W.Frag → InV} {iv : InV} {h : Heap} (e : obsLW n fa fn ts tf ex io h.get? = ((He.valD fn, true), true, iv)) : SaysL fa fn ts tf ex io iv h (frLW h.get? n) := by
  have e2 : (ex (frLW h.get? n) && He.tabsB h.get? tf (frLW h.get? n)) = true := congrArg (fun z : AlL => z.2.1) e
  obtain ⟨h1, h2⟩ := He.ba e2
  have key : ∀ p ∈ tf, PySem.W.codeHdIn (frLW h.get? n) (He.cT (frLW h.get? n) p).1 (He.cT (frLW h.get? n) p).2 = true ∧ ∃ o, h.get? (He.cT (frLW h.get? n) p).2 = some o ∧ He.emptyTab o = true := fun p hp => by
    obtain ⟨h3, h4⟩ := He.ba (List.all_eq_true.mp h2 p hp)
    refine ⟨h3, ?_⟩
    cases q : h.get? (He.cT (frLW h.get? n) p).2 with
    | none =>
      rw [q] at h4
      cases h4
    | some o =>
      rw [q] at h4
      exact ⟨o, rfl, h4⟩
  exact ⟨congrArg (fun z : AlL => z.1.1) e, congrArg (fun z : AlL => z.1.2) e, h1, congrArg (fun z : AlL => z.2.2) e, fun p hp => (key p hp).1, fun p hp => by
    obtain ⟨_, o, q, z⟩ := key p hp
    exact He.frT_none q z, fun p hp => by
    obtain ⟨_, o, q, z⟩ := key p hp
    rw [q, He.emptyTab_eq z]⟩
def hookLW (n : Nat) (fa : List He.Fa) (fn : List He.DefD) (ts : List (Str × List Str)) (tf : List He.Defn) (ex : PySem.W.Frag → Bool) (io : PySem.W.Frag → InV) (iv : InV) : PySem.W.Hook where
  α := AlL
  obs := fun s => obsLW n fa fn ts tf ex io s.heap.get?
  val := fun _ => ((He.valD fn, true), true, iv)
  says := fun _ h => ∃ K : PySem.W.Frag, K.In h ∧ SaysL fa fn ts tf ex io iv h K
  of := fun _ _ e => ⟨_, He.frT_in, saysLW_of e⟩
  keeps := fun _ _ _ ⟨K, hK, c⟩ k => ⟨K, PySem.W.Frag.In.keeps hK k, ⟨c.d, c.ts, c.more, c.io, c.hd, c.out, fun p hp => k _ _ (c.empty p hp)⟩⟩
theorem obsLW_eq {n : Nat} {fa : List He.Fa} {fn : List He.DefD} {ts : List (Str × List Str)} {tf : List He.Defn} {ex : PySem.W.Frag → Bool} {io : PySem.W.Frag → InV} {iv : InV} {g : Addr → Option Obj} {s : Shared} (h : ∀ a, g a = s.heap.get? a) : obsLW n fa fn ts tf ex io g = (hookLW n fa fn ts tf ex io iv).obs s := by
  have e : g = s.heap.get? := funext h
  rw [e] <;> rfl
end Sf

namespace Sf
open PySem PySem.Spec PyProof.Rows L2 Evl
def clsS (st : Stmt) (j : Nat) : Stmt := match st with | .ClassDef _ _ _ body _ _ _ _ _ _ _ => body.getD j (.Pass ⟨0, 0, 0, 0⟩) | _ => .Pass ⟨0, 0, 0, 0⟩
def topS (i : Nat) : Stmt := PySem.Challenge.pw_stepfields_k21_fields_as_values.main.body.getD i (.Pass ⟨0, 0, 0, 0⟩)
abbrev FnP (K : PySem.W.Frag) (x : Str) (st : Stmt) (f : Addr) (fd : FuncData) : Prop := FunD K x x (defArgs st) (defBody st) (defScope st) [] [] f fd
abbrev errCs : List Str := ["InvalidField", "InvalidValue", "InvalidRow", "InvalidIndex", "Unlike"]
abbrev errAl : List Str := errCs
abbrev s_is_between : Stmt := topS 13
abbrev s_is_row : Stmt := topS 17
abbrev s_L_source : Stmt := topS 36
abbrev s_L_draw : Stmt := topS 37
abbrev s_L_choice : Stmt := topS 38
abbrev s_L_field : Stmt := topS 39
abbrev s_grid_of : Stmt := topS 15
abbrev s_is_word : Stmt := topS 14
abbrev s_is_field : Stmt := topS 16
abbrev s_L_near : Stmt := topS 46
abbrev s_L_value : Stmt := topS 40
abbrev s_L_row : Stmt := topS 41
abbrev s_Field___init__ : Stmt := clsS (topS 34) 0
abbrev s_L_made : Stmt := topS 48
abbrev s_L_steps : Stmt := topS 45
abbrev s_Field_source : Stmt := clsS (topS 34) 1
abbrev s_rests_of : Stmt := topS 28
abbrev s_values_of : Stmt := topS 29
abbrev s_aim_of : Stmt := topS 22
abbrev s_many_steps : Stmt := topS 21
abbrev s_press_key : Stmt := topS 23
abbrev s_parting_of : Stmt := topS 30
abbrev s_Field___eq__ : Stmt := clsS (topS 34) 7
abbrev s_need_field : Stmt := topS 18
abbrev s_need_both : Stmt := topS 31
abbrev s_alike : Stmt := topS 32
abbrev s_Field___eq__t : Stmt := clsS (topS 34) 7
abbrev s_need_value : Stmt := topS 19
abbrev s_need_row : Stmt := topS 20
abbrev s_press_row : Stmt := topS 24
abbrev s_Field___call__ : Stmt := clsS (topS 34) 2
abbrev s_L_nearest : Stmt := topS 42
abbrev s_L_key : Stmt := topS 43
abbrev s_L_pressed : Stmt := topS 44
abbrev s_Field___len__ : Stmt := clsS (topS 34) 3
abbrev s_Field___getitem__ : Stmt := clsS (topS 34) 4
abbrev s_is_on : Stmt := topS 25
abbrev s_Field___contains__ : Stmt := clsS (topS 34) 6
abbrev s_L_error : Stmt := topS 47
abbrev s_law : Stmt := topS 49
def D_is_between : He.DefD := ⟨("is_between", none), "is_between", "is_between", defArgs s_is_between, defBody s_is_between, defScope s_is_between, [], []⟩
def D_is_row : He.DefD := ⟨("is_row", none), "is_row", "is_row", defArgs s_is_row, defBody s_is_row, defScope s_is_row, [], []⟩
def D_L_source : He.DefD := ⟨("_law_source", none), "_law_source", "_law_source", defArgs s_L_source, defBody s_L_source, defScope s_L_source, [], []⟩
def D_L_draw : He.DefD := ⟨("_law_draw", none), "_law_draw", "_law_draw", defArgs s_L_draw, defBody s_L_draw, defScope s_L_draw, [], []⟩
def D_L_choice : He.DefD := ⟨("_law_choice", none), "_law_choice", "_law_choice", defArgs s_L_choice, defBody s_L_choice, defScope s_L_choice, [], []⟩
def D_L_field : He.DefD := ⟨("_law_field", none), "_law_field", "_law_field", defArgs s_L_field, defBody s_L_field, defScope s_L_field, [], []⟩
def D_grid_of : He.DefD := ⟨("grid_of", none), "grid_of", "grid_of", defArgs s_grid_of, defBody s_grid_of, defScope s_grid_of, [], []⟩
def D_is_word : He.DefD := ⟨("is_word", none), "is_word", "is_word", defArgs s_is_word, defBody s_is_word, defScope s_is_word, [], []⟩
def D_is_field : He.DefD := ⟨("is_field", none), "is_field", "is_field", defArgs s_is_field, defBody s_is_field, defScope s_is_field, [], []⟩
def D_L_near : He.DefD := ⟨("_law_near", none), "_law_near", "_law_near", defArgs s_L_near, defBody s_L_near, defScope s_L_near, [], []⟩
def D_L_value : He.DefD := ⟨("_law_value", none), "_law_value", "_law_value", defArgs s_L_value, defBody s_L_value, defScope s_L_value, [], []⟩
def D_L_row : He.DefD := ⟨("_law_row", none), "_law_row", "_law_row", defArgs s_L_row, defBody s_L_row, defScope s_L_row, [], []⟩
def D_Field___init__ : He.DefD := ⟨("Field", some "__init__"), "__init__", "Field.__init__", defArgs s_Field___init__, defBody s_Field___init__, defScope s_Field___init__, [.int 1, .int 0, .str "next", .str "stop", .int 10], []⟩
def D_L_made : He.DefD := ⟨("_law_made", none), "_law_made", "_law_made", defArgs s_L_made, defBody s_L_made, defScope s_L_made, [], []⟩
def D_L_steps : He.DefD := ⟨("_law_steps", none), "_law_steps", "_law_steps", defArgs s_L_steps, defBody s_L_steps, defScope s_L_steps, [], []⟩
def D_rests_of : He.DefD := ⟨("rests_of", none), "rests_of", "rests_of", defArgs s_rests_of, defBody s_rests_of, defScope s_rests_of, [], []⟩
def D_values_of : He.DefD := ⟨("values_of", none), "values_of", "values_of", defArgs s_values_of, defBody s_values_of, defScope s_values_of, [], []⟩
def D_aim_of : He.DefD := ⟨("aim_of", none), "aim_of", "aim_of", defArgs s_aim_of, defBody s_aim_of, defScope s_aim_of, [], []⟩
def D_many_steps : He.DefD := ⟨("many_steps", none), "many_steps", "many_steps", defArgs s_many_steps, defBody s_many_steps, defScope s_many_steps, [], []⟩
def D_press_key : He.DefD := ⟨("press_key", none), "press_key", "press_key", defArgs s_press_key, defBody s_press_key, defScope s_press_key, [], []⟩
def D_parting_of : He.DefD := ⟨("parting_of", none), "parting_of", "parting_of", defArgs s_parting_of, defBody s_parting_of, defScope s_parting_of, [], []⟩
def D_Field___eq__ : He.DefD := ⟨("Field", some "__eq__"), "__eq__", "Field.__eq__", defArgs s_Field___eq__, defBody s_Field___eq__, defScope s_Field___eq__, [], []⟩
def D_need_field : He.DefD := ⟨("need_field", none), "need_field", "need_field", defArgs s_need_field, defBody s_need_field, defScope s_need_field, [], []⟩
def D_need_both : He.DefD := ⟨("need_both", none), "need_both", "need_both", defArgs s_need_both, defBody s_need_both, defScope s_need_both, [], []⟩
def D_alike : He.DefD := ⟨("alike", none), "alike", "alike", defArgs s_alike, defBody s_alike, defScope s_alike, [], []⟩
def D_Field___eq__t : He.DefD := ⟨("Field", some "__eq__"), "__eq__", "Field.__eq__", defArgs s_Field___eq__t, defBody s_Field___eq__t, defScope s_Field___eq__t, [], []⟩
def D_need_value : He.DefD := ⟨("need_value", none), "need_value", "need_value", defArgs s_need_value, defBody s_need_value, defScope s_need_value, [], []⟩
def D_need_row : He.DefD := ⟨("need_row", none), "need_row", "need_row", defArgs s_need_row, defBody s_need_row, defScope s_need_row, [], []⟩
def D_press_row : He.DefD := ⟨("press_row", none), "press_row", "press_row", defArgs s_press_row, defBody s_press_row, defScope s_press_row, [], []⟩
def D_Field___call__ : He.DefD := ⟨("Field", some "__call__"), "__call__", "Field.__call__", defArgs s_Field___call__, defBody s_Field___call__, defScope s_Field___call__, [], []⟩
def D_L_nearest : He.DefD := ⟨("_law_nearest", none), "_law_nearest", "_law_nearest", defArgs s_L_nearest, defBody s_L_nearest, defScope s_L_nearest, [], []⟩
def D_L_key : He.DefD := ⟨("_law_key", none), "_law_key", "_law_key", defArgs s_L_key, defBody s_L_key, defScope s_L_key, [], []⟩
def D_L_pressed : He.DefD := ⟨("_law_pressed", none), "_law_pressed", "_law_pressed", defArgs s_L_pressed, defBody s_L_pressed, defScope s_L_pressed, [], []⟩
def D_Field___len__ : He.DefD := ⟨("Field", some "__len__"), "__len__", "Field.__len__", defArgs s_Field___len__, defBody s_Field___len__, defScope s_Field___len__, [], []⟩
def D_Field___getitem__ : He.DefD := ⟨("Field", some "__getitem__"), "__getitem__", "Field.__getitem__", defArgs s_Field___getitem__, defBody s_Field___getitem__, defScope s_Field___getitem__, [], []⟩
def D_is_on : He.DefD := ⟨("is_on", none), "is_on", "is_on", defArgs s_is_on, defBody s_is_on, defScope s_is_on, [], []⟩
def D_Field___contains__ : He.DefD := ⟨("Field", some "__contains__"), "__contains__", "Field.__contains__", defArgs s_Field___contains__, defBody s_Field___contains__, defScope s_Field___contains__, [], []⟩
def D_L_error : He.DefD := ⟨("_law_error", none), "_law_error", "_law_error", defArgs s_L_error, defBody s_L_error, defScope s_L_error, [], []⟩
def D_law : He.DefD := ⟨("law", none), "law", "law", defArgs s_law, defBody s_law, defScope s_law, [], []⟩
def hfn : List He.DefD := ([D_is_between, D_is_row, D_L_source, D_L_draw, D_L_choice, D_L_field, D_grid_of, D_is_word, D_is_field, D_L_near, D_L_value, D_L_row, D_Field___init__, D_L_made, D_L_steps, D_rests_of, D_values_of, D_aim_of, D_many_steps, D_press_key] : List He.DefD) ++ ([D_parting_of, D_Field___eq__, D_need_field, D_need_both, D_alike, D_Field___eq__t, D_need_value, D_need_row, D_press_row, D_Field___call__, D_L_nearest, D_L_key, D_L_pressed, D_Field___len__, D_Field___getitem__, D_is_on, D_Field___contains__, D_L_error, D_law] : List He.DefD)
def hfa : List He.Fa := ([.glo "is_between", .glo "is_row", .glo "_law_source", .glo "_law_draw", .glo "_law_choice", .glo "_law_field", .glo "grid_of", .glo "is_word", .glo "is_field", .glo "_law_near", .glo "_law_value", .glo "_law_row", .meth "Field" "__init__", .glo "_law_made", .glo "_law_steps", .glo "rests_of", .glo "values_of", .glo "aim_of", .glo "many_steps", .glo "press_key"] : List He.Fa) ++ ([.glo "parting_of", .meth "Field" "__eq__", .glo "need_field", .glo "need_both", .glo "alike", .meth "Field" "__eq__", .glo "need_value", .glo "need_row", .glo "press_row", .meth "Field" "__call__", .glo "_law_nearest", .glo "_law_key", .glo "_law_pressed", .meth "Field" "__len__", .meth "Field" "__getitem__", .glo "is_on", .meth "Field" "__contains__", .glo "_law_error", .glo "law", .free "len"] : List He.Fa) ++ ([.free "abs", .free "all", .free "any", .free "range", .free "int", .free "str", .free "tuple", .free "bool", .free "isinstance", .free "min", .free "max", .free "list", .free "sum", .free "sorted", .free "set", .free "zip", .free "enumerate", .free "dict", .int "MOST" 1000000000000, .int "MOST_KEYS" 40] : List He.Fa) ++ ([.str "KEYS" "udUDhe", .glo "OFFS", .glo "ENDS", .int "FEW" 400, .cls "Field", .mkr "Field", .glo "Field", .noat "Field" "parts"] : List He.Fa)
def hts : List (Str × List Str) := [("OFFS", ["add", "near", "next"]), ("ENDS", ["round", "stay", "stop"])]
def hloose : List Str := (["StepError", "InvalidField", "InvalidValue", "InvalidRow", "InvalidIndex", "Unlike", "MOST", "MOST_KEYS", "KEYS", "OFFS", "ENDS", "is_between", "is_word", "grid_of", "is_field", "is_row", "need_field", "need_value", "need_row", "many_steps"] : List Str) ++ (["aim_of", "press_key", "press_row", "is_on", "FEW", "rests_of", "values_of", "parting_of", "need_both", "alike", "Field", "_law_source", "_law_draw", "_law_choice", "_law_field", "_law_value", "_law_row", "_law_nearest", "_law_key", "_law_pressed"] : List Str) ++ (["_law_steps", "_law_near", "_law_error", "_law_made"] : List Str)
def htf : List He.Defn := [("law", none)]
def hiv : InV := some ("source", "Field.source", defArgs s_Field_source, .stmts (defBody s_Field_source), defScope s_Field_source, mainGlobals, builtinsNs)
def hex (K : PySem.W.Frag) : Bool := clsIB K (He.ga K "Field") && (propB K (He.ga K "Field") "source" "Field.source" && (errB K errAl errCs && apartB K htf))
def hio : PySem.W.Frag → InV := fun K => propObs K "Field" "source"
abbrev hR : PySem.W.OpenRow := PySem.W.OpenLaw.row PySem.Challenge.rw_stepfields_k21_fields_as_values
abbrev hk : PySem.W.Hook := hookLW 5 hfa hfn hts htf hex hio hiv
def hob (s : PySem.W.SharedT) : AlL := obsLW 5 hfa hfn hts htf hex hio (HandSHeadRun.getT s)
theorem hob_eq (s : PySem.W.SharedT) : hob s = hk.obs s.abs := obsLW_eq (HandSHeadRun.getT_eq s)
theorem hrun (w : World) : HandSHeadRun.RunEq hR (PySem.W.view hR.prog [49]) hk hob 9000 hloose w := by
  intro os
  kernel_rfl
end Sf
namespace Sf
open PySem PySem.Spec PyProof.Rows L2 Evl
/-! ### the program's functions as plain functions -/
structure FOk (f : Fld) : Prop where
  l0 : -1000000000000 ≤ f.low
  lh : f.low < f.high
  h1 : f.high ≤ 1000000000000
  s0 : 1 ≤ f.step
  s1 : f.step ≤ 1000000000000
  b0 : -1000000000000 ≤ f.base
  b1 : f.base ≤ 1000000000000
  off : f.off = "add" ∨ f.off = "near" ∨ f.off = "next"
  ends : f.ends = "round" ∨ f.ends = "stay" ∨ f.ends = "stop"
  g0 : 2 ≤ f.big
  g1 : f.big ≤ 12
  on : f.base - (f.base - f.low) / f.step * f.step ≤ f.base + (f.high - f.base) / f.step * f.step
def isBetween : PyData → Int → Int → Bool
  | .int i, lo, hi => decide (lo ≤ i) && decide (i ≤ hi)
  | _, _, _ => false
def isWord : PyData → Tpl Str → Bool
  | .str s, ws => decide (s ∈ ws.l)
  | _, _ => false
def LOK (low high step bas : Int) : Prop := -1000000000000 ≤ low ∧ low < high ∧ high ≤ 1000000000000 ∧ 1 ≤ step ∧ step ≤ 1000000000000 ∧ -1000000000000 ≤ bas ∧ bas ≤ 1000000000000
instance (a b c d : Int) : Decidable (LOK a b c d) := by unfold LOK; infer_instance
/-- the four ints of a field are in their bounds -/
def FL (f : Fld) : Prop := LOK f.low f.high f.step f.base
def fokB (f : Fld) : Bool := decide (LOK f.low f.high f.step f.base) && decide (f.off ∈ (["add", "near", "next"] : List Str)) && decide (f.ends ∈ (["round", "stay", "stop"] : List Str)) && decide (2 ≤ f.big ∧ f.big ≤ 12) && decide (f.base - (f.base - f.low) / f.step * f.step ≤ f.base + (f.high - f.base) / f.step * f.step)
def gridOf (f : Fld) : Int × Int := (f.base - (f.base - f.low) / f.step * f.step, f.base + (f.high - f.base) / f.step * f.step)
def aimOf (f : Fld) (v m : Int) : Int :=
  if f.off = "add" then v + m * f.step
  else if f.off = "near" then f.base + ((2 * (v - f.base) + f.step) / (2 * f.step) + m) * f.step
  else if 0 < m then f.base + ((v - f.base) / f.step + m) * f.step
  else f.base + (-((f.base - v) / f.step) + m) * f.step
/-- a key, by its sign: u 117, d 100, U 85, D 68, h 104, e 101 -/
def isKey (c : Nat) : Prop := c = 117 ∨ c = 100 ∨ c = 85 ∨ c = 68 ∨ c = 104 ∨ c = 101
instance (c : Nat) : Decidable (isKey c) := by unfold isKey; infer_instance
def isMove (c : Nat) : Prop := c = 117 ∨ c = 100 ∨ c = 85 ∨ c = 68
instance (c : Nat) : Decidable (isMove c) := by unfold isMove; infer_instance
def manySteps (f : Fld) (c : Nat) : Int := if c = 117 then 1 else if c = 100 then -1 else if c = 85 then f.big else -f.big
def pressKey (f : Fld) (v : Int) (c : Nat) : Int :=
  if c = 104 then f.low else if c = 101 then f.high else
  let aim := aimOf f v (manySteps f c)
  if f.low ≤ aim ∧ aim ≤ f.high then aim
  else if f.ends = "stay" then v
  else if f.ends = "round" then (if aim > f.high then f.low else f.high)
  else (if aim > f.high then f.high else f.low)
def pressRow (f : Fld) (v : Int) (r : List Nat) : Int := r.foldl (pressKey f) v

def isField : PyData → Bool
  | .tuple [.int l, .int h, .int s, .int b, .str o, .str e, .int g] => fokB ⟨l, h, s, b, o, e, g⟩
  | _ => false
theorem len7 {α : Type} {ds : List α} (h : ds.length = 7) : ∃ d0 d1 d2 d3 d4 d5 d6, ds = [d0, d1, d2, d3, d4, d5, d6] := by
  match ds, h with
  | [d0, d1, d2, d3, d4, d5, d6], _ => exact ⟨_, _, _, _, _, _, _, rfl⟩
theorem isField_len {ds : List PyData} (h : ds.length ≠ 7) : isField (.tuple ds) = false := by
  unfold isField
  split
  · next e =>
    cases e
    exact absurd rfl h
  · rfl
theorem isBetween_int {d : PyData} {lo hi : Int} (h : isBetween d lo hi = true) : ∃ i, d = .int i ∧ lo ≤ i ∧ i ≤ hi := by
  cases d with
  | int i =>
    simp only [isBetween, Bool.and_eq_true, decide_eq_true_eq] at h
    exact ⟨i, rfl, h.1, h.2⟩
  | _ => cases h
theorem isWord_str {d : PyData} {ws : Tpl Str} (h : isWord d ws = true) : ∃ s, d = .str s ∧ s ∈ ws.l := by
  cases d with
  | str s =>
    simp only [isWord, decide_eq_true_eq] at h
    exact ⟨s, rfl, h⟩
  | _ => cases h
theorem isField_ints {d0 d1 d2 d3 d4 d5 d6 : PyData} (h : ¬ (isBetween d0 (-1000000000000) 1000000000000 = true ∧ isBetween d1 (-1000000000000) 1000000000000 = true ∧ isBetween d2 (-1000000000000) 1000000000000 = true ∧ isBetween d3 (-1000000000000) 1000000000000 = true)) :
    isField (.tuple [d0, d1, d2, d3, d4, d5, d6]) = false := by
  unfold isField
  split
  · next e =>
    cases e
    rw [← Bool.not_eq_true]
    intro z
    apply h
    unfold fokB at z
    simp only [Bool.and_eq_true, decide_eq_true_eq] at z
    obtain ⟨z1, z2, z3, z4, z5, z6, z7⟩ := z.1.1.1.1
    simp only [isBetween, Bool.and_eq_true, decide_eq_true_eq]
    omega
  · rfl
theorem isField_no {l h s b : Int} {d4 d5 d6 : PyData} (z : h ≤ l ∨ s < 1) : isField (.tuple [.int l, .int h, .int s, .int b, d4, d5, d6]) = false := by
  unfold isField
  split
  · next e =>
    cases e
    rw [← Bool.not_eq_true]
    intro y
    unfold fokB at y
    simp only [Bool.and_eq_true, decide_eq_true_eq] at y
    obtain ⟨z1, z2, z3, z4, z5, z6, z7⟩ := y.1.1.1.1
    omega
  · rfl
theorem isField_words {l h s b : Int} {d4 d5 d6 : PyData} (z : isWord d4 (Tpl.mk ["add", "near", "next"]) = false ∨ isWord d5 (Tpl.mk ["round", "stay", "stop"]) = false ∨ isBetween d6 2 12 = false) : isField (.tuple [.int l, .int h, .int s, .int b, d4, d5, d6]) = false := by
  unfold isField
  split
  · next e =>
    cases e
    rw [← Bool.not_eq_true]
    intro y
    unfold fokB at y
    simp only [Bool.and_eq_true, decide_eq_true_eq] at y
    rcases z with z | z | z
    · simp only [isWord, decide_eq_false_iff_not] at z
      exact z y.1.1.1.2
    · simp only [isWord, decide_eq_false_iff_not] at z
      exact z y.1.1.2
    · simp only [isBetween, ← Bool.not_eq_true, Bool.and_eq_true, decide_eq_true_eq] at z
      exact z y.1.2
  · rfl
theorem isField_yes {l h s b g : Int} {o e : Str} (l0 : -1000000000000 ≤ l) (lh : l < h) (h1 : h ≤ 1000000000000) (s0 : 1 ≤ s) (s1 : s ≤ 1000000000000) (b0 : -1000000000000 ≤ b) (b1 : b ≤ 1000000000000)
    (ho : o ∈ (["add", "near", "next"] : List Str)) (he : e ∈ (["round", "stay", "stop"] : List Str)) (g0 : 2 ≤ g) (g1 : g ≤ 12) :
    isField (.tuple [.int l, .int h, .int s, .int b, .str o, .str e, .int g]) = decide ((gridOf ⟨l, h, s, b, o, e, g⟩).1 ≤ (gridOf ⟨l, h, s, b, o, e, g⟩).2) := by
  unfold isField fokB gridOf
  simp only [decide_eq_true (show LOK l h s b from ⟨l0, lh, h1, s0, s1, b0, b1⟩), decide_eq_true ho, decide_eq_true he, decide_eq_true (show 2 ≤ g ∧ g ≤ 12 from ⟨g0, g1⟩), Bool.true_and]
theorem rel_texts {K : PySem.W.Frag} {H : Hp} {a : Addr} {xs : List Str} (h : ∀ H, SqT K H a (xs.map V.str)) : Rep.rel K H (.ref a) (Tpl.mk xs) := ⟨a, xs.map V.str, rfl, h H, by
  induction xs with
  | nil => exact .nil
  | cons x r ih => exact .cons rfl (by
      have g : ∀ r : List Str, rels K H (r.map V.str) r := by
        intro r
        induction r with
        | nil => exact .nil
        | cons y r ih => exact .cons rfl ih
      exact g r)⟩
theorem FOk.fl {f : Fld} (h : FOk f) : FL f := ⟨h.l0, h.lh, h.h1, h.s0, h.s1, h.b0, h.b1⟩
theorem FOk.isField {f : Fld} (h : FOk f) : isField (Enc.enc f) = true := by
  obtain ⟨l0, lh, h1, s0, s1, b0, b1, off, ends, g0, g1, on⟩ := h
  have z := isField_yes (l := f.low) (h := f.high) (s := f.step) (b := f.base) (g := f.big) (o := f.off) (e := f.ends) l0 lh h1 s0 s1 b0 b1 (by simpa using off) (by simpa using ends) g0 g1
  refine z.trans ?_
  exact decide_eq_true on
def rowOk (z : Str) : Prop := z.cps.toList.length ≤ 40 ∧ ∀ c ∈ z.cps.toList, isKey c
def isRow : PyData → Bool
  | .str z => decide (z.cps.toList.length ≤ 40) && z.cps.toList.all fun c => decide (isKey c)
  | _ => false
theorem rowOk.isRow {z : Str} (h : rowOk z) : isRow (.str z) = true := by
  unfold Sf.isRow
  simp only [Bool.and_eq_true, decide_eq_true_eq, List.all_eq_true]
  exact ⟨h.1, h.2⟩
theorem keys_mem {c : Nat} : c ∈ ("udUDhe" : Str).cps.toList ↔ isKey c := by
  have e : ("udUDhe" : Str).cps.toList = [117, 100, 85, 68, 104, 101] := by decide
  rw [e]
  simp only [List.mem_cons, List.not_mem_nil, or_false, isKey]
theorem rowOk_len {a : Str} (h : rowOk a) : ∀ z, (Enc.enc a : PyData) = .str z → z.length ≤ 100000 := by
  intro z e
  have e2 : a = z := by
    have e3 : PyData.str a = PyData.str z := e
    injection e3
  subst e2
  have h1 := h.1
  show a.cps.size ≤ 100000
  simp only [Array.length_toList] at h1
  omega

/-- what a drawn field keeps -/
structure FieldPost (wide : Int) (f : Fld) : Prop where
  ok : FOk f
  low0 : -30 ≤ f.low
  low1 : f.low ≤ 29
  span : f.high - f.low ≤ max (8 * f.step) wide
  st : f.step ≤ 12 ∨ (1000 < wide ∧ f.step ≤ wide / 5)
  ba0 : min 0 (f.low - f.step) ≤ f.base
  ba1 : f.base ≤ max 0 f.high
/-- the greatest multiple below: x = y * (x / y) + x % y, told for omega -/
theorem div_le {x y : Int} (h : 0 < y) : x / y * y ≤ x ∧ x < x / y * y + y := by
  have h1 := Int.emod_add_mul_ediv x y
  have h2 := Int.emod_nonneg x (show y ≠ 0 by omega)
  have h3 := Int.emod_lt_of_pos x h
  have h4 : y * (x / y) = x / y * y := Int.mul_comm _ _
  omega
theorem on_of {base low high step : Int} (hs : 0 < step) (h : base - (base - low) / step * step ≤ high) : base - (base - low) / step * step ≤ base + (high - base) / step * step := by
  have a := div_le (x := high - base) hs
  have e : -((base - low) / step) ≤ (high - base) / step := by
    have h1 : -((base - low) / step) * step ≤ high - base := by
      rw [Int.neg_mul]
      omega
    exact (Int.le_ediv_iff_mul_le hs).mpr h1
  have h2 : -((base - low) / step) * step ≤ (high - base) / step * step := Int.mul_le_mul_of_nonneg_right e (by omega)
  rw [Int.neg_mul] at h2
  omega

def lawNearest (f : Fld) (v : Int) : Int := if 2 * (v - (f.base + (v - f.base) / f.step * f.step)) < f.step then f.base + (v - f.base) / f.step * f.step else f.base + (v - f.base) / f.step * f.step + f.step
/-- quotients by their bounds -/
theorem div_eq {x y q : Int} (h : 0 < y) (a : q * y ≤ x) (b : x < q * y + y) : x / y = q := by
  have h1 : q ≤ x / y := (Int.le_ediv_iff_mul_le h).mpr a
  have h2 : x / y < q + 1 := (Int.ediv_lt_iff_lt_mul h).mpr (by rw [Int.add_mul]; omega)
  omega
theorem nearest_eq {f : Fld} {v : Int} (hs : 1 ≤ f.step) : lawNearest f v = f.base + (2 * (v - f.base) + f.step) / (2 * f.step) * f.step := by
  unfold lawNearest
  have a := div_le (x := v - f.base) (y := f.step) (by omega)
  generalize hq : (v - f.base) / f.step = q at a
  split
  · next h =>
    have e : (2 * (v - f.base) + f.step) / (2 * f.step) = q := div_eq (by omega) (by
      have z : q * (2 * f.step) = 2 * (q * f.step) := by rw [Int.mul_left_comm]
      omega) (by
      have z : q * (2 * f.step) = 2 * (q * f.step) := by rw [Int.mul_left_comm]
      omega)
    rw [e]
  · next h =>
    have e : (2 * (v - f.base) + f.step) / (2 * f.step) = q + 1 := div_eq (by omega) (by
      have z : (q + 1) * (2 * f.step) = 2 * (q * f.step) + 2 * f.step := by rw [Int.add_mul, Int.mul_left_comm, Int.one_mul]
      omega) (by
      have z : (q + 1) * (2 * f.step) = 2 * (q * f.step) + 2 * f.step := by rw [Int.add_mul, Int.mul_left_comm, Int.one_mul]
      omega)
    rw [e, Int.add_mul, Int.one_mul]
    omega
/-- (a - b) by the step, upward -/
theorem up_eq {b v s : Int} (hs : 1 ≤ s) : b + -((b - v) / s) * s = (if b + (v - b) / s * s = v then b + (v - b) / s * s else b + (v - b) / s * s + s) := by
  have a := div_le (x := v - b) (y := s) (by omega)
  generalize hq : (v - b) / s = q at a
  have nq : ∀ r : Int, -r * s = -(r * s) := fun r => Int.neg_mul ..
  split
  · next h =>
    have e : (b - v) / s = -q := div_eq (by omega) (by rw [nq]; omega) (by rw [nq]; omega)
    rw [e, Int.neg_neg]
  · next h =>
    have z : -(q + 1) * s = -(q * s) - s := by rw [Int.neg_mul, Int.add_mul, Int.one_mul]; omega
    have e : (b - v) / s = -(q + 1) := div_eq (by omega) (by rw [z]; omega) (by rw [z]; omega)
    rw [e, Int.neg_neg, Int.add_mul, Int.one_mul]
    omega

def rowOkB (z : Str) : Bool := decide (z.cps.toList.length ≤ 40) && z.cps.toList.all fun c => decide (isKey c)
theorem rowOkB_ok {z : Str} (h : rowOkB z = true) : rowOk z := by
  unfold rowOkB at h
  simp only [Bool.and_eq_true, decide_eq_true_eq, List.all_eq_true] at h
  exact h
theorem sg_moves {c : Nat} : c ∈ ("udUD" : Str).cps.toList ↔ isMove c := by
  have e : ("udUD" : Str).cps.toList = [117, 100, 85, 68] := by decide
  rw [e]
  simp only [List.mem_cons, List.not_mem_nil, or_false, isMove]
theorem aim_on {f : Fld} {v m : Int} (h : ¬ f.off = "add") : (aimOf f v m - f.base) % f.step = 0 := by
  unfold aimOf
  rw [if_neg h]
  have z : ∀ k : Int, (f.base + k * f.step - f.base) % f.step = 0 := fun k => by
    rw [show f.base + k * f.step - f.base = k * f.step by omega]
    exact Int.mul_emod_left k f.step
  split
  · exact z _
  · split
    · exact z _
    · exact z _
theorem pressKey_move {f : Fld} {v : Int} {c : Nat} (h : isMove c) : pressKey f v c = (if f.low ≤ aimOf f v (manySteps f c) ∧ aimOf f v (manySteps f c) ≤ f.high then aimOf f v (manySteps f c)
      else if f.ends = "stay" then v else if f.ends = "round" then (if aimOf f v (manySteps f c) > f.high then f.low else f.high) else (if aimOf f v (manySteps f c) > f.high then f.high else f.low)) := by
  unfold pressKey
  have h1 : c ≠ 104 := by
    rcases h with z | z | z | z <;> omega
  have h2 : c ≠ 101 := by
    rcases h with z | z | z | z <;> omega
  rw [if_neg h1, if_neg h2]
theorem key_cases {c : Nat} (h : isKey c) : isMove c ∨ c = 104 ∨ c = 101 := by
  rcases h with z | z | z | z | z | z
  · exact .inl (.inl z)
  · exact .inl (.inr (.inl z))
  · exact .inl (.inr (.inr (.inl z)))
  · exact .inl (.inr (.inr (.inr z)))
  · exact .inr (.inl z)
  · exact .inr (.inr z)
theorem pressKey_in {f : Fld} {v : Int} {c : Nat} (hf : FL f) (hv : f.low ≤ v ∧ v ≤ f.high) (hk : isKey c) : f.low ≤ pressKey f v c ∧ pressKey f v c ≤ f.high := by
  have lh := hf.2.1
  rcases key_cases hk with h | h | h
  · rw [pressKey_move h]
    repeat' split
    all_goals omega
  · subst h
    show f.low ≤ f.low ∧ f.low ≤ f.high
    omega
  · subst h
    show f.low ≤ f.high ∧ f.high ≤ f.high
    omega
theorem pressKey_props {f : Fld} {v : Int} {c : Nat} (hf : FOk f) (hv : f.low ≤ v ∧ v ≤ f.high) (hk : isKey c) : f.low ≤ pressKey f v c ∧ pressKey f v c ≤ f.high ∧
    (¬ f.off = "add" → isMove c → (pressKey f v c - f.base) % f.step = 0 ∨ (pressKey f v c = f.low ∨ pressKey f v c = f.high ∨ pressKey f v c = v)) := by
  refine ⟨(pressKey_in hf.fl hv hk).1, (pressKey_in hf.fl hv hk).2, fun ha hm => ?_⟩
  have z := aim_on (f := f) (v := v) (m := manySteps f c) ha
  rw [pressKey_move hm]
  repeat' split
  · exact .inl z
  all_goals simp
end Sf

namespace Sf
open PySem PySem.Spec PyProof.Rows L2 Evl

/-! ### data that == tells apart -/
class EqT (α : Type) [Rep α] [Enc α] [DecidableEq α] where
  good : α → Prop
  dep : Nat
  can : ∀ {x : α}, good x → (Enc.enc x).canLay0 = true
  dle : ∀ (x : α), (Enc.enc x).depth ≤ dep
  eqv : ∀ (x y : α), PyData.eqv (Enc.enc x) (Enc.enc y) = decide (x = y)
theorem bl_eq {a b : Bool} {p : Prop} [Decidable p] (h : (a == b) = true ↔ p) : (a == b) = decide p := by
  rw [Bool.eq_iff_iff]
  simp only [h, decide_eq_true_eq]
theorem st_eqv (x y : Str) : PyData.eqv (.str x) (.str y) = decide (x = y) := by
  simp only [PyData.eqv]
  rw [Bool.eq_iff_iff]
  simp
instance : EqT Int := ⟨fun _ => True, 0, fun _ => rfl, fun _ => Nat.le_refl _, fun x y => by
  show PyData.eqv (.int x) (.int y) = _
  simp only [PyData.eqv]
  rw [Bool.eq_iff_iff]
  simp⟩
instance : EqT Bool := ⟨fun _ => True, 0, fun _ => rfl, fun _ => Nat.le_refl _, fun x y => by
  show PyData.eqv (.bool x) (.bool y) = _
  simp only [PyData.eqv]
  rw [Bool.eq_iff_iff]
  simp⟩
def strG (x : Str) : Prop := x.cps.all (· < 0x110000) = true
instance : EqT Str := ⟨strG, 0, fun h => h, fun _ => Nat.le_refl _, fun x y => st_eqv x y⟩
instance : EqT Sg := ⟨fun s => s.c < 0x110000, 0, fun {x} h => by
  have h0 : x.c < 0x110000 := h
  show (#[x.c]).all (· < 0x110000) = true
  simp [h0], fun _ => Nat.le_refl _, fun x y => by
  show PyData.eqv (.str ⟨#[x.c]⟩) (.str ⟨#[y.c]⟩) = _
  rw [st_eqv]
  rw [Bool.eq_iff_iff]
  simp only [decide_eq_true_eq, sg_eq]
  constructor
  · intro h
    cases x
    cases y
    simp only [Sg.mk.injEq]
    exact h
  · intro h
    rw [h]⟩
instance : EqT Unit := ⟨fun _ => True, 0, fun _ => rfl, fun _ => Nat.le_refl _, fun x y => by
  cases x
  cases y
  rfl⟩
section
variable {α β γ : Type} [Rep α] [Rep β] [Rep γ] [Enc α] [Enc β] [Enc γ] [DecidableEq α] [DecidableEq β] [DecidableEq γ] [EqT α] [EqT β] [EqT γ]
instance : EqT (α × β) := ⟨fun x => EqT.good x.1 ∧ EqT.good x.2, max (EqT.dep α) (EqT.dep β) + 1, fun {x} h => by
  show PyData.canLay0 (.tuple [Enc.enc x.1, Enc.enc x.2]) = true
  simp only [PyData.canLay0, PyData.canLayAll0, EqT.can h.1, EqT.can h.2, Bool.and_true], fun x => by
  show PyData.depth (.tuple [Enc.enc x.1, Enc.enc x.2]) ≤ _
  have h1 := EqT.dle x.1
  have h2 := EqT.dle x.2
  simp only [PyData.depth, PyData.depthAll]
  omega, fun x y => by
  show PyData.eqv (.tuple [Enc.enc x.1, Enc.enc x.2]) (.tuple [Enc.enc y.1, Enc.enc y.2]) = _
  simp only [PyData.eqv, PyData.eqvAll, EqT.eqv, Bool.and_true]
  rw [Bool.eq_iff_iff]
  simp only [Bool.and_eq_true, decide_eq_true_eq, Prod.ext_iff]⟩
instance : EqT (Tri α β γ) := ⟨fun x => EqT.good x.a ∧ EqT.good x.b ∧ EqT.good x.c, max (EqT.dep α) (max (EqT.dep β) (EqT.dep γ)) + 1, fun {x} h => by
  show PyData.canLay0 (.tuple [Enc.enc x.a, Enc.enc x.b, Enc.enc x.c]) = true
  simp only [PyData.canLay0, PyData.canLayAll0, EqT.can h.1, EqT.can h.2.1, EqT.can h.2.2, Bool.and_true], fun x => by
  show PyData.depth (.tuple [Enc.enc x.a, Enc.enc x.b, Enc.enc x.c]) ≤ _
  have h1 := EqT.dle x.a
  have h2 := EqT.dle x.b
  have h3 := EqT.dle x.c
  simp only [PyData.depth, PyData.depthAll]
  omega, fun x y => by
  show PyData.eqv (.tuple [Enc.enc x.a, Enc.enc x.b, Enc.enc x.c]) (.tuple [Enc.enc y.a, Enc.enc y.b, Enc.enc y.c]) = _
  simp only [PyData.eqv, PyData.eqvAll, EqT.eqv, Bool.and_true]
  rw [Bool.eq_iff_iff]
  cases x
  cases y
  simp only [Bool.and_eq_true, decide_eq_true_eq, Tri.mk.injEq]⟩
theorem all_can : ∀ (xs : List α), (∀ x ∈ xs, EqT.good x) → PyData.canLayAll0 (xs.map Enc.enc) = true
  | [], _ => rfl
  | x :: r, h => by
    simp only [List.map_cons, PyData.canLayAll0, EqT.can (h x (List.mem_cons_self ..)), all_can r fun y hy => h y (List.mem_cons_of_mem _ hy), Bool.and_true]
theorem all_dle : ∀ (xs : List α), PyData.depthAll (xs.map Enc.enc) ≤ EqT.dep α
  | [] => Nat.zero_le _
  | x :: r => by
    have h1 := EqT.dle x
    have h2 := all_dle r
    simp only [List.map_cons, PyData.depthAll]
    omega
theorem all_eqv : ∀ (xs ys : List α), PyData.eqvAll (xs.map Enc.enc) (ys.map Enc.enc) = decide (xs = ys)
  | [], [] => rfl
  | [], _ :: _ => by simp [PyData.eqvAll]
  | _ :: _, [] => by simp [PyData.eqvAll]
  | x :: r, y :: r' => by
    simp only [List.map_cons, PyData.eqvAll, EqT.eqv, all_eqv r r']
    rw [Bool.eq_iff_iff]
    simp only [Bool.and_eq_true, decide_eq_true_eq, List.cons.injEq]
instance : EqT (List α) := ⟨fun xs => ∀ x ∈ xs, EqT.good x, EqT.dep α + 1, fun {xs} h => by
  show PyData.canLay0 (.list (xs.map Enc.enc)) = true
  simp only [PyData.canLay0, all_can xs h], fun xs => by
  show PyData.depth (.list (xs.map Enc.enc)) ≤ _
  simp only [PyData.depth]
  exact Nat.succ_le_succ (all_dle xs), fun xs ys => by
  show PyData.eqv (.list (xs.map Enc.enc)) (.list (ys.map Enc.enc)) = _
  simp only [PyData.eqv, all_eqv]⟩
instance : EqT (Tpl α) := ⟨fun xs => ∀ x ∈ xs.l, EqT.good x, EqT.dep α + 1, fun {xs} h => by
  show PyData.canLay0 (.tuple (xs.l.map Enc.enc)) = true
  simp only [PyData.canLay0, all_can xs.l h], fun xs => by
  show PyData.depth (.tuple (xs.l.map Enc.enc)) ≤ _
  simp only [PyData.depth]
  exact Nat.succ_le_succ (all_dle xs.l), fun xs ys => by
  show PyData.eqv (.tuple (xs.l.map Enc.enc)) (.tuple (ys.l.map Enc.enc)) = _
  simp only [PyData.eqv, all_eqv]
  cases xs
  cases ys
  simp only [Tpl.mk.injEq]⟩
/-- nothing of this kind is None -/
class NotNone (α : Type) [Rep α] [Enc α] : Prop where
  nn : ∀ x : α, PyData.eqv .none (Enc.enc x) = false ∧ PyData.eqv (Enc.enc x) .none = false
instance : NotNone Int := ⟨fun _ => ⟨by simp only [Enc.enc, PyData.eqv], by simp only [Enc.enc, PyData.eqv]⟩⟩
instance : NotNone Str := ⟨fun _ => ⟨by simp only [Enc.enc, PyData.eqv], by simp only [Enc.enc, PyData.eqv]⟩⟩
instance : NotNone (α × β) := ⟨fun _ => ⟨by simp only [Enc.enc, PyData.eqv], by simp only [Enc.enc, PyData.eqv]⟩⟩
instance : NotNone (Tri α β γ) := ⟨fun _ => ⟨by simp only [Enc.enc, PyData.eqv], by simp only [Enc.enc, PyData.eqv]⟩⟩
instance : NotNone (List α) := ⟨fun _ => ⟨by simp only [Enc.enc, PyData.eqv], by simp only [Enc.enc, PyData.eqv]⟩⟩
instance : NotNone (Tpl α) := ⟨fun _ => ⟨by simp only [Enc.enc, PyData.eqv], by simp only [Enc.enc, PyData.eqv]⟩⟩
instance [NotNone α] : EqT (Option α) := ⟨fun x => ∀ y, x = some y → EqT.good y, EqT.dep α, fun {x} h => by
  cases x with
  | none => rfl
  | some y => exact EqT.can (x := y) (h y rfl), fun x => by
  cases x with
  | none => exact Nat.zero_le _
  | some y => exact EqT.dle y, fun x y => by
  cases x with
  | none =>
    cases y with
    | none => rfl
    | some y => exact (NotNone.nn y).1
  | some x =>
    cases y with
    | none => exact (NotNone.nn x).2
    | some y =>
      refine (EqT.eqv x y).trans ?_
      rw [Bool.eq_iff_iff]
      simp only [decide_eq_true_eq, Option.some.injEq]⟩
end
instance : EqT Fld := ⟨fun f => strG f.off ∧ strG f.ends, 1, fun {f} h => by
  have h1 : f.off.cps.all (· < 0x110000) = true := h.1
  have h2 : f.ends.cps.all (· < 0x110000) = true := h.2
  show PyData.canLay0 (Fld.enc f) = true
  simp only [Fld.enc, PyData.canLay0, PyData.canLayAll0, PyData.strOk, h1, h2, Bool.and_true], fun f => by
  show PyData.depth (Fld.enc f) ≤ 1
  simp [Fld.enc, PyData.depth, PyData.depthAll], fun x y => by
  show PyData.eqv (Fld.enc x) (Fld.enc y) = _
  simp only [Fld.enc, PyData.eqv, PyData.eqvAll, Bool.and_true]
  rw [Bool.eq_iff_iff]
  cases x
  cases y
  simp⟩
section
variable {α β γ δ ε : Type} [Rep α] [Rep β] [Rep γ] [Rep δ] [Rep ε] {K : PySem.W.Frag} {σ σ' : L2.St} {H H' : Hp} {te tl ta tb tc td ts : TE} {tA : TA} {tt : TT} {u t1 t2 : TS} {D : Ends} {i j : Int} {a b : Bool}
theorem er_eqT [Enc α] [DecidableEq α] [EqT α] {x y : α} (ha : ER K ta σ H x) (hb : ER K tb σ H y) (gx : EqT.good x) (gy : EqT.good y) (hd : EqT.dep α ≤ 64) : ER K (tOp (rEqD K) ta tb) σ H (decide (x = y)) := by
  rw [← EqT.eqv x y]
  exact er_eqD (er_enc ha) (er_enc hb) (by
    simp only [SeqAt.shaped, EqT.can gx, Bool.true_and, decide_eq_true_eq]
    exact Nat.le_trans (EqT.dle x) hd) (by
    simp only [SeqAt.shaped, EqT.can gy, Bool.true_and, decide_eq_true_eq]
    exact Nat.le_trans (EqT.dle y) hd)
theorem er_neT [Enc α] [DecidableEq α] [EqT α] {x y : α} (ha : ER K ta σ H x) (hb : ER K tb σ H y) (gx : EqT.good x) (gy : EqT.good y) (hd : EqT.dep α ≤ 64) : ER K (tOp (rNeD K) ta tb) σ H (!decide (x = y)) := by
  rw [← EqT.eqv x y]
  exact er_neD (er_enc ha) (er_enc hb) (by
    simp only [SeqAt.shaped, EqT.can gx, Bool.true_and, decide_eq_true_eq]
    exact Nat.le_trans (EqT.dle x) hd) (by
    simp only [SeqAt.shaped, EqT.can gy, Bool.true_and, decide_eq_true_eq]
    exact Nat.le_trans (EqT.dle y) hd)
/-! ### more of single things -/
theorem er_none : ER K (tC .non) σ H () := fun H1 _ _ q => q _ H1 (Ex.refl H1) rfl
theorem er_noneO : ER K (tC .non) σ H (none : Option α) := fun H1 _ _ q => q _ H1 (Ex.refl H1) rfl
theorem er_some {x : α} (h : ER K te σ H x) : ER K te σ H (some x) := h
theorem er_g {c : Nat} {z : Str} (h : z = ⟨#[c]⟩) : ER K (tC (.str z)) σ H (Sg.mk c) := fun H1 _ _ q => q _ H1 (Ex.refl H1) (by rw [h]; rfl)
theorem er_c {v : V} {x : α} (r : Rep.rel K H v x) : ER K (tC v) σ H x := fun H1 e _ q => q v H1 (Ex.refl H1) (Rep.mono e r)
theorem er_addS {x y : Str} (ha : ER K ta σ H x) (hb : ER K tb σ H y) (hl : x.length + y.length ≤ 100000) : ER K (tOp rAddS ta tb) σ H (x ++ y) := er_SS ha hb fun H1 Q q => ⟨x, y, rfl, rfl, sz_of hl, q _ rfl⟩
theorem flat_rep {n : Nat} {xs : List α} {vs : List V} (h : rels K H vs xs) : rels K H (List.replicate n vs).flatten (List.replicate n xs).flatten := by
  induction n with
  | zero => exact .nil
  | succ n ih =>
    rw [List.replicate_succ, List.replicate_succ, List.flatten_cons, List.flatten_cons]
    exact rels_app h ih
theorem er_rep {xs : List α} (h : ER K ta σ H xs) (h2 : ER K tb σ H i) (h0 : 0 ≤ i ∧ i ≤ 100000) (hl : xs.length * i.toNat ≤ 100000) : ER K (tOp rRep ta tb) σ H (List.replicate i.toNat xs).flatten := fun H1 e Q q => h H1 e _ fun v H2 e2 ⟨l, vs, hv, hs, hr⟩ => h2 H2 (e.trans e2) _ fun w H3 e3 r2 => by
  cases r2
  refine ⟨l, i, vs, hv, rfl, e3 _ _ hs, by omega, by omega, by rw [rels_len hr]; exact sz_of hl, fun p hp => ?_⟩
  exact q _ _ ((e2.trans e3).trans (Ex.new hp)) ⟨p, _, rfl, upd_same, flat_rep (rels_mono (e3.trans (Ex.new hp)) hr)⟩
/-! ### what is drawn, put together -/
theorem en_op2 {r : R2} {P1 : α → Prop} {P2 : β → Prop} {P : γ → Prop} (ha : EN K ta σ H P1) (hb : EN K tb σ H P2) (h : ∀ x y v w H1, Ex H H1 → P1 x → P2 y → Rep.rel K H1 v x → Rep.rel K H1 w y → EN K (tOp r (tC v) (tC w)) σ H1 P) : EN K (tOp r ta tb) σ H P := fun H1 e Q q =>
  ha H1 e _ fun x v H2 p1 e2 r1 => hb H2 (e.trans e2) _ fun y w H3 p2 e3 r2 => h x y v w H3 ((e.trans e2).trans e3) p1 p2 (Rep.mono e3 r1) r2 H3 (Ex.refl _) Q fun z v' H4 p e4 r4 => q z v' H4 p ((e2.trans e3).trans e4) r4
theorem en_un {r : V → Hp → VK → Prop} {P1 : α → Prop} {P : γ → Prop} (ha : EN K ta σ H P1) (h : ∀ x v H1, Ex H H1 → P1 x → Rep.rel K H1 v x → EN K (tUn r (tC v)) σ H1 P) : EN K (tUn r ta) σ H P := fun H1 e Q q =>
  ha H1 e _ fun x v H2 p1 e2 r1 => h x v H2 (e.trans e2) p1 r1 H2 (Ex.refl _) Q fun z v' H4 p e4 r4 => q z v' H4 p (e2.trans e4) r4
theorem en_cb1 {r : List V → Hp → VK → Prop} {P1 : α → Prop} {P : γ → Prop} (ha : EN K ta σ H P1) (h : ∀ x v H1, Ex H H1 → P1 x → Rep.rel K H1 v x → EN K (tCB r (tCons (tC v) tNil)) σ H1 P) : EN K (tCB r (tCons ta tNil)) σ H P := fun H1 e Q q =>
  ha H1 e _ fun x v H2 p1 e2 r1 => h x v H2 (e.trans e2) p1 r1 H2 (Ex.refl _) Q fun z v' H4 p e4 r4 => q z v' H4 p (e2.trans e4) r4
theorem en_cb2 {r : List V → Hp → VK → Prop} {P1 : α → Prop} {P2 : β → Prop} {P : γ → Prop} (ha : EN K ta σ H P1) (hb : EN K tb σ H P2) (h : ∀ x y v w H1, Ex H H1 → P1 x → P2 y → Rep.rel K H1 v x → Rep.rel K H1 w y → EN K (tCB r (tCons (tC v) (tCons (tC w) tNil))) σ H1 P) : EN K (tCB r (tCons ta (tCons tb tNil))) σ H P := fun H1 e Q q =>
  ha H1 e _ fun x v H2 p1 e2 r1 => hb H2 (e.trans e2) _ fun y w H3 p2 e3 r2 => h x y v w H3 ((e.trans e2).trans e3) p1 p2 (Rep.mono e3 r1) r2 H3 (Ex.refl _) Q fun z v' H4 p e4 r4 => q z v' H4 p ((e2.trans e3).trans e4) r4
theorem en_ca1 {sp : Sp} {dvs : List V} {E : XK} {P1 : α → Prop} {P : γ → Prop} (ha : EN K ta σ H P1) (h : ∀ x v H1, Ex H H1 → P1 x → Rep.rel K H1 v x → EN K (tCall sp dvs E (tCons (tC v) tNil)) σ H1 P) : EN K (tCall sp dvs E (tCons ta tNil)) σ H P := fun H1 e Q q =>
  ha H1 e _ fun x v H2 p1 e2 r1 => h x v H2 (e.trans e2) p1 r1 H2 (Ex.refl _) Q fun z v' H4 p e4 r4 => q z v' H4 p (e2.trans e4) r4
theorem en_ca2 {sp : Sp} {dvs : List V} {E : XK} {P1 : α → Prop} {P2 : β → Prop} {P : γ → Prop} (ha : EN K ta σ H P1) (hb : EN K tb σ H P2) (h : ∀ x y v w H1, Ex H H1 → P1 x → P2 y → Rep.rel K H1 v x → Rep.rel K H1 w y → EN K (tCall sp dvs E (tCons (tC v) (tCons (tC w) tNil))) σ H1 P) : EN K (tCall sp dvs E (tCons ta (tCons tb tNil))) σ H P := fun H1 e Q q =>
  ha H1 e _ fun x v H2 p1 e2 r1 => hb H2 (e.trans e2) _ fun y w H3 p2 e3 r2 => h x y v w H3 ((e.trans e2).trans e3) p1 p2 (Rep.mono e3 r1) r2 H3 (Ex.refl _) Q fun z v' H4 p e4 r4 => q z v' H4 p ((e2.trans e3).trans e4) r4
theorem en_ca3 {sp : Sp} {dvs : List V} {E : XK} {P1 : α → Prop} {P2 : β → Prop} {P3 : γ → Prop} {P : δ → Prop} (ha : EN K ta σ H P1) (hb : EN K tb σ H P2) (hc : EN K tc σ H P3) (h : ∀ x y z v w u H1, Ex H H1 → P1 x → P2 y → P3 z → Rep.rel K H1 v x → Rep.rel K H1 w y → Rep.rel K H1 u z → EN K (tCall sp dvs E (tCons (tC v) (tCons (tC w) (tCons (tC u) tNil)))) σ H1 P) : EN K (tCall sp dvs E (tCons ta (tCons tb (tCons tc tNil)))) σ H P := fun H1 e Q q =>
  ha H1 e _ fun x v H2 p1 e2 r1 => hb H2 (e.trans e2) _ fun y w H3 p2 e3 r2 => hc H3 ((e.trans e2).trans e3) _ fun z u H4 p3 e4 r3 => h x y z v w u H4 (((e.trans e2).trans e3).trans e4) p1 p2 p3 (Rep.mono (e3.trans e4) r1) (Rep.mono e4 r2) r3 H4 (Ex.refl _) Q fun z v' H5 p e5 r5 => q z v' H5 p (((e2.trans e3).trans e4).trans e5) r5
theorem en_is {x : α} (h : ER K te σ H x) : EN K te σ H (fun y => y = x) := en_of h rfl
theorem en_drawE {n : Int} {E : XK} (hs : ER K ts σ H Src.mk) (ha : ER K ta σ H n) (h : 1 ≤ n ∧ n ≤ 1000000000000000000000000) : EN K (tCall (SP_draw K) [] E (tCons ts (tCons ta tNil))) σ H (fun d => 0 ≤ d ∧ d < n) :=
  en_draw hs (en_of (P := fun m => m = n) ha rfl) (fun m hm => by rw [hm]; exact h) (fun m d hm h0 h1 => ⟨h0, by rw [← hm]; exact h1⟩)
theorem en_chooseE {xs : List α} {E : XK} (hs : ER K ts σ H Src.mk) (ha : ER K ta σ H xs) (h : 1 ≤ xs.length ∧ xs.length ≤ 100000) : EN K (tCall (SP_choice K) [] E (tCons ts (tCons ta tNil))) σ H (fun x => x ∈ xs) :=
  en_choice hs (en_of (P := fun ys => 1 ≤ ys.length ∧ ys.length ≤ 100000 ∧ ∀ x ∈ ys, x ∈ xs) ha ⟨h.1, h.2, fun _ hx => hx⟩)
/-- an if whose ways meet -/
theorem q_ifD (K : PySem.W.Frag) (W : L2.St → Hp → Prop) (hW : ∀ σ' H', W σ' H' → u D σ' H') (h : ET K tt σ H b) (h1 : b = true → ∀ H1, Ex H H1 → ∀ D2 : Ends, (∀ σ' H', W σ' H' → D2.nx σ' H') → t1 D2 σ H1)
    (h2 : b = false → ∀ H1, Ex H H1 → ∀ D2 : Ends, (∀ σ' H', W σ' H' → D2.nx σ' H') → t2 D2 σ H1) : tSeq (tIfS tt t1 t2) u D σ H := q_if K h (fun c H1 e => h1 c H1 e _ hW) (fun c H1 e => h2 c H1 e _ hW)
theorem l_setI (K : PySem.W.Frag) {n : Nat} {s' : V → L2.St} (h : ER K te σ H i) (s : ∀ v, SetAt σ n v (s' v)) (k : ∀ H1, Ex H H1 → D.nx (s' (.int i)) H1) : tAsg te (gName n) D σ H := l_set K h s fun v H1 e r => by
  cases r
  exact k H1 e
theorem l_setB (K : PySem.W.Frag) {n : Nat} {s' : V → L2.St} (h : ER K te σ H b) (s : ∀ v, SetAt σ n v (s' v)) (k : ∀ H1, Ex H H1 → D.nx (s' (.bl b)) H1) : tAsg te (gName n) D σ H := l_set K h s fun v H1 e r => by
  cases r
  exact k H1 e
/-- two at once, through a tuple -/
theorem n_parT (K : PySem.W.Frag) {P1 : α → Prop} {P2 : β → Prop} {n : Nat} {g : TGs} (hn : n = 2) (h : EN K ta σ H P1) (h2 : ∀ H1, Ex H H1 → EN K tb σ H1 P2)
    (k : ∀ x y v w H1, P1 x → P2 y → Ex H H1 → Rep.rel K H1 v x → Rep.rel K H1 w y → g [v, w] σ H1 fun σ' H' => u D σ' H') : tSeq (tAsg (tTup (tCons ta (tCons tb tNil))) (gTup K n g)) u D σ H :=
  h H (Ex.refl H) _ fun x v H1 p1 e r => h2 H1 e H1 (Ex.refl H1) _ fun y w H2 p2 e2 r2 => ⟨sz_of (by show 2 ≤ 100000; decide), fun p hp => ⟨p, [v, w], rfl, st_of upd_same, hn.symm, by
    have e3 := Ex.new (o := .tup [v, w]) hp
    exact k x y v w _ p1 p2 ((e.trans e2).trans e3) (Rep.mono (e2.trans e3) r) (Rep.mono e3 r2)⟩⟩
/-- a pair in the target -/
theorem g_pair {v : V} {x : α × β} {g : TGs} {Q : L2.St → Hp → Prop} (r : Rep.rel K H v x) (k : ∀ v1 v2, Rep.rel K H v1 x.1 → Rep.rel K H v2 x.2 → g [v1, v2] σ H Q) : gTup K 2 g v σ H Q := by
  obtain ⟨a, v1, v2, hv, hs, r1, r2⟩ := r
  exact ⟨a, [v1, v2], hv, hs, rfl, k v1 v2 r1 r2⟩
theorem q_unpT (K : PySem.W.Frag) {x : Tri α β γ} {g : TGs} (h : ER K te σ H x) (k : ∀ v1 v2 v3 H1, Ex H H1 → Rep.rel K H1 v1 x.a → Rep.rel K H1 v2 x.b → Rep.rel K H1 v3 x.c → g [v1, v2, v3] σ H1 fun σ' H' => u D σ' H') : tSeq (tAsg te (gTup K 3 g)) u D σ H := h H (Ex.refl H) _ fun v H1 e ⟨a, v1, v2, v3, hv, hs, r1, r2, r3⟩ => ⟨a, [v1, v2, v3], hv, hs, rfl, k v1 v2 v3 H1 e r1 r2 r3⟩
/-- drawn signs in a text -/
theorem en_signs {P1 : Int → Prop} {C : Nat → Prop} {N : Nat} (h : EN K te σ H (fun z : Str => ∃ xs : List Sg, (∃ ns : List Int, (∃ n, P1 n ∧ ns = rng 0 n.toNat) ∧ Paired (fun _ s => C s.c) ns xs) ∧ z = unsg xs)) (hn : ∀ n, P1 n → n ≤ N) :
    EN K te σ H (fun z : Str => z.cps.toList.length ≤ N ∧ ∀ c ∈ z.cps.toList, C c) := en_imp h fun z ⟨xs, ⟨ns, ⟨n, p, e1⟩, pr⟩, e2⟩ => by
  subst e2
  subst e1
  rw [unsg_codes]
  constructor
  · rw [List.length_map, paired_len pr, rng_len]
    have := hn n p
    omega
  · intro c hc
    obtain ⟨s, hs, rfl⟩ := List.mem_map.mp hc
    exact paired_all (P2 := fun s : Sg => C s.c) pr (fun _ _ h => h) s hs
end

theorem between_enc {i lo hi : Int} (h : lo ≤ i ∧ i ≤ hi) : isBetween (Enc.enc i) lo hi = true := by
  show (decide (lo ≤ i) && decide (i ≤ hi)) = true
  rw [decide_eq_true h.1, decide_eq_true h.2]
  rfl
/-! ### while -/
theorem q_while (K : PySem.W.Frag) {σ : L2.St} {H : Hp} {tt : TT} {tb : TS} {u : TS} {D : Ends} (I : Nat → L2.St → Hp → Prop) (h0 : ∃ m, I m σ H)
    (hs : ∀ m σ' H', Ey H H' → I m σ' H' → ∃ b, ET K tt σ' H' b ∧ (b = true → ∀ H1, Ex H' H1 → tb { D with nx := fun σ3 H3 => Ey H' H3 ∧ ∃ m', m' < m ∧ I m' σ3 H3, ct := fun σ3 H3 => Ey H' H3 ∧ ∃ m', m' < m ∧ I m' σ3 H3, bk := u D } σ' H1) ∧
      (b = false → ∀ H1, Ex H' H1 → u D σ' H1)) : tSeq (tWhile tt tb) u D σ H := by
  obtain ⟨m0, i0⟩ := h0
  refine ⟨fun m σ' H' => Ey H H' ∧ I m σ' H', ⟨m0, Ey.refl _, i0⟩, fun m σ' H' ⟨e, i⟩ => ?_⟩
  obtain ⟨b, hb, ht, hf⟩ := hs m σ' H' e i
  refine hb H' (Ex.refl _) _ fun H1 e1 => ?_
  cases b with
  | true =>
    rw [if_pos rfl]
    refine ⟨fun σ3 H3 => Ey H' H3 ∧ ∃ m', m' < m ∧ I m' σ3 H3, fun σ3 H3 ⟨e3, m', hm, i'⟩ => ⟨m', hm, e.trans e3, i'⟩, ?_⟩
    exact ht rfl H1 e1
  | false =>
    rw [if_neg Bool.false_ne_true]
    exact hf rfl H1 e1
/-! ### fields with a part exchanged -/
abbrev withEnds (f : Fld) (e : Str) : Fld := Fld.mk f.low f.high f.step f.base f.off e f.big
abbrev withOff (f : Fld) (o : Str) : Fld := Fld.mk f.low f.high f.step f.base o f.ends f.big
theorem FOk.withEnds {f : Fld} (h : FOk f) {e : Str} (he : e ∈ (["round", "stay", "stop"] : List Str)) : FOk (Sf.withEnds f e) := by
  obtain ⟨l0, lh, h1, s0, s1, b0, b1, off, ends, g0, g1, on⟩ := h
  simp only [List.mem_cons, List.not_mem_nil, or_false] at he
  exact ⟨l0, lh, h1, s0, s1, b0, b1, off, he, g0, g1, on⟩
theorem FOk.withOff {f : Fld} (h : FOk f) {e : Str} (he : e ∈ (["add", "near", "next"] : List Str)) : FOk (Sf.withOff f e) := by
  obtain ⟨l0, lh, h1, s0, s1, b0, b1, off, ends, g0, g1, on⟩ := h
  simp only [List.mem_cons, List.not_mem_nil, or_false] at he
  exact ⟨l0, lh, h1, s0, s1, b0, b1, he, ends, g0, g1, on⟩
theorem FOk.litOff {l h s b g : Int} {o e : Str} (k : FOk (Fld.mk l h s b "next" e g)) (ho : o ∈ (["add", "near", "next"] : List Str)) : FOk (Fld.mk l h s b o e g) := k.withOff ho
theorem FOk.litEnds {l h s b g : Int} {o e : Str} (k : FOk (Fld.mk l h s b o "stop" g)) (he : e ∈ (["round", "stay", "stop"] : List Str)) : FOk (Fld.mk l h s b o e g) := k.withEnds he
theorem FOk.withBoth {f : Fld} (h : FOk f) {o e : Str} (ho : o ∈ (["add", "near", "next"] : List Str)) (he : e ∈ (["round", "stay", "stop"] : List Str)) : FOk (Fld.mk f.low f.high f.step f.base o e f.big) := (h.withOff ho).withEnds he
/-! ### parts of texts and lists -/
section
variable {α β : Type} [Rep α] [Rep β] {K : PySem.W.Frag} {σ : L2.St} {H : Hp} {ta tb te : TE} {tl th : TO} {i : Int} {lo hi : Option Int}
def EO (K : PySem.W.Frag) (tl : TO) (σ : L2.St) (H : Hp) (o : Option Int) : Prop := ∀ H1, Ex H H1 → ∀ Q : Option Int → Hp → Prop, (∀ H2, Ex H1 H2 → Q o H2) → tl σ H1 Q
theorem eo_none : EO K tNoPart σ H none := fun H1 _ _ q => q H1 (Ex.refl _)
theorem eo_some (h : ER K te σ H i) : EO K (tPart te) σ H (some i) := fun H1 e Q q => h H1 e _ fun v H2 e2 r => by
  cases r
  exact ⟨i, rfl, q H2 e2⟩
theorem er_slS {z : Str} (h : ER K te σ H z) (hl : EO K tl σ H lo) (hh : EO K th σ H hi) (hz : z.length ≤ 100000) : ER K (tSl rSlS te tl th) σ H (cutS z lo hi) := fun H1 e Q q => h H1 e _ fun v H2 e2 r => hl H2 (e.trans e2) _ fun H3 e3 => hh H3 ((e.trans e2).trans e3) _ fun H4 e4 => by
  cases r
  exact ⟨z, rfl, sz_of hz, q _ H4 ((e2.trans e3).trans e4) rfl⟩
def cutL (xs : List α) (lo hi : Option Int) : List α := (xs.drop (HT.sIx xs.length 0 lo)).take (HT.sIx xs.length xs.length hi - HT.sIx xs.length 0 lo)
theorem er_ixS {z : Str} {x : Sg} (h : ER K ta σ H z) (h2 : ER K tb σ H i) (hz : z.length ≤ 100000) (hx : atI z.cps.toList i = some x.c) : ER K (tOp rIxS ta tb) σ H x := fun H1 e Q q => h H1 e _ fun v H2 e2 r => h2 H2 (e.trans e2) _ fun w H3 e3 r2 => by
  cases r
  cases r2
  exact ⟨z, i, x.c, rfl, rfl, sz_of hz, hx, q _ H3 (e2.trans e3) rfl⟩
end
/-! ### a choice as a test -/
def tIfT (t ta tb : TT) : TT := fun σ H Q => t σ H fun c H1 => if c = true then ta σ H1 Q else tb σ H1 Q
theorem pt_ifExp {X : Cx} {c a b : Expr} {pos : Pos} {t ta tb : TT} (hc : PT X c t) (ha : PT X a ta) (hb : PT X b tb) : PT X (.IfExp c a b pos) (tIfT t ta tb) := by
  refine ⟨fun pins s σ H Q I h => ?_⟩
  refine PyProof.Rows.isTrue_IfExp (thn (hc.run pins s σ H _ I h) fun d s1 ⟨H1, I1, q1⟩ => ?_)
  cases d with
  | true => exact ha.run pins s1 σ H1 Q I1 q1
  | false => exact hb.run pins s1 σ H1 Q I1 q1
theorem ett_if {K : PySem.W.Frag} {σ : L2.St} {H : Hp} {t ta tb : TT} {a b c : Bool} (h : ET K t σ H a) (h1 : a = true → ET K ta σ H b) (h2 : a = false → ET K tb σ H c) : ET K (tIfT t ta tb) σ H (if a = true then b else c) := fun H1 e Q q => h H1 e _ fun H2 e2 => by
  cases a with
  | true =>
    show ta σ H2 Q
    exact h1 rfl H2 (e.trans e2) Q fun H3 e3 => q H3 (e2.trans e3)
  | false =>
    show tb σ H2 Q
    exact h2 rfl H2 (e.trans e2) Q fun H3 e3 => q H3 (e2.trans e3)
/-! ### len(set(ints)) -/
def dedup (xs : List Int) : List Int := PyProof.Rows.firstMet (fun i => xs.getD i 0) xs.length
def tLenSet2 (K : PySem.W.Frag) (ta : TE) : TE := fun σ H Q => ta σ H fun x H1 => ∃ (l : Addr) (ns : List Int), x = .ref l ∧ SqL K H1 l (ns.map V.int) ∧ ns.length ≤ 4000 ∧ Q (.int ((dedup ns).length : Nat)) H1
theorem pe_lenSet2 {X : Cx} {a : Expr} {ta : TE} {p p2 q pos : Pos} (hg : Gl X "len") (hm : X.mg "len" = none) (hg2 : Gl X "set") (hm2 : X.mg "set" = none) (ha : PE X a ta) (hc : X.calm = true := by rfl)
    (na : starEach [a] X.env = (false, eval a X.env) :: starEach [] X.env := by rfl) : PE X (.Call (.Name "len" p) [.Call (.Name "set" p2) [a] [] q] [] pos) (tLenSet2 X.K ta) := by
  refine ⟨fun pins s σ H Q I h => ?_⟩
  refine Call_ (ld_blt I hg hm boot_len ?_)
  refine PyProof.Rows.callWith_builtin1 (PyProof.Rows.args_cons ?_ rfl) rfl rfl
  refine Call_ (ld_blt I hg2 hm2 boot_set ?_)
  refine PyProof.Rows.callWith_type1 (PyProof.Rows.args_cons (thn (ha.run pins s σ H _ I h) fun v s1 ⟨x, H1, I1, r1, q1⟩ => PyProof.Rows.args_nil ?_) na) na rfl
  obtain ⟨l, ns, rfl, hq, hl, q1⟩ := q1
  cases r1
  obtain ⟨its, r, pl, hz⟩ := I1.list hq
  have hlen : its.toArray.size = ns.length := by rw [List.size_toArray, ← r.length, List.length_map]
  refine call_set_list (I1.ok.hd hc) pl.isList (by simpa using RZ.intsAre_vals r) (by rw [hlen]; unfold scanBound; omega) fun h' tk hS hk => ?_
  refine PyProof.Rows.args_nil ?_
  rw [hlen] at hS
  have hle := PyProof.Rows.firstMet_length_le (fun i => ns.getD i 0) ns.length
  obtain ⟨o, es, ep, t, ho, hex, hd, _, _, _, hf, hn⟩ := hS
  have I2 : Inv X pins σ H1 { s1 with heap := h', toks := tk } := I1.kept fun b o e => hk b o (Heap.lt_size e) e
  exact call_len_set ho hex hd hf (by rw [hn] <;> omega) ⟨.int ((dedup ns).length : Nat), H1, I2.tok _, ⟨_, by rw [hn]; rfl⟩, q1⟩
theorem er_lenSet {K : PySem.W.Frag} {σ : L2.St} {H : Hp} {ta : TE} {xs : List Int} (h : ER K ta σ H xs) (hl : xs.length ≤ 4000) : ER K (tLenSet2 K ta) σ H ((dedup xs).length : Int) := fun H1 e Q q => h H1 e _ fun v H2 e2 ⟨a, vs, hv, hs, hr⟩ => by
  have hi := rels_ints hr
  subst hi
  exact ⟨a, xs, hv, sq_of hs, hl, q _ H2 e2 rfl⟩
theorem dedup3 {a b c : Int} : (dedup [a, b, c]).length = 1 ↔ a = b ∧ b = c := by
  have e : dedup [a, b, c] = PyProof.Rows.step_dedup (PyProof.Rows.step_dedup [a] b) c := rfl
  rw [e]
  unfold PyProof.Rows.step_dedup
  by_cases h1 : a = b
  · subst h1
    by_cases h2 : a = c
    · subst h2
      simp
    · simp [h2]
  · simp [h1]
    split <;> simp
end Sf

namespace Sf
open PySem PySem.Spec PyProof.Rows L2 Evl
abbrev isUp (c : Nat) : Prop := c = 117 ∨ c = 85
theorem mem_uU {c : Nat} : c ∈ ("uU" : Str).cps.toList ↔ isUp c := by
  have e : ("uU" : Str).cps.toList = [117, 85] := by decide
  rw [e]
  simp only [List.mem_cons, List.not_mem_nil, or_false]
theorem mem_UD {c : Nat} : c ∈ ("UD" : Str).cps.toList ↔ c = 85 ∨ c = 68 := by
  have e : ("UD" : Str).cps.toList = [85, 68] := by decide
  rw [e]
  simp only [List.mem_cons, List.not_mem_nil, or_false]
theorem mem_he {c : Nat} : c ∈ ("he" : Str).cps.toList ↔ c = 104 ∨ c = 101 := by
  have e : ("he" : Str).cps.toList = [104, 101] := by decide
  rw [e]
  simp only [List.mem_cons, List.not_mem_nil, or_false]
theorem sgs_moves {s : Sg} : s ∈ sgs "udUD" ↔ isMove s.c := by
  rw [← sg_moves]
  unfold sgs
  simp only [List.mem_map]
  constructor
  · rintro ⟨c, hc, rfl⟩
    exact hc
  · intro h
    exact ⟨s.c, h, rfl⟩
theorem sgs_keys {s : Sg} : s ∈ sgs "udUDhe" ↔ isKey s.c := by
  rw [← keys_mem]
  unfold sgs
  simp only [List.mem_map]
  constructor
  · rintro ⟨c, hc, rfl⟩
    exact hc
  · intro h
    exact ⟨s.c, h, rfl⟩
theorem move_key {c : Nat} (h : isMove c) : isKey c := by
  rcases h with z | z | z | z
  · exact .inl z
  · exact .inr (.inl z)
  · exact .inr (.inr (.inl z))
  · exact .inr (.inr (.inr (.inl z)))
theorem row1 {c : Nat} (h : isKey c) : rowOk (⟨#[c]⟩ : Str) := by
  refine ⟨by show (1 : Nat) ≤ 40; decide, fun d hd => ?_⟩
  have h1 : d ∈ [c] := hd
  rw [List.mem_singleton.mp h1]
  exact h
theorem mul_ge {m s k : Int} (hs : 1 ≤ s) (h : k ≤ m) : k * s ≤ m * s := Int.mul_le_mul_of_nonneg_right h (by omega)
/-- where a key aims: up -/
theorem aim_up {f : Fld} {v m : Int} (hs : 1 ≤ f.step) (hm : 1 ≤ m) : v < aimOf f v m ∧ aimOf f v m ≤ v + m * f.step + f.step := by
  have h1 := mul_ge hs hm
  unfold aimOf
  split
  · omega
  · split
    · rw [Int.add_mul]
      have a := div_le (x := 2 * (v - f.base) + f.step) (y := 2 * f.step) (by omega)
      rw [Int.mul_left_comm] at a
      omega
    · rw [if_pos (by omega), Int.add_mul]
      have a := div_le (x := v - f.base) (y := f.step) (by omega)
      omega
theorem aim_dn {f : Fld} {v m : Int} (hs : 1 ≤ f.step) (hm : m ≤ -1) : aimOf f v m < v ∧ v + m * f.step - f.step ≤ aimOf f v m := by
  have h1 := mul_ge hs hm
  unfold aimOf
  split
  · omega
  · split
    · rw [Int.add_mul]
      have a := div_le (x := 2 * (v - f.base) + f.step) (y := 2 * f.step) (by omega)
      rw [Int.mul_left_comm] at a
      omega
    · rw [if_neg (by omega), Int.add_mul, Int.neg_mul]
      have a := div_le (x := f.base - v) (y := f.step) (by omega)
      omega
theorem many_up {f : Fld} {c : Nat} (hb : 2 ≤ f.big) (h : isUp c) : 1 ≤ manySteps f c ∧ manySteps f c ≤ f.big := by
  unfold manySteps
  rcases h with z | z <;> subst z <;> simp <;> omega
theorem many_dn {f : Fld} {c : Nat} (hb : 2 ≤ f.big) (hm : isMove c) (h : ¬ isUp c) : manySteps f c ≤ -1 ∧ -f.big ≤ manySteps f c := by
  unfold manySteps
  rcases hm with z | z | z | z <;> subst z <;> simp at h ⊢ <;> omega
/-- a key behind which a value lies: the three ways -/
theorem press_ways {f : Fld} {v : Int} {c : Nat} (hs : 1 ≤ f.step) (hb : 2 ≤ f.big) (hv : f.low ≤ v ∧ v ≤ f.high) (hm : isMove c) :
    (f.low ≤ aimOf f v (manySteps f c) ∧ aimOf f v (manySteps f c) ≤ f.high ∧ pressKey f v c = aimOf f v (manySteps f c)) ∨
    (isUp c ∧ f.high < aimOf f v (manySteps f c) ∧ pressKey f v c = if f.ends = "stay" then v else if f.ends = "round" then f.low else f.high) ∨
    (¬ isUp c ∧ aimOf f v (manySteps f c) < f.low ∧ pressKey f v c = if f.ends = "stay" then v else if f.ends = "round" then f.high else f.low) := by
  rw [pressKey_move hm]
  by_cases h : isUp c
  · have a := aim_up (v := v) hs (many_up hb h).1
    by_cases z : f.low ≤ aimOf f v (manySteps f c) ∧ aimOf f v (manySteps f c) ≤ f.high
    · rw [if_pos z]
      exact .inl ⟨z.1, z.2, rfl⟩
    · have y : aimOf f v (manySteps f c) > f.high := by omega
      rw [if_neg z, if_pos y, if_pos y]
      exact .inr (.inl ⟨h, y, rfl⟩)
  · have a := aim_dn (v := v) hs (many_dn hb hm h).1
    by_cases z : f.low ≤ aimOf f v (manySteps f c) ∧ aimOf f v (manySteps f c) ≤ f.high
    · rw [if_pos z]
      exact .inl ⟨z.1, z.2, rfl⟩
    · have y : ¬ aimOf f v (manySteps f c) > f.high := by omega
      rw [if_neg z, if_neg y, if_neg y]
      exact .inr (.inr ⟨h, by omega, rfl⟩)
theorem aim_far {f : Fld} {v : Int} {c : Nat} (hs : 1 ≤ f.step) (hb : 2 ≤ f.big) (hm : isMove c) :
    (isUp c → v < aimOf f v (manySteps f c) ∧ aimOf f v (manySteps f c) ≤ v + f.step * (f.big + 1)) ∧ (¬ isUp c → aimOf f v (manySteps f c) < v ∧ v - f.step * (f.big + 1) ≤ aimOf f v (manySteps f c)) := by
  have e : f.step * (f.big + 1) = f.big * f.step + f.step := by rw [Int.mul_add, Int.mul_one, Int.mul_comm]
  constructor
  · intro h
    have a := aim_up (v := v) hs (many_up hb h).1
    have b := mul_ge hs (many_up hb h).2
    omega
  · intro h
    have a := aim_dn (v := v) hs (many_dn hb hm h).1
    have b := mul_ge hs (many_dn hb hm h).2
    rw [Int.neg_mul] at b
    omega
theorem pressRow1 {f : Fld} {v : Int} {c : Nat} : pressRow f v (⟨#[c]⟩ : Str).cps.toList = pressKey f v c := rfl
theorem atI_nat {α : Type} {xs : List α} {i : Nat} {x : α} (h : xs[i]? = some x) : atI xs (i : Int) = some x := by
  have hl : i < xs.length := (List.getElem?_eq_some_iff.mp h).1
  unfold atI
  rw [show L2.ixN xs.length (i : Int) = some i by
    unfold L2.ixN
    rw [if_pos (by omega), if_pos (by omega)]
    simp]
  exact h
theorem atI_zero {α : Type} {x : α} {r : List α} : atI (x :: r) 0 = some x := atI_nat (i := 0) rfl
theorem pressRow1' {f : Fld} {v : Int} {c : Nat} : pressRow f v [c] = pressKey f v c := rfl
theorem pressRow_in {f : Fld} (hf : FL f) : ∀ {r : List Nat} {v : Int}, (f.low ≤ v ∧ v ≤ f.high) → (∀ c ∈ r, isKey c) → f.low ≤ pressRow f v r ∧ pressRow f v r ≤ f.high
  | [], v, hv, _ => hv
  | c :: r, v, hv, h => pressRow_in hf (r := r) (pressKey_in hf hv (h c (List.mem_cons_self ..))) fun d hd => h d (List.mem_cons_of_mem _ hd)
theorem catL {x y : Str} : (x ++ y).cps.toList = x.cps.toList ++ y.cps.toList := by
  show (x.cps ++ y.cps).toList = _
  simp
theorem lenL {x : Str} : x.length = x.cps.toList.length := by
  show x.cps.size = _
  simp
theorem cut1 {z : Str} {c : Nat} {r : List Nat} (h : z.cps.toList = c :: r) : cutS z none (some 1) = ⟨#[c]⟩ := by
  unfold cutS
  have hl : z.length = r.length + 1 := by rw [lenL, h]; rfl
  rw [h, hl]
  show (⟨(((c :: r).drop 0).take (HT.sIx (r.length + 1) (r.length + 1) (some 1) - 0)).toArray⟩ : Str) = _
  have e : HT.sIx (r.length + 1) (r.length + 1) (some 1) = 1 := by
    unfold HT.sIx
    simp
  rw [e]
  rfl
/-- no: for tests that are false -/
theorem no_of {b : Bool} (h : ¬ b = true) : b = false := by
  cases b
  · rfl
  · exact absurd rfl h
end Sf

namespace Sf
open PySem PySem.Spec PyProof.Rows L2 Evl

/-! ### a op1 b op2 c op3 d -/
def tChain3 (r r' r'' : R2) (ta tb tc td : TE) : TE := fun σ H Q => ta σ H fun x H1 => tb σ H1 fun y H2 => r x y H2 fun z H3 => ∃ k, z = .bl k ∧
  (if k = true then tc σ H3 fun w' H4 => r' y w' H4 fun z2 H5 => ∃ k2, z2 = .bl k2 ∧ (if k2 = true then td σ H5 fun u' H6 => r'' w' u' H6 Q else Q (.bl false) H5) else Q (.bl false) H3)
theorem pe_chain3 {X : Cx} {a b c d : Expr} {pos : Pos} {ta tb tc td : TE} {op op' op'' : CmpOp} {r r' r'' : R2} (ho : OpR X (compareOp op) r) (ho' : OpR X (compareOp op') r') (ho'' : OpR X (compareOp op'') r'') (ha : PE X a ta) (hb : PE X b tb) (hc : PE X c tc) (hd : PE X d td)
    (hm : lastMarks [op, op', op''] [b, c, d] = false := by with_unfolding_all rfl) : PE X (.Compare a [op, op', op''] [b, c, d] pos) (tChain3 r r' r'' ta tb tc td) := by
  refine ⟨fun pins s σ H Q I h => ?_⟩
  refine Compare_chain (thn (ha.run pins s σ H _ I h) fun v s1 ⟨x, H1, I1, r1, q1⟩ => chain_link (thn (hb.run pins s1 σ H1 _ I1 q1) fun u s2 ⟨y, H2, I2, r2, q2⟩ =>
    thn (ho pins s2 σ H2 x y v u _ I2 r1 r2 q2) fun d s3 ⟨z, H3, I3, r3, k, e, q3⟩ => ?_)) hm
  subst e
  cases r3
  refine wpAny_truthy_bool ?_
  cases k with
  | false => exact ite_ff ⟨.bl false, H3, I3, rfl, q3⟩
  | true =>
    refine ite_tt (chain_link (thn (hc.run pins s3 σ H3 _ I3 q3) fun w' s4 ⟨z', H4, I4, r4, q4⟩ => thn (ho' pins s4 σ H4 y z' u w' _ I4 r2 r4 q4) fun d' s5 ⟨z2, H5, I5, r5, k2, e2, q5⟩ => ?_))
    subst e2
    cases r5
    refine wpAny_truthy_bool ?_
    cases k2 with
    | false => exact ite_ff ⟨.bl false, H5, I5, rfl, q5⟩
    | true => exact ite_tt (chain_last (thn (hd.run pins s5 σ H5 _ I5 q5) fun w2 s6 ⟨z3, H6, I6, r6, q6⟩ => ho'' pins s6 σ H6 z' z3 w' w2 Q I6 r4 r6 q6))
theorem pt_chain3 {X : Cx} {a b c d : Expr} {pos : Pos} {ta tb tc td : TE} {op op' op'' : CmpOp} {r r' r'' : R2} (ho : OpR X (compareOp op) r) (ho' : OpR X (compareOp op') r') (ho'' : OpR X (compareOp op'') r'') (ha : PE X a ta) (hb : PE X b tb) (hc : PE X c tc) (hd : PE X d td)
    (hm : lastMarks [op, op', op''] [b, c, d] = false := by with_unfolding_all rfl) : PT X (.Compare a [op, op', op''] [b, c, d] pos) (tTest (tChain3 r r' r'' ta tb tc td)) := by
  refine ⟨fun pins s σ H Q I h => ?_⟩
  refine isTrue_chain (thn (ha.run pins s σ H _ I h) fun v s1 ⟨x, H1, I1, r1, q1⟩ => test_link (thn (hb.run pins s1 σ H1 _ I1 q1) fun u s2 ⟨y, H2, I2, r2, q2⟩ =>
    thn (ho pins s2 σ H2 x y v u _ I2 r1 r2 q2) fun d s3 ⟨z, H3, I3, r3, k, e, q3⟩ => ?_)) hm
  subst e
  cases r3
  refine wpAny_truthy_bool ?_
  cases k with
  | false =>
    obtain ⟨k', e', q'⟩ := q3
    cases e'
    exact ite_ff ⟨H3, I3, q'⟩
  | true =>
    refine ite_tt (test_link (thn (hc.run pins s3 σ H3 _ I3 q3) fun w' s4 ⟨z', H4, I4, r4, q4⟩ => thn (ho' pins s4 σ H4 y z' u w' _ I4 r2 r4 q4) fun d' s5 ⟨z2, H5, I5, r5, k2, e2, q5⟩ => ?_))
    subst e2
    cases r5
    refine wpAny_truthy_bool ?_
    cases k2 with
    | false =>
      obtain ⟨k', e', q'⟩ := q5
      cases e'
      exact ite_ff ⟨H5, I5, q'⟩
    | true =>
      refine ite_tt (test_last (thn (hd.run pins s5 σ H5 _ I5 q5) fun w2 s6 ⟨z3, H6, I6, r6, q6⟩ => thn (ho'' pins s6 σ H6 z' z3 w' w2 _ I6 r4 r6 q6) fun d2 s7 ⟨z4, H7, I7, r7, k3, e3, q7⟩ => ?_))
      subst e3
      cases r7
      exact wpAny_truthy_bool ⟨H7, I7, q7⟩
section
variable {α β γ : Type} [Rep α] [Rep β] [Rep γ] {K : PySem.W.Frag} {σ σ' : L2.St} {H H' : Hp} {te tl ta tb tc td ts : TE} {tA : TA} {tt : TT} {u t1 t2 : TS} {D : Ends} {i j : Int} {a b : Bool}
theorem er_chain3 {r1 r2 r3 : Int → Int → Bool} {k l : Int} (ha : ER K ta σ H i) (hb : ER K tb σ H j) (hc : ER K tc σ H k) (hd : ER K td σ H l) : ER K (tChain3 (rI0 fun i j => .bl (r1 i j)) (rI0 fun i j => .bl (r2 i j)) (rI0 fun i j => .bl (r3 i j)) ta tb tc td) σ H (r1 i j && (r2 j k && r3 k l)) := fun H1 e Q q =>
  ha H1 e _ fun v1 H2 e2 q1 => hb H2 (e.trans e2) _ fun v2 H3 e3 q2 => by
    cases q1
    cases q2
    refine ⟨i, j, rfl, rfl, r1 i j, rfl, ?_⟩
    cases h : r1 i j with
    | false =>
      rw [if_neg Bool.false_ne_true]
      exact q _ H3 (e2.trans e3) (by rw [h]; rfl)
    | true =>
      rw [if_pos rfl]
      exact hc H3 ((e.trans e2).trans e3) _ fun v3 H4 e4 q3 => by
        cases q3
        refine ⟨j, k, rfl, rfl, r2 j k, rfl, ?_⟩
        cases h2 : r2 j k with
        | false =>
          rw [if_neg Bool.false_ne_true]
          exact q _ H4 ((e2.trans e3).trans e4) (by rw [h, h2]; rfl)
        | true =>
          rw [if_pos rfl]
          exact hd H4 (((e.trans e2).trans e3).trans e4) _ fun v4 H5 e5 q4 => by
            cases q4
            exact ⟨k, l, rfl, rfl, q _ H5 (((e2.trans e3).trans e4).trans e5) (by rw [h, h2]; rfl)⟩
/-! ### None, or not -/
theorem non_ne {v : V} : V.bl (decide (v = .non)) = V.bl (decide (v = .non)) := rfl
class NN (α : Type) [Rep α] : Prop where
  nn : ∀ {K : PySem.W.Frag} {H : Hp} {v : V} {x : α}, Rep.rel K H v x → v ≠ .non
instance : NN Int := ⟨fun h z => by cases h; cases z⟩
instance : NN Str := ⟨fun h z => by cases h; cases z⟩
instance : NN (α × β) := ⟨fun ⟨_, _, _, h, _⟩ z => by rw [h] at z; cases z⟩
instance : NN (Tri α β γ) := ⟨fun ⟨_, _, _, _, h, _⟩ z => by rw [h] at z; cases z⟩
instance : NN (List α) := ⟨fun ⟨_, _, h, _⟩ z => by rw [h] at z; cases z⟩
instance : NN (Tpl α) := ⟨fun ⟨_, _, h, _⟩ z => by rw [h] at z; cases z⟩
instance : NN Fld := ⟨fun ⟨_, h, _⟩ z => by rw [h] at z; cases z⟩
theorem er_isNone [NN α] {x : Option α} (h : ER K ta σ H x) : ER K (tOp rIsN ta (tC .non)) σ H x.isNone := fun H1 e Q q => h H1 e _ fun v H2 e2 r => by
  cases x with
  | none =>
    have hv : v = .non := r
    subst hv
    exact ⟨rfl, q _ H2 e2 rfl⟩
  | some y =>
    have hn := NN.nn (x := y) r
    exact ⟨rfl, q _ H2 e2 (by rw [decide_eq_false hn]; rfl)⟩
theorem er_isNNone [NN α] {x : Option α} (h : ER K ta σ H x) : ER K (tOp rNotN ta (tC .non)) σ H (!x.isNone) := fun H1 e Q q => h H1 e _ fun v H2 e2 r => by
  cases x with
  | none =>
    have hv : v = .non := r
    subst hv
    exact ⟨rfl, q _ H2 e2 rfl⟩
  | some y =>
    have hn := NN.nn (x := y) r
    exact ⟨rfl, q _ H2 e2 (by rw [decide_eq_false hn]; rfl)⟩
theorem er_get {x : Option α} {y : α} (h : ER K ta σ H x) (e : x = some y) : ER K ta σ H y := by
  subst e
  exact h
theorem er_t0 {x : Tri α β γ} (ha : ER K ta σ H x) : ER K (tOp (rIxT K) ta (tC (.int 0))) σ H x.a := fun H1 e Q q =>
  ha H1 e _ fun v H2 e2 ⟨p, v1, v2, v3, hv, hs, r1, r2, r3⟩ => ⟨p, [v1, v2, v3], 0, v1, hv, rfl, hs, rfl, q v1 H2 e2 r1⟩
theorem er_t1 {x : Tri α β γ} (ha : ER K ta σ H x) : ER K (tOp (rIxT K) ta (tC (.int 1))) σ H x.b := fun H1 e Q q =>
  ha H1 e _ fun v H2 e2 ⟨p, v1, v2, v3, hv, hs, r1, r2, r3⟩ => ⟨p, [v1, v2, v3], 1, v2, hv, rfl, hs, rfl, q v2 H2 e2 r2⟩
theorem er_t2 {x : Tri α β γ} (ha : ER K ta σ H x) : ER K (tOp (rIxT K) ta (tC (.int 2))) σ H x.c := fun H1 e Q q =>
  ha H1 e _ fun v H2 e2 ⟨p, v1, v2, v3, hv, hs, r1, r2, r3⟩ => ⟨p, [v1, v2, v3], 2, v3, hv, rfl, hs, rfl, q v3 H2 e2 r3⟩
theorem er_inLS {s : Str} {xs : List Str} (ha : ER K ta σ H s) (hb : ER K tb σ H xs) : ER K (tOp (rIn K false) ta tb) σ H (decide (s ∈ xs)) := fun H1 e Q q =>
  ha H1 e _ fun v H2 e2 r => hb H2 (e.trans e2) _ fun w H3 e3 ⟨p, vs, hw, hs, hr⟩ => by
    cases r
    have h1 := rels_strs hr
    subst h1
    exact ⟨p, _, hw, .inl (sq_of hs), rfl, flat_strs, q _ H3 (e2.trans e3) (by rw [if_neg Bool.false_ne_true, in_strs]; rfl)⟩
theorem er_ninLS {s : Str} {xs : List Str} (ha : ER K ta σ H s) (hb : ER K tb σ H xs) : ER K (tOp (rIn K true) ta tb) σ H (!decide (s ∈ xs)) := fun H1 e Q q =>
  ha H1 e _ fun v H2 e2 r => hb H2 (e.trans e2) _ fun w H3 e3 ⟨p, vs, hw, hs, hr⟩ => by
    cases r
    have h1 := rels_strs hr
    subst h1
    exact ⟨p, _, hw, .inl (sq_of hs), rfl, flat_strs, q _ H3 (e2.trans e3) (by rw [if_pos rfl, in_strs]; rfl)⟩
/-- a drawn test -/
theorem etn_any (h : EN K te σ H (fun _ : Bool => True)) : ETN K (tTest te) σ H (fun _ => True) := etn_t h
/-- a triple in the target -/
theorem g_tri {v : V} {x : Tri α β γ} {g : TGs} {Q : L2.St → Hp → Prop} (r : Rep.rel K H v x) (k : ∀ v1 v2 v3, Rep.rel K H v1 x.a → Rep.rel K H v2 x.b → Rep.rel K H v3 x.c → g [v1, v2, v3] σ H Q) : gTup K 3 g v σ H Q := by
  obtain ⟨a, v1, v2, v3, hv, hs, r1, r2, r3⟩ := r
  exact ⟨a, [v1, v2, v3], hv, hs, rfl, k v1 v2 v3 r1 r2 r3⟩
/-- is True, is False -/
abbrev rIsB : R2 := fun x y H Q => ∃ a b, x = .bl a ∧ y = .bl b ∧ Q (.bl (decide (a = b))) H
abbrev rIsNB : R2 := fun x y H Q => ∃ a b, x = .bl a ∧ y = .bl b ∧ Q (.bl (!decide (a = b))) H
theorem er_isB (ha : ER K ta σ H a) (hb : ER K tb σ H b) : ER K (tOp rIsB ta tb) σ H (decide (a = b)) := er_BB ha hb fun H1 Q q => ⟨a, b, rfl, rfl, q _ rfl⟩
theorem er_isNB (ha : ER K ta σ H a) (hb : ER K tb σ H b) : ER K (tOp rIsNB ta tb) σ H (!decide (a = b)) := er_BB ha hb fun H1 Q q => ⟨a, b, rfl, rfl, q _ rfl⟩
end
/-! ### defs of five and six -/
section
variable {α β γ ε ζ δ : Type} [Rep α] [Rep β] [Rep γ] [Rep ε] [Rep ζ] [Rep δ]
def sp5 (K : PySem.W.Frag) (pre : α → β → γ → ε → ζ → Prop) (g : α → β → γ → ε → ζ → δ) : Sp := fun vs H Q _ => ∃ x y z u x5 a b c d a5, vs = [x, y, z, u, x5] ∧ Rep.rel K H x a ∧ Rep.rel K H y b ∧ Rep.rel K H z c ∧ Rep.rel K H u d ∧ Rep.rel K H x5 a5 ∧ pre a b c d a5 ∧ ∀ v H', Ex H H' → Rep.rel K H' v (g a b c d a5) → Q v H'
variable {K : PySem.W.Frag} {σ : L2.St} {H : Hp} {ta tb tc td t5 : TE} {E : XK} {a : α} {b : β} {c : γ} {d : ε} {a5 : ζ}
theorem er_call5 {pre : α → β → γ → ε → ζ → Prop} {g : α → β → γ → ε → ζ → δ} (h0 : ER K ta σ H a) (h1 : ER K tb σ H b) (h2 : ER K tc σ H c) (h3 : ER K td σ H d) (h4 : ER K t5 σ H a5) (hp : pre a b c d a5) : ER K (tCall (sp5 K pre g) [] E (tCons ta (tCons tb (tCons tc (tCons td (tCons t5 tNil)))))) σ H (g a b c d a5) := fun H1 e Q q =>
  h0 H1 e _ fun v0 H2 e2 r0 => h1 H2 (e.trans e2) _ fun v1 H3 e3 r1 => h2 H3 ((e.trans e2).trans e3) _ fun v2 H4 e4 r2 => h3 H4 (((e.trans e2).trans e3).trans e4) _ fun v3 H5 e5 r3 => h4 H5 ((((e.trans e2).trans e3).trans e4).trans e5) _ fun v4 H6 e6 r4 => 
    ⟨v0, v1, v2, v3, v4, a, b, c, d, a5, rfl, Rep.mono (((e3.trans e4).trans e5).trans e6) r0, Rep.mono ((e4.trans e5).trans e6) r1, Rep.mono (e5.trans e6) r2, Rep.mono e6 r3, r4, hp, fun v H' e' r => q v H' (((((e2.trans e3).trans e4).trans e5).trans e6).trans e') r⟩
variable {P : Program} {w : World} {mg : Str → Option Value} {base : Heap} {xn qual : Str} {params : Arguments} {body : List Stmt} {scope : Scope} {dvs : List V} {kws : List (Str × V)} {f : Addr} {fd : FuncData} {N ps : List Str} {k : Nat} {CX : CXT}
theorem ok5 {pre : α → β → γ → ε → ζ → Prop} {g : α → β → γ → ε → ζ → δ} (F : FunD K xn qual params body scope dvs kws f fd) (S : FnScope N ps scope) (hl : ps.length = 5) (σ0 : V → V → V → V → V → L2.St) (h0 : ∀ x y z u x5, start N [x, y, z, u, x5] = σ0 x y z u x5)
    (h : ∀ (H : Hp) (Q : VK) (x y z u x5 : V) (a : α) (b : β) (c : γ) (d : ε) (a5 : ζ), Rep.rel K H x a → Rep.rel K H y b → Rep.rel K H z c → Rep.rel K H u d → Rep.rel K H x5 a5 → pre a b c d a5 → (∀ v H', Ex H H' → Rep.rel K H' v (g a b c d a5) → Q v H') → Body CX P w K mg base k f N qual scope body H Q (σ0 x y z u x5)) : FnOk P w K mg base CX (k + 1) f fd ps (sp5 K pre g) := by
  refine F.ok S (fun vs H Q E hs => ?_) (fun cdv A outer s H vs Q E hr hs => ?_)
  · obtain ⟨x, y, z, u, x5, a, b, c, d, a5, rfl, _⟩ := hs
    exact hl.symm
  · obtain ⟨x, y, z, u, x5, a, b, c, d, a5, rfl, k0, k1, k2, k3, k4, hp, q⟩ := hs
    rw [h0]
    exact h H Q x y z u x5 a b c d a5 k0 k1 k2 k3 k4 hp q cdv A outer s E hr
end
section
variable {α β γ ε ζ η δ : Type} [Rep α] [Rep β] [Rep γ] [Rep ε] [Rep ζ] [Rep η] [Rep δ]
def sp6 (K : PySem.W.Frag) (pre : α → β → γ → ε → ζ → η → Prop) (g : α → β → γ → ε → ζ → η → δ) : Sp := fun vs H Q _ => ∃ x y z u x5 x6 a b c d a5 a6, vs = [x, y, z, u, x5, x6] ∧ Rep.rel K H x a ∧ Rep.rel K H y b ∧ Rep.rel K H z c ∧ Rep.rel K H u d ∧ Rep.rel K H x5 a5 ∧ Rep.rel K H x6 a6 ∧ pre a b c d a5 a6 ∧ ∀ v H', Ex H H' → Rep.rel K H' v (g a b c d a5 a6) → Q v H'
variable {K : PySem.W.Frag} {σ : L2.St} {H : Hp} {ta tb tc td t5 t6 : TE} {E : XK} {a : α} {b : β} {c : γ} {d : ε} {a5 : ζ} {a6 : η}
theorem er_call6 {pre : α → β → γ → ε → ζ → η → Prop} {g : α → β → γ → ε → ζ → η → δ} (h0 : ER K ta σ H a) (h1 : ER K tb σ H b) (h2 : ER K tc σ H c) (h3 : ER K td σ H d) (h4 : ER K t5 σ H a5) (h5 : ER K t6 σ H a6) (hp : pre a b c d a5 a6) : ER K (tCall (sp6 K pre g) [] E (tCons ta (tCons tb (tCons tc (tCons td (tCons t5 (tCons t6 tNil))))))) σ H (g a b c d a5 a6) := fun H1 e Q q =>
  h0 H1 e _ fun v0 H2 e2 r0 => h1 H2 (e.trans e2) _ fun v1 H3 e3 r1 => h2 H3 ((e.trans e2).trans e3) _ fun v2 H4 e4 r2 => h3 H4 (((e.trans e2).trans e3).trans e4) _ fun v3 H5 e5 r3 => h4 H5 ((((e.trans e2).trans e3).trans e4).trans e5) _ fun v4 H6 e6 r4 => h5 H6 (((((e.trans e2).trans e3).trans e4).trans e5).trans e6) _ fun v5 H7 e7 r5 => 
    ⟨v0, v1, v2, v3, v4, v5, a, b, c, d, a5, a6, rfl, Rep.mono ((((e3.trans e4).trans e5).trans e6).trans e7) r0, Rep.mono (((e4.trans e5).trans e6).trans e7) r1, Rep.mono ((e5.trans e6).trans e7) r2, Rep.mono (e6.trans e7) r3, Rep.mono e7 r4, r5, hp, fun v H' e' r => q v H' ((((((e2.trans e3).trans e4).trans e5).trans e6).trans e7).trans e') r⟩
variable {P : Program} {w : World} {mg : Str → Option Value} {base : Heap} {xn qual : Str} {params : Arguments} {body : List Stmt} {scope : Scope} {dvs : List V} {kws : List (Str × V)} {f : Addr} {fd : FuncData} {N ps : List Str} {k : Nat} {CX : CXT}
theorem ok6 {pre : α → β → γ → ε → ζ → η → Prop} {g : α → β → γ → ε → ζ → η → δ} (F : FunD K xn qual params body scope dvs kws f fd) (S : FnScope N ps scope) (hl : ps.length = 6) (σ0 : V → V → V → V → V → V → L2.St) (h0 : ∀ x y z u x5 x6, start N [x, y, z, u, x5, x6] = σ0 x y z u x5 x6)
    (h : ∀ (H : Hp) (Q : VK) (x y z u x5 x6 : V) (a : α) (b : β) (c : γ) (d : ε) (a5 : ζ) (a6 : η), Rep.rel K H x a → Rep.rel K H y b → Rep.rel K H z c → Rep.rel K H u d → Rep.rel K H x5 a5 → Rep.rel K H x6 a6 → pre a b c d a5 a6 → (∀ v H', Ex H H' → Rep.rel K H' v (g a b c d a5 a6) → Q v H') → Body CX P w K mg base k f N qual scope body H Q (σ0 x y z u x5 x6)) : FnOk P w K mg base CX (k + 1) f fd ps (sp6 K pre g) := by
  refine F.ok S (fun vs H Q E hs => ?_) (fun cdv A outer s H vs Q E hr hs => ?_)
  · obtain ⟨x, y, z, u, x5, x6, a, b, c, d, a5, a6, rfl, _⟩ := hs
    exact hl.symm
  · obtain ⟨x, y, z, u, x5, x6, a, b, c, d, a5, a6, rfl, k0, k1, k2, k3, k4, k5, hp, q⟩ := hs
    rw [h0]
    exact h H Q x y z u x5 x6 a b c d a5 a6 k0 k1 k2 k3 k4 k5 hp q cdv A outer s E hr
end
/-! ### a def with three parameters and a star -/
def tCallR (sp : Sp) (E : XK) (t : TA) : TE := fun σ H Q => t σ H fun vs H1 => sp vs H1 Q E
theorem pe_callR {X : Cx} {CX : CXT} {k : Nat} {f : Addr} {sp : Sp} {E : XK} {x : Str} {p pos : Pos} {e : Expr} {es : List Expr} {t : TA} (F : FnR X.prog X.w X.K X.mg X.base CX k f sp) (hr : Room k X.A) (hg : Gl X x) (hm : X.mg x = some (.ref f)) (hk : PySem.W.keepIn X.K (.ref f) = true) (hx : Passes CX X E)
    (ha : PA X (e :: es) t) (hdb : (x == ("__debug__" : Str)) = false := by decide) (he : starEach (e :: es) X.env = (false, eval e X.env) :: starEach es X.env := by rfl) (hpl : (backTo pos (starEach es X.env)).any (·.1) = false := by rfl) :
    PE X (.Call (.Name x p) (e :: es) [] pos) (tCallR sp E t) := by
  refine ⟨fun pins s σ H Q I h => ?_⟩
  refine wpAny_Call_Name_kw (ld_glob I hg hm ?_ hdb)
  refine PySem.W.callWith_K (h₀ := X.base) I.ok.mod.kin hk (thn (ha.run pos pins s σ H _ I h) fun us s1 ⟨vs, H1, I1, r, q⟩ => ⟨I1.kIn, ?_⟩) he hpl
  exact wpAny_call (run_fnR F hr hx I1 r q)
section
variable {α β γ ε δ : Type} [Rep α] [Rep β] [Rep γ] [Rep ε] [Rep δ]
def spV3 (K : PySem.W.Frag) (pre : α → β → γ → List ε → Prop) (g : α → β → γ → List ε → δ) : Sp := fun vs H Q _ => ∃ x y z us a b c ds, vs = x :: y :: z :: us ∧ Rep.rel K H x a ∧ Rep.rel K H y b ∧ Rep.rel K H z c ∧ rels K H us ds ∧ ds.length ≤ 1000 ∧ pre a b c ds ∧ ∀ v H', Ex H H' → Rep.rel K H' v (g a b c ds) → Q v H'
variable {K : PySem.W.Frag} {σ : L2.St} {H : Hp} {ta tb tc : TE} {tA : TA} {E : XK} {a : α} {b : β} {c : γ} {ds : List ε}
theorem er_callV3 {pre : α → β → γ → List ε → Prop} {g : α → β → γ → List ε → δ} (ha : ER K ta σ H a) (hb : ER K tb σ H b) (hc : ER K tc σ H c) (hA : EAs K tA σ H ds) (hl : ds.length ≤ 1000) (hp : pre a b c ds) :
    ER K (tCallR (spV3 K pre g) E (tCons ta (tCons tb (tCons tc tA)))) σ H (g a b c ds) := fun H1 e Q q =>
  ha H1 e _ fun v1 H2 e2 r1 => hb H2 (e.trans e2) _ fun v2 H3 e3 r2 => hc H3 ((e.trans e2).trans e3) _ fun v3 H4 e4 r3 => hA H4 (((e.trans e2).trans e3).trans e4) _ fun us H5 e5 rs =>
    ⟨v1, v2, v3, us, a, b, c, ds, rfl, Rep.mono ((e3.trans e4).trans e5) r1, Rep.mono (e4.trans e5) r2, Rep.mono e5 r3, rs, hl, hp, fun v H' e' r => q v H' ((((e2.trans e3).trans e4).trans e5).trans e') r⟩
variable {P : Program} {w : World} {mg : Str → Option Value} {base : Heap} {xn qual : Str} {params : Arguments} {body : List Stmt} {scope : Scope} {f : Addr} {fd : FuncData} {N : List Str} {k : Nat} {p1 p2 p3 pv : Str}
theorem okV3 {pre : α → β → γ → List ε → Prop} {g : α → β → γ → List ε → δ} (F : FunD K xn qual params body scope [] [] f fd) (S : FnScope N [p1, p2, p3, pv] scope) (σ0 : V → V → V → V → L2.St) (h0 : ∀ x y z u, start N [x, y, z, u] = σ0 x y z u)
    (hbind : ∀ (kV doc pm : Value) (an : Option Addr) (cdv ct : Value) (us rest : List Value), us.length = 3 → bindArgs (PySem.W.fnOf xn qual params body scope .none kV doc pm an cdv ct) ⟨us ++ rest, []⟩ = (newTuple rest >>= fun t => pure ([p1, p2, p3].zip us ++ [(pv, t)])))
    (h : ∀ (H : Hp) (Q : VK) (x y z u : V) (a : α) (b : β) (c : γ) (d : Tpl ε), Rep.rel K H x a → Rep.rel K H y b → Rep.rel K H z c → Rep.rel K H u d → pre a b c d.l → (∀ v H', Ex H H' → Rep.rel K H' v (g a b c d.l) → Q v H') → Body CX0 P w K mg base k f N qual scope body H Q (σ0 x y z u)) : FnR P w K mg base CX0 (k + 1) f (spV3 K pre g) := by
  obtain ⟨oc, od, dV, kV, doc, pm, an, cdv, ct, osl, rfl, lk, hcd, hD, hK⟩ := F.ex
  rcases hD with ⟨_, rfl⟩ | ⟨e, _⟩
  · refine FnR.imp (StX.fn_star (ps := [p1, p2, p3]) (pv := pv) (sp := fun vs H Q _ => ∃ x y z u a b c d, vs = [x, y, z, u] ∧ Rep.rel K H x a ∧ Rep.rel K H y b ∧ Rep.rel K H z c ∧ Rep.rel K H u (Tpl.mk d) ∧ pre a b c d ∧ ∀ v H', Ex H H' → Rep.rel K H' v (g a b c d) → Q v H') lk hcd S StX.cxUp_none (fun us rest hl => hbind kV doc pm an cdv ct us rest hl) ?_) ?_
    · intro A outer s H vs Q E hr hs
      obtain ⟨x, y, z, u, a, b, c, d, rfl, h1, h2, h3, h4, hp, q⟩ := hs
      rw [h0]
      exact h H Q x y z u a b c (Tpl.mk d) h1 h2 h3 h4 hp q cdv A outer s E hr
    · intro vs H Q E hs
      obtain ⟨x, y, z, us, a, b, c, d, rfl, h1, h2, h3, h4, hl, hp, q⟩ := hs
      refine ⟨[x, y, z], us, rfl, rfl, by rw [rels_len h4]; exact sz_of (by omega), fun p hp' => ?_⟩
      have n := Ex.new (o := .tup us) hp'
      exact ⟨x, y, z, .ref p, a, b, c, d, rfl, Rep.mono n h1, Rep.mono n h2, Rep.mono n h3, ⟨p, us, rfl, st_of upd_same, rels_mono n h4⟩, hp, fun v H' e r => q v H' (n.trans e) r⟩
  · exact absurd rfl e
/-- such a def of the module, to be called -/
structure CalR (P : Program) (w : World) (K : PySem.W.Frag) (mg : Str → Option Value) (base : Heap) (k : Nat) (x : Str) (sp : Sp) (f : Addr) : Prop where
  ok : FnR P w K mg base CX0 k f sp
  mg : mg x = some (.ref f)
  kp : PySem.W.keepIn K (.ref f) = true
end
section
variable {K : PySem.W.Frag} {σ : L2.St} {H : Hp} {te : TE}
theorem er_pairT {α : Type} [Rep α] {x : α × α} (h : ER K te σ H x) : ER K te σ H (Tpl.mk [x.1, x.2]) := fun H1 e Q q => h H1 e Q fun v H2 e2 ⟨a, v1, v2, hv, hs, r1, r2⟩ => q v H2 e2 ⟨a, [v1, v2], hv, hs, .cons r1 (.cons r2 .nil)⟩
theorem er_lenP {α β : Type} [Rep α] [Rep β] {x : α × β} (h : ER K te σ H x) : ER K (tCB (rLenQ K) (tCons te tNil)) σ H (2 : Int) := fun H1 e Q q => h H1 e _ fun v H2 e2 ⟨a, v1, v2, hv, hs, r1, r2⟩ => ⟨a, [v1, v2], by rw [hv], .inr hs, q _ H2 e2 rfl⟩
end
section
variable {α β γ ε δ : Type} [Rep α] [Rep β] [Rep γ] [Rep ε] [Rep δ] {K : PySem.W.Frag} {σ : L2.St} {H : Hp} {ta tb tc td : TE} {tt : TT}
theorem etn_notT (h : ETN K tt σ H (fun b => b = true)) : ETN K (tNot tt) σ H (fun b => b = false) := fun H1 e Q q => h H1 e _ fun b H2 p e2 => by
  subst p
  exact q false H2 rfl e2
theorem etn_bT {P : Bool → Prop} (h : EN K ta σ H P) (hp : ∀ b, P b → b = true) : ETN K (tB ta) σ H (fun b => b = true) := etn_b (en_imp h hp)
theorem en_ca4 {sp : Sp} {dvs : List V} {E : XK} {P1 : α → Prop} {P2 : β → Prop} {P3 : γ → Prop} {P4 : ε → Prop} {P : δ → Prop} (ha : EN K ta σ H P1) (hb : EN K tb σ H P2) (hc : EN K tc σ H P3) (hd : EN K td σ H P4) (h : ∀ x y z o v w u t H1, Ex H H1 → P1 x → P2 y → P3 z → P4 o → Rep.rel K H1 v x → Rep.rel K H1 w y → Rep.rel K H1 u z → Rep.rel K H1 t o → EN K (tCall sp dvs E (tCons (tC v) (tCons (tC w) (tCons (tC u) (tCons (tC t) tNil))))) σ H1 P) : EN K (tCall sp dvs E (tCons ta (tCons tb (tCons tc (tCons td tNil))))) σ H P := fun H1 e Q q =>
  ha H1 e _ fun x v H2 p1 e2 r1 => hb H2 (e.trans e2) _ fun y w H3 p2 e3 r2 => hc H3 ((e.trans e2).trans e3) _ fun z u H4 p3 e4 r3 => hd H4 (((e.trans e2).trans e3).trans e4) _ fun o t H5 p4 e5 r4 => h x y z o v w u t H5 ((((e.trans e2).trans e3).trans e4).trans e5) p1 p2 p3 p4 (Rep.mono ((e3.trans e4).trans e5) r1) (Rep.mono (e4.trans e5) r2) (Rep.mono e5 r3) r4 H5 (Ex.refl _) Q fun z v' H6 p e6 r6 => q z v' H6 p ((((e2.trans e3).trans e4).trans e5).trans e6) r6
theorem en_caR4 {sp : Sp} {E : XK} {P1 : α → Prop} {P2 : β → Prop} {P3 : γ → Prop} {P4 : ε → Prop} {P : δ → Prop} (ha : EN K ta σ H P1) (hb : EN K tb σ H P2) (hc : EN K tc σ H P3) (hd : EN K td σ H P4) (h : ∀ x y z o v w u t H1, Ex H H1 → P1 x → P2 y → P3 z → P4 o → Rep.rel K H1 v x → Rep.rel K H1 w y → Rep.rel K H1 u z → Rep.rel K H1 t o → EN K (tCallR sp E (tCons (tC v) (tCons (tC w) (tCons (tC u) (tCons (tC t) tNil))))) σ H1 P) : EN K (tCallR sp E (tCons ta (tCons tb (tCons tc (tCons td tNil))))) σ H P := fun H1 e Q q =>
  ha H1 e _ fun x v H2 p1 e2 r1 => hb H2 (e.trans e2) _ fun y w H3 p2 e3 r2 => hc H3 ((e.trans e2).trans e3) _ fun z u H4 p3 e4 r3 => hd H4 (((e.trans e2).trans e3).trans e4) _ fun o t H5 p4 e5 r4 => h x y z o v w u t H5 ((((e.trans e2).trans e3).trans e4).trans e5) p1 p2 p3 p4 (Rep.mono ((e3.trans e4).trans e5) r1) (Rep.mono (e4.trans e5) r2) (Rep.mono e5 r3) r4 H5 (Ex.refl _) Q fun z v' H6 p e6 r6 => q z v' H6 p ((((e2.trans e3).trans e4).trans e5).trans e6) r6
end
section
variable {σ : L2.St} {H : Hp} {tt : TT} {u t1 : TS} {D : Ends}
theorem q_ifNo (K : PySem.W.Frag) (h : ETN K tt σ H (fun b => b = false)) (k : ∀ H1, Ex H H1 → u D σ H1) : tSeq (tIfS tt t1 tNext) u D σ H := q_ifN K h (fun z => nomatch z) (fun _ H1 e => k H1 e)
theorem l_ifNo (K : PySem.W.Frag) (h : ETN K tt σ H (fun b => b = false)) (k : ∀ H1, Ex H H1 → D.nx σ H1) : tIfS tt t1 tNext D σ H := l_ifN K h (fun z => nomatch z) (fun _ H1 e => k H1 e)
end
/-! ### tuples put together, also empty ones -/
def rCatT2 (K : PySem.W.Frag) : R2 := fun x y H Q => ∃ a b xs ys, x = .ref a ∧ y = .ref b ∧ SqT K H a xs ∧ SqT K H b ys ∧ xs.length + ys.length ≤ sizeLine ∧ ∀ p H', Ex H H' → SqT K H' p (xs ++ ys) → Q (.ref p) H'
theorem op_catT2 {X : Cx} : OpR X (binaryOp .Add) (rCatT2 X.K) := by
  intro pins s σ H x y v u Q I rx ry h
  obtain ⟨a, b, xs, ys, rfl, rfl, ha, hb, hz, q⟩ := h
  by_cases hx : xs = []
  · cases rx
    cases ry
    obtain ⟨its, r1, p1, _⟩ := I.tuple ha
    obtain ⟨its2, r2, p2, _⟩ := I.tuple hb
    have he : its = [] := by
      subst hx
      cases r1
      rfl
    obtain ⟨⟨cls, dd, data, sl⟩, ho, hc, n, hd⟩ := id p1
    obtain ⟨⟨cls2, dd2, data2, sl2⟩, ho2, hc2, n2, hd2⟩ := id p2
    simp only at hc hd hc2 hd2
    subst hc hd hc2 hd2
    refine concat_meets ⟨_, ho, rfl⟩ ⟨_, ho2, rfl⟩ noFill_tuple_add seq_tuple_add PySem.F.slot_tuple_add PySem.F.entry_tuple_add (PySem.F.args_tuple_add_2 _ _)
      (tuple_addW0 a b its.toArray its2.toArray n n2 dd dd2 sl sl2 (by simp [he])) ⟨ho, ho2, ?_⟩
    exact ⟨.ref b, H, I, rfl, q b H (Ex.refl _) (by rw [hx]; exact hb)⟩
  · refine op_catT pins s σ H _ _ v u Q I rx ry ⟨a, b, xs, ys, rfl, rfl, ha, hb, hx, hz, fun z => q a H (Ex.refl _) (by rw [z, List.append_nil]; exact ha), fun _ p hp => ?_⟩
    exact q p _ (Ex.new hp) (st_of upd_same)
theorem er_catT {α : Type} [Rep α] {K : PySem.W.Frag} {σ : L2.St} {H : Hp} {ta tb : TE} {xs ys : Tpl α} (ha : ER K ta σ H xs) (hb : ER K tb σ H ys) (hl : xs.l.length + ys.l.length ≤ 100000) : ER K (tOp (rCatT2 K) ta tb) σ H (Tpl.mk (xs.l ++ ys.l)) := fun H1 e Q q =>
  ha H1 e _ fun v H2 e2 ⟨a, vs, hv, hs, hr⟩ => hb H2 (e.trans e2) _ fun w H3 e3 ⟨b, ws, hw, hs2, hr2⟩ =>
    ⟨a, b, vs, ws, hv, hw, ex_t e3 hs, hs2, by rw [rels_len hr, rels_len hr2]; exact sz_of hl, fun p H' e' hp => q (.ref p) H' ((e2.trans e3).trans e') ⟨p, _, rfl, hp, rels_app (rels_mono (e3.trans e') hr) (rels_mono e' hr2)⟩⟩
/-! ### loops over what is drawn -/
section
variable {α : Type} [Rep α] {σ : L2.St} {H : Hp} {u : TS} {D : Ends}
theorem for_wkN (K : PySem.W.Frag) {wi : TI} {PX : List α → Prop} (h : WkN K wi σ H PX) {gt : TG} {tb : TS} (Pv : List α → L2.St → Hp → Prop) (h0 : ∀ H1, Ex H H1 → Pv [] σ H1)
    (hs : ∀ xs H1 pre x post v σ' H' H'', PX xs → Ex H H1 → xs = pre ++ x :: post → Ey H1 H' → Pv pre σ' H' → Ex H' H'' → Rep.rel K H'' v x →
      gt v σ' H'' fun σ2 H2 => tb { D with nx := fun σ3 H3 => Ey H1 H3 ∧ Pv (pre ++ [x]) σ3 H3, ct := fun σ3 H3 => Ey H1 H3 ∧ Pv (pre ++ [x]) σ3 H3, bk := D.nx } σ2 H2)
    (hd : ∀ xs σ' H', PX xs → Ey H H' → Pv xs σ' H' → D.nx σ' H') : tFor wi gt tb D σ H := by
  refine h H (Ex.refl H) _ fun xs J H2 G Y px e2 w hG hY => ?_
  refine for_it w (fun i σ' H' => Ey H2 H' ∧ Pv (xs.take i) σ' H') ⟨Ey.refl _, by rw [List.take_zero]; exact h0 H2 e2⟩ (fun i σ' H' _ p => hG H' p.1) (fun i v σ' H' H'' hi p y => ?_) (fun σ' H' p => hd xs σ' H' px (e2.y.trans p.1) (by rw [List.take_length] at p; exact p.2))
  obtain ⟨e3, x, hx, r⟩ := hY i H' v H'' hi p.1 y
  have et : xs.take (i + 1) = xs.take i ++ [x] := by
    rw [List.take_add_one, hx]
    rfl
  have ex : xs = xs.take i ++ x :: xs.drop (i + 1) := by
    have h1 := (List.take_append_drop i xs).symm
    obtain ⟨hi2, hx2⟩ := List.getElem?_eq_some_iff.mp hx
    rw [List.drop_eq_getElem_cons hi2, hx2] at h1
    exact h1
  have z := hs xs H2 (xs.take i) x (xs.drop (i + 1)) v σ' H' H'' px e2 ex p.1 p.2 e3 r
  rw [← et] at z
  exact z
theorem q_forN (K : PySem.W.Frag) {wi : TI} {PX : List α → Prop} (h : WkN K wi σ H PX) {gt : TG} {tb : TS} (Pv : List α → L2.St → Hp → Prop) (h0 : ∀ H1, Ex H H1 → Pv [] σ H1)
    (hs : ∀ xs H1 pre x post v σ' H' H'', PX xs → Ex H H1 → xs = pre ++ x :: post → Ey H1 H' → Pv pre σ' H' → Ex H' H'' → Rep.rel K H'' v x →
      gt v σ' H'' fun σ2 H2 => tb { D with nx := fun σ3 H3 => Ey H1 H3 ∧ Pv (pre ++ [x]) σ3 H3, ct := fun σ3 H3 => Ey H1 H3 ∧ Pv (pre ++ [x]) σ3 H3, bk := u D } σ2 H2)
    (hd : ∀ xs σ' H', PX xs → Ey H H' → Pv xs σ' H' → u D σ' H') : tSeq (tFor wi gt tb) u D σ H := for_wkN K (D := { D with nx := u D }) h Pv h0 hs hd
end
/-- an item of a list by its place -/
theorem at_getD {α : Type} {xs : List α} {i : Nat} {d : α} (h : i < xs.length) : atI xs (i : Int) = some (xs.getD i d) := by
  refine atI_nat ?_
  rw [List.getD_eq_getElem?_getD, List.getElem?_eq_getElem h]
  rfl
section
variable {α : Type} [Rep α] {K : PySem.W.Frag} {σ : L2.St} {H : Hp} {te : TE} {u : TS} {D : Ends} {g : TGs}
/-- a tuple of one kind, unpacked -/
theorem q_unpL3 (K : PySem.W.Frag) {x : Tpl α} {a b c : α} {n : Nat} (hn : n = 3) (h : ER K te σ H x) (hx : x.l = [a, b, c]) (k : ∀ v1 v2 v3 H1, Ex H H1 → Rep.rel K H1 v1 a → Rep.rel K H1 v2 b → Rep.rel K H1 v3 c → g [v1, v2, v3] σ H1 fun σ' H' => u D σ' H') : tSeq (tAsg te (gTup K n g)) u D σ H := h H (Ex.refl H) _ fun v H1 e ⟨p, vs, hv, hs, hr⟩ => by
  rw [hx] at hr
  cases hr with
  | cons r1 hr =>
    cases hr with
    | cons r2 hr =>
      cases hr with
      | cons r3 hr =>
        cases hr
        exact ⟨p, _, hv, hs, hn.symm, k _ _ _ H1 e r1 r2 r3⟩
end
theorem len3 {α : Type} {xs : List α} (h : (xs.length : Int) = 3) : ∃ a b c, xs = [a, b, c] := by
  match xs, h with
  | [a, b, c], _ => exact ⟨a, b, c, rfl⟩
  | [], h => cases h
  | [_], h => cases h
  | [_, _], h => cases h
  | _ :: _ :: _ :: _ :: _, h =>
    simp only [List.length_cons] at h
    omega
end Sf

namespace Sf
open PySem PySem.Spec PyProof.Rows L2 Evl

/-! ### lists that are changed in place -/
/-- all but what stands at l is kept -/
def Eo (l : Addr) (H H' : Hp) : Prop := ∀ a o, a ≠ l → H a = some o → H' a = some o
theorem Eo.ex {l : Addr} {B H H' : Hp} (e : Eo l H H') (hb : B l = none) (b : Ex B H) : Ex B H' := fun a o h => e a o (ne_of_none h hb) (b a o h)
theorem Eo.y {l : Addr} {H H' : Hp} {ws : List V} (e : Eo l H H') (h : H l = some (MutO l ws)) : Ey H H' := fun a o ho => by
  by_cases z : a = l
  · subst z
    rw [h] at ho
    cases ho
    exact .inl (.m ws)
  · exact .inr (e a o z ho)
theorem Eo.upd {l : Addr} {H H' : Hp} {o : HO} (e : Ex H H') : Eo l H (upd H' l o) := fun a u n h => by
  rw [upd_ne n]
  exact e a u h
theorem Eo.of {l : Addr} {H H' : Hp} (e : Ex H H') : Eo l H H' := fun a u _ h => e a u h
theorem mutO_ok {P : Program} {w : World} {H H' : Hp} {h : Heap} {l : Addr} {ws : List V} (x : ObjOk P w H h l (.lst ws)) : ObjOk P w H' h l (MutO l ws) := by
  obtain ⟨z, its, n, r, e⟩ := x
  exact ⟨⟨z, its, n, r, e⟩, ⟨_, e⟩, fun h1 h2 ⟨z, its, n, r, e⟩ k => ⟨z, its, n, r, k _ e⟩⟩
theorem mutO_get {P : Program} {w : World} {H H' : Hp} {h : Heap} {l : Addr} {ws : List V} (x : ObjOk P w H h l (MutO l ws)) : ObjOk P w H' h l (.lst ws) := by
  obtain ⟨⟨z, its, n, r, e⟩, _⟩ := x
  exact ⟨z, its, n, r, e⟩
section
variable {X : Cx} {pins : List (Addr × Obj)} {σ : L2.St} {H : Hp} {s : Shared} {l : Addr} {ws : List V}
theorem inv_open (I : Inv X pins σ H s) (h : H l = some (MutO l ws)) : Inv X pins σ (upd H l (.lst ws)) s := by
  have ok := I.hok l _ h
  have e : ∃ o, s.heap.get? l = some o := ok.2.1
  exact I.write (h' := s.heap) (t' := s.toks) (x := l) (e := l) (by rw [h]; exact trivial) (.inl rfl) (fun _ _ _ q => q) e (mutO_get ok)
theorem inv_close (I : Inv X pins σ H s) (h : H l = some (.lst ws)) : Inv X pins σ (upd H l (MutO l ws)) s := by
  have ok := I.hok l _ h
  have e : ∃ o, s.heap.get? l = some o := by
    obtain ⟨_, its, n, _, e⟩ := ok
    exact ⟨_, e⟩
  exact I.write (h' := s.heap) (t' := s.toks) (x := l) (e := l) (by rw [h]; exact trivial) (.inl rfl) (fun _ _ _ q => q) e (mutO_ok ok)
end
/-! the expression is read while the list in slot n is open -/
def tOpen (n : Nat) (t : TE) : TE := fun σ H Q => ∃ l ws, σ[n]? = some (some (.ref l)) ∧ H l = some (MutO l ws) ∧ t σ (upd H l (.lst ws)) fun v H2 => H2 l = some (.lst ws) ∧ Q v (upd H2 l (MutO l ws))
theorem pe_open {X : Cx} {e : Expr} {t : TE} (n : Nat) (h : PE X e t) : PE X e (tOpen n t) := by
  refine ⟨fun pins s σ H Q I ⟨l, ws, hn, hl, ht⟩ => ?_⟩
  refine thn (h.run pins s σ _ _ (inv_open I hl) ht) fun u s2 ⟨v, H2, I2, r, h2, q⟩ => ?_
  exact ⟨v, _, inv_close I2 h2, r, q⟩
def tOpenT (n : Nat) (t : TT) : TT := fun σ H Q => ∃ l ws, σ[n]? = some (some (.ref l)) ∧ H l = some (MutO l ws) ∧ t σ (upd H l (.lst ws)) fun v H2 => H2 l = some (.lst ws) ∧ Q v (upd H2 l (MutO l ws))
theorem pt_open {X : Cx} {e : Expr} {t : TT} (n : Nat) (h : PT X e t) : PT X e (tOpenT n t) := by
  refine ⟨fun pins s σ H Q I ⟨l, ws, hn, hl, ht⟩ => ?_⟩
  refine thn (h.run pins s σ _ _ (inv_open I hl) ht) fun u s2 ⟨H2, I2, h2, q⟩ => ?_
  exact ⟨_, inv_close I2 h2, q⟩
/-! between statements: the list in slot n is from now on one that changes; is from now on a list like others -/
def tClose (n : Nat) (t : TS) : TS := fun D σ H => ∃ l ws, σ[n]? = some (some (.ref l)) ∧ H l = some (.lst ws) ∧ t D σ (upd H l (MutO l ws))
theorem pss_close {X : Cx} {st : List Stmt} {t : TS} (n : Nat) (h : PSs X st t) : PSs X st (tClose n t) := by
  refine ⟨fun pins s σ H D I ⟨l, ws, hn, hl, ht⟩ => ?_⟩
  exact h.run pins s σ _ D (inv_close I hl) ht
def tThaw (n : Nat) (t : TS) : TS := fun D σ H => ∃ l ws, σ[n]? = some (some (.ref l)) ∧ H l = some (MutO l ws) ∧ t D σ (upd H l (.lst ws))
theorem pss_thaw {X : Cx} {st : List Stmt} {t : TS} (n : Nat) (h : PSs X st t) : PSs X st (tThaw n t) := by
  refine ⟨fun pins s σ H D I ⟨l, ws, hn, hl, ht⟩ => ?_⟩
  exact h.run pins s σ _ D (inv_open I hl) ht
/-! x.append(e) -/
def tApp (n : Nat) (t : TA) : TE := fun σ H Q => ∃ l ws0, σ[n]? = some (some (.ref l)) ∧ H l = some (MutO l ws0) ∧ t σ H fun xs H2 => ∃ ws y, xs = [y] ∧ H2 l = some (MutO l ws) ∧ ws.length < sizeLine ∧ Q .non (upd H2 l (MutO l (ws ++ [y])))
theorem pe_app {X : Cx} {o e : Expr} {t : TA} {apos cpos : Pos} {n : Nat} (ho : PE X o (tVar n)) (ha : PA X [e] t)
    (hbase : attributeBase o ("append" : Str) X.env (eval o X.env) = eval o X.env := by rfl)
    (hfew : ((backTo cpos (starEach [e] X.env)).all (fun x => !x.1) && (backToKw cpos (keywordEach [] X.env)).all (fun x => x.1.isSome)
      && decide ([e].length + ([] : List Keyword).length + (if ([] : List Keyword).isEmpty then 0 else 1) < 30)) = true := by rfl)
    (hline : (apos.endLine == cpos.line) = true := by rfl) (hs : starEach [e] X.env = (false, eval e X.env) :: starEach [] X.env := by rfl) (hplain : (backTo cpos (starEach [] X.env)).any (·.1) = false := by rfl) :
    PE X (.Call (.Attribute o ("append" : Str) apos) [e] [] cpos) (tApp n t) := by
  refine ⟨fun pins s σ H Q I ⟨l, ws0, hn, hl, ht⟩ => ?_⟩
  have h1 : tVar n σ H (fun v H1 => v = .ref l ∧ H1 = H) := ⟨_, hn, rfl, rfl⟩
  refine wpAny_Call_method_late hbase hfew hline rfl (thn (ho.run pins s σ H _ I h1) fun v s1 ⟨x, H1, I1, r1, ex, eh⟩ => ?_)
  subst ex
  subst eh
  obtain ⟨k1, k2⟩ := tyV_is (T := "list") (inv_open I1 hl) r1 (.inl ⟨rfl, ws0, .inl (.inl upd_same)⟩)
  refine ⟨"list", "list.append", PySem.F.plainAttrs_list, PySem.F.slot_list_append, PySem.F.type_list_append, k1, k2, ?_⟩
  have hA := ha.run cpos pins s1 σ H1 _ I1 ht
  rw [hs] at hA ⊢
  refine Calls.callWith_builtin (by show (false || (backTo cpos (starEach [] X.env)).any (·.1)) = false; rw [hplain] <;> rfl) (Calls.evalArgs_plain ?_)
  refine thn hA fun us s2 ⟨vs, H2, I2, r2, ws, y, exs, h2, hz, q2⟩ => ?_
  subst exs
  refine thn (mt_append pins s2 σ _ (.ref l) [y] v us (fun v' H3 => v' = .non ∧ H3 l = some (.lst (ws ++ [y])) ∧ Q .non (upd H3 l (MutO l (ws ++ [y])))) (inv_open I2 h2) r1 r2 ⟨l, ws, y, rfl, rfl, upd_same, hz, rfl, upd_same, by rw [upd_upd, upd_upd]; exact q2⟩) fun u3 s3 ⟨v3, H3, I3, r3, e3, h3, q3⟩ => ?_
  subst e3
  exact ⟨.non, _, inv_close I3 h3, r3, q3⟩
/-! x[i] = e -/
def rSetM : TSet := fun o i v H Q => ∃ p xs k j, o = .ref p ∧ i = .int k ∧ H p = some (MutO p xs) ∧ L2.ixN xs.length k = some j ∧ Q (upd H p (MutO p (xs.set j v)))
theorem set_listM {X : Cx} : PSet X rSetM := by
  intro pins s σ H o i v ov iv u Q I ro ri rv ⟨p, xs, k, j, eo, ei, hp, hj, q⟩
  refine wpAny_mono (set_list pins s σ _ o i v ov iv u (fun H3 => H3 p = some (.lst (xs.set j v)) ∧ Q (upd H3 p (MutO p (xs.set j v)))) (inv_open I hp) ro ri rv ⟨p, xs, k, j, eo, ei, upd_same, hj, upd_same, by rw [upd_upd, upd_upd]; exact q⟩) (fun _ s' ⟨H', I', h1, h2⟩ => ⟨_, inv_close I' h1, h2⟩) (fun _ _ z => z)

/-- data of no list: whatever becomes of the list at l -/
class ImmX (α : Type) [Rep α] : Prop where
  imm : ∀ {K : PySem.W.Frag} {H : Hp} {v : V} {x : α} {l : Addr} {ws : List V} {o : HO}, H l = some (.lst ws) → Rep.rel K H v x → Rep.rel K (upd H l o) v x
/-! ### their readings -/
section
variable {α β : Type} [Rep α] [Rep β] {K : PySem.W.Frag} {σ σ' : L2.St} {H H' : Hp} {te tl ta tb : TE} {tA : TA} {tt : TT} {u : TS} {D : Ends} {n : Nat} {xs : List α} {i : Int}
/-- a new list -/
def EL (K : PySem.W.Frag) (te : TE) (σ : L2.St) (H : Hp) (xs : List α) : Prop := ∀ H1, Ex H H1 → ∀ Q : VK, (∀ l ws H2, H1 l = none → Ex H1 H2 → H2 l = some (.lst ws) → rels K (upd H2 l (MutO l ws)) ws xs → Q (.ref l) H2) → te σ H1 Q
theorem el_lst (h : EAs K tA σ H xs) (hl : xs.length ≤ 100000) : EL K (tLst tA) σ H xs := fun H1 e Q q => h H1 e _ fun vs H2 e2 rs => ⟨by rw [rels_len rs]; exact sz_of hl, fun p hp => by
  have n := Ex.new (o := .lst vs) hp
  refine q p vs _ (fresh_back e2 hp) (e2.trans n) upd_same ?_
  rw [upd_upd]
  exact rels_mono (Ex.new hp) rs⟩
theorem el_cat {ys : List α} (h : ER K ta σ H xs) (h2 : ER K tb σ H ys) (hl : xs.length + ys.length ≤ 100000) : EL K (tOp rCat ta tb) σ H (xs ++ ys) := fun H1 e Q q => h H1 e _ fun v H2 e2 ⟨a, vs, hv, hs, hr⟩ => h2 H2 (e.trans e2) _ fun w H3 e3 ⟨b, ws, hw, hs', hr'⟩ =>
  ⟨a, b, vs, ws, hv, hw, e3 _ _ hs, hs', by rw [rels_len hr, rels_len hr']; exact sz_of hl, fun p hp => by
    refine q p (vs ++ ws) _ (fresh_back (e2.trans e3) hp) ((e2.trans e3).trans (Ex.new hp)) upd_same ?_
    rw [upd_upd]
    exact rels_mono (Ex.new hp) (rels_app (rels_mono e3 hr) hr')⟩
theorem el_listS [Imm α] (h : ER K ta σ H xs) : EL K (tCB (rListS K) (tCons ta tNil)) σ H xs := fun H1 e Q q => h H1 e _ fun v H2 e2 ⟨a, vs, hv, hs, hr⟩ => by
  subst hv
  refine ⟨a, vs, rfl, .inl (sq_of hs), fun l hl => q l vs _ (fresh_back e2 hl) (e2.trans (Ex.new hl)) upd_same ?_⟩
  rw [upd_upd]
  exact rels_mono (Ex.new hl) hr
theorem el_listT (h : ER K ta σ H (Tpl.mk xs)) : EL K (tCB (rListS K) (tCons ta tNil)) σ H xs := fun H1 e Q q => h H1 e _ fun v H2 e2 ⟨a, vs, hv, hs, hr⟩ => by
  subst hv
  refine ⟨a, vs, rfl, .inr hs, fun l hl => q l vs _ (fresh_back e2 hl) (e2.trans (Ex.new hl)) upd_same ?_⟩
  rw [upd_upd]
  exact rels_mono (Ex.new hl) hr
theorem Eo.trans {l : Addr} {H H1 H2 : Hp} (a : Eo l H H1) (b : Eo l H1 H2) : Eo l H H2 := fun x o n h => b x o n (a x o n h)
/-- it is made -/
theorem q_new (K : PySem.W.Frag) {s' : V → L2.St} (h : EL K te σ H xs) (s : ∀ v, SetAt σ n v (s' v)) (g : ∀ l, (s' (.ref l))[n]? = some (some (.ref l))) (k : ∀ l ws H1, H l = none → Ex H H1 → H1 l = some (MutO l ws) → rels K H1 ws xs → u D (s' (.ref l)) H1) : tSeq (tAsg te (gName n)) (tClose n u) D σ H :=
  h H (Ex.refl H) _ fun l ws H1 hn e hl rs => by
    show tClose n u D (σ.set n (some (.ref l))) H1
    rw [(s _).eq]
    exact ⟨l, ws, g l, hl, k l ws _ hn (Ex.mut e hn) upd_same rs⟩
/-- one more at its end -/
theorem q_app (K : PySem.W.Frag) {l : Addr} {ws : List V} {x : α} (hn : σ[n]? = some (some (.ref l))) (hl : H l = some (MutO l ws)) (hr : rels K H ws xs) (h : ER K te σ H x) (hz : xs.length < 100000)
    (k : ∀ ws' H1, Eo l H H1 → H1 l = some (MutO l ws') → rels K H1 ws' (xs ++ [x]) → u D σ H1) : tSeq (tDrop (tApp n (tCons te tNil))) u D σ H := by
  refine ⟨l, ws, hn, hl, ?_⟩
  refine h H (Ex.refl H) _ fun v H1 e r => ?_
  have hl1 : H1 l = some (MutO l ws) := e _ _ hl
  have o1 : Eo l H1 (upd H1 l (MutO l (ws ++ [v]))) := Eo.upd (Ex.refl _)
  refine ⟨ws, v, rfl, hl1, by rw [rels_len hr]; exact sz_lt hz, ?_⟩
  exact k (ws ++ [v]) _ (Eo.upd e) upd_same (rels_moY (o1.y hl1) (rels_snoc (rels_mono e hr) r))
theorem l_app (K : PySem.W.Frag) {l : Addr} {ws : List V} {x : α} (hn : σ[n]? = some (some (.ref l))) (hl : H l = some (MutO l ws)) (hr : rels K H ws xs) (h : ER K te σ H x) (hz : xs.length < 100000)
    (k : ∀ ws' H1, Eo l H H1 → H1 l = some (MutO l ws') → rels K H1 ws' (xs ++ [x]) → D.nx σ H1) : tDrop (tApp n (tCons te tNil)) D σ H := by
  refine ⟨l, ws, hn, hl, ?_⟩
  refine h H (Ex.refl H) _ fun v H1 e r => ?_
  have hl1 : H1 l = some (MutO l ws) := e _ _ hl
  have o1 : Eo l H1 (upd H1 l (MutO l (ws ++ [v]))) := Eo.upd (Ex.refl _)
  refine ⟨ws, v, rfl, hl1, by rw [rels_len hr]; exact sz_lt hz, ?_⟩
  exact k (ws ++ [v]) _ (Eo.upd e) upd_same (rels_moY (o1.y hl1) (rels_snoc (rels_mono e hr) r))
/-- what is drawn, at its end -/
theorem n_app (K : PySem.W.Frag) {P : α → Prop} {l : Addr} {ws : List V} (hn : σ[n]? = some (some (.ref l))) (hl : H l = some (MutO l ws)) (hr : rels K H ws xs) (h : EN K te σ H P) (hz : xs.length < 100000)
    (k : ∀ x ws' H1, P x → Eo l H H1 → H1 l = some (MutO l ws') → rels K H1 ws' (xs ++ [x]) → u D σ H1) : tSeq (tDrop (tApp n (tCons te tNil))) u D σ H := by
  refine ⟨l, ws, hn, hl, ?_⟩
  refine h H (Ex.refl H) _ fun x v H1 p e r => ?_
  have hl1 : H1 l = some (MutO l ws) := e _ _ hl
  have o1 : Eo l H1 (upd H1 l (MutO l (ws ++ [v]))) := Eo.upd (Ex.refl _)
  refine ⟨ws, v, rfl, hl1, by rw [rels_len hr]; exact sz_lt hz, ?_⟩
  exact k x (ws ++ [v]) _ p (Eo.upd e) upd_same (rels_moY (o1.y hl1) (rels_snoc (rels_mono e hr) r))
theorem nl_app (K : PySem.W.Frag) {P : α → Prop} {l : Addr} {ws : List V} (hn : σ[n]? = some (some (.ref l))) (hl : H l = some (MutO l ws)) (hr : rels K H ws xs) (h : EN K te σ H P) (hz : xs.length < 100000)
    (k : ∀ x ws' H1, P x → Eo l H H1 → H1 l = some (MutO l ws') → rels K H1 ws' (xs ++ [x]) → D.nx σ H1) : tDrop (tApp n (tCons te tNil)) D σ H :=
  n_app (u := fun D' σ' H' => D'.nx σ' H') (D := D) K hn hl hr h hz k
theorem rels_set {vs : List V} {ys : List α} {v : V} {x : α} (h : rels K H vs ys) (r : Rep.rel K H v x) : ∀ j, rels K H (vs.set j v) (ys.set j x) := by
  induction h with
  | nil => exact fun _ => .nil
  | cons r0 hr ih =>
    intro j
    cases j with
    | zero => exact .cons r hr
    | succ j => exact .cons r0 (ih j)
/-- an item put in its place -/
theorem n_put (K : PySem.W.Frag) {P : α → Prop} {l : Addr} {ws : List V} {j : Nat} (hn : σ[n]? = some (some (.ref l))) (hl : H l = some (MutO l ws)) (hr : rels K H ws xs) (h : EN K te σ H P) (hi : ER K tl σ H i) (hj : L2.ixN xs.length i = some j)
    (k : ∀ x ws' H1, P x → Eo l H H1 → H1 l = some (MutO l ws') → rels K H1 ws' (xs.set j x) → u D σ H1) : tSeq (tAsg te (gSub (tVar n) tl rSetM)) u D σ H := by
  refine h H (Ex.refl H) _ fun x v H1 p e r => ?_
  refine ⟨.ref l, hn, ?_⟩
  refine hi H1 e _ fun vi H2 e2 r2 => ?_
  cases r2
  have hl1 : H2 l = some (MutO l ws) := e2 _ _ (e _ _ hl)
  have o1 : Eo l H2 (upd H2 l (MutO l (ws.set j v))) := Eo.upd (Ex.refl _)
  refine ⟨l, ws, i, j, rfl, rfl, hl1, by rw [rels_len hr]; exact hj, ?_⟩
  exact k x _ _ p (Eo.upd (e.trans e2)) upd_same (rels_moY (o1.y hl1) (rels_set (rels_mono (e.trans e2) hr) (Rep.mono e2 r) j))
theorem nl_put (K : PySem.W.Frag) {P : α → Prop} {l : Addr} {ws : List V} {j : Nat} (hn : σ[n]? = some (some (.ref l))) (hl : H l = some (MutO l ws)) (hr : rels K H ws xs) (h : EN K te σ H P) (hi : ER K tl σ H i) (hj : L2.ixN xs.length i = some j)
    (k : ∀ x ws' H1, P x → Eo l H H1 → H1 l = some (MutO l ws') → rels K H1 ws' (xs.set j x) → D.nx σ H1) : tAsg te (gSub (tVar n) tl rSetM) D σ H :=
  n_put (u := fun D' σ' H' => D'.nx σ' H') (D := D) K hn hl hr h hi hj k
/-- two items put in their places at once -/
theorem n_put2 (K : PySem.W.Frag) {P1 P2 : α → Prop} {l : Addr} {ws : List V} {j : Nat} {i2 : Int} {j2 m : Nat} {tl2 : TE} (hm : m = 2) (hn : σ[n]? = some (some (.ref l))) (hl : H l = some (MutO l ws)) (hr : rels K H ws xs) (h : EN K ta σ H P1) (h2 : ∀ H1, Ex H H1 → EN K tb σ H1 P2)
    (hi : ER K tl σ H i) (hj : L2.ixN xs.length i = some j) (hi2 : ∀ H1, ER K tl2 σ H1 i2) (hj2 : L2.ixN xs.length i2 = some j2)
    (k : ∀ x y ws' H1, P1 x → P2 y → Eo l H H1 → H1 l = some (MutO l ws') → rels K H1 ws' ((xs.set j x).set j2 y) → u D σ H1) : tSeq (tAsg (tTup (tCons ta (tCons tb tNil))) (gTup K m (gCons (gSub (tVar n) tl rSetM) (gCons (gSub (tVar n) tl2 rSetM) gNil)))) u D σ H := by
  subst hm
  refine h H (Ex.refl H) _ fun x v H1 p1 e1 r1 => h2 H1 e1 H1 (Ex.refl _) _ fun y w H2 p2 e2 r2 => ⟨sz_of (by show 2 ≤ 100000; decide), fun p hp => ⟨p, [v, w], rfl, st_of upd_same, rfl, v, [w], rfl, .ref l, hn, ?_⟩⟩
  have n3 := Ex.new (o := .tup [v, w]) hp
  refine hi _ ((e1.trans e2).trans n3) _ fun vi H4 e4 r4 => ?_
  cases r4
  have e04 := ((e1.trans e2).trans n3).trans e4
  have hl4 : H4 l = some (MutO l ws) := e04 _ _ hl
  refine ⟨l, ws, i, j, rfl, rfl, hl4, by rw [rels_len hr]; exact hj, w, [], rfl, .ref l, hn, ?_⟩
  have o5 : Eo l H4 (upd H4 l (MutO l (ws.set j v))) := Eo.upd (Ex.refl _)
  have rs5 := rels_moY (o5.y hl4) (rels_set (rels_mono e04 hr) (Rep.mono ((e2.trans n3).trans e4) r1) j)
  have r5 := Rep.moY (o5.y hl4) (Rep.mono (n3.trans e4) r2)
  refine hi2 _ _ (Ex.refl _) _ fun vi H6 e6 r6 => ?_
  cases r6
  have hl6 : H6 l = some (MutO l (ws.set j v)) := e6 _ _ upd_same
  have o7 : Eo l H6 (upd H6 l (MutO l ((ws.set j v).set j2 w))) := Eo.upd (Ex.refl _)
  refine ⟨l, _, i2, j2, rfl, rfl, hl6, by rw [List.length_set, rels_len hr]; exact hj2, rfl, ?_⟩
  exact k x y _ _ p1 p2 (((Eo.of e04).trans o5).trans ((Eo.of e6).trans o7)) upd_same (rels_moY (o7.y hl6) (rels_set (rels_mono e6 rs5) (Rep.mono e6 r5) j2))
theorem nl_put2 (K : PySem.W.Frag) {P1 P2 : α → Prop} {l : Addr} {ws : List V} {j : Nat} {i2 : Int} {j2 m : Nat} {tl2 : TE} (hm : m = 2) (hn : σ[n]? = some (some (.ref l))) (hl : H l = some (MutO l ws)) (hr : rels K H ws xs) (h : EN K ta σ H P1) (h2 : ∀ H1, Ex H H1 → EN K tb σ H1 P2)
    (hi : ER K tl σ H i) (hj : L2.ixN xs.length i = some j) (hi2 : ∀ H1, ER K tl2 σ H1 i2) (hj2 : L2.ixN xs.length i2 = some j2)
    (k : ∀ x y ws' H1, P1 x → P2 y → Eo l H H1 → H1 l = some (MutO l ws') → rels K H1 ws' ((xs.set j x).set j2 y) → D.nx σ H1) : tAsg (tTup (tCons ta (tCons tb tNil))) (gTup K m (gCons (gSub (tVar n) tl rSetM) (gCons (gSub (tVar n) tl2 rSetM) gNil))) D σ H :=
  n_put2 (u := fun D' σ' H' => D'.nx σ' H') (D := D) K hm hn hl hr h h2 hi hj hi2 hj2 k
/-- no more changes -/
theorem q_thaw (K : PySem.W.Frag) {l : Addr} {ws : List V} (hn : σ[n]? = some (some (.ref l))) (hl : H l = some (MutO l ws)) (hr : rels K H ws xs)
    (k : ∀ H1, Eo l H H1 → Rep.rel K H1 (.ref l) xs → u D σ H1) : tThaw n u D σ H := by
  have o1 : Eo l H (upd H l (.lst ws)) := Eo.upd (Ex.refl _)
  exact ⟨l, ws, hn, hl, k _ o1 ⟨l, ws, rfl, upd_same, rels_moY (o1.y hl) hr⟩⟩
/-- a thing and a new list at once -/
theorem n_parL2 (K : PySem.W.Frag) {ys : List β} {P1 : α → Prop} {m : Nat} {s1 s2 : V → V → L2.St} (h : EN K ta σ H P1) (h2 : ∀ H1, Ex H H1 → EL K tb σ H1 ys) (hs1 : ∀ v w, SetAt σ n v (s1 v w)) (hs2 : ∀ v w, SetAt (s1 v w) m w (s2 v w)) (g : ∀ v l, (s2 v (.ref l))[m]? = some (some (.ref l)))
    (k : ∀ x v l ws H1, P1 x → H l = none → Ex H H1 → Rep.rel K H1 v x → H1 l = some (MutO l ws) → rels K H1 ws ys → u D (s2 v (.ref l)) H1) : tSeq (tPar n m (tCons ta (tCons tb tNil))) (tClose m u) D σ H := h H (Ex.refl H) _ fun x v H1 p1 e r => h2 H1 e H1 (Ex.refl H1) _ fun l ws H2 hn e2 hl rs => ⟨v, .ref l, rfl, by
  show tClose m u D ((σ.set n (some v)).set m (some (.ref l))) H2
  rw [(hs1 v _).eq, (hs2 v _).eq]
  have e3 : Ex H1 (upd H2 l (MutO l ws)) := Ex.mut e2 hn
  exact ⟨l, ws, g v l, hl, k x v l ws _ p1 (fresh_back e hn) (e.trans e3) (Rep.mono e3 r) upd_same rs⟩⟩
theorem n_parL1 (K : PySem.W.Frag) {ys : List β} {P1 : α → Prop} {m : Nat} {s1 s2 : V → V → L2.St} (h : EL K ta σ H ys) (h2 : ∀ H1, Ex H H1 → EN K tb σ H1 P1) (hs1 : ∀ v w, SetAt σ n v (s1 v w)) (hs2 : ∀ v w, SetAt (s1 v w) m w (s2 v w)) (g : ∀ l w, (s2 (.ref l) w)[n]? = some (some (.ref l))) [ImmX α]
    (k : ∀ x w l ws H1, P1 x → H l = none → Ex H H1 → Rep.rel K H1 w x → H1 l = some (MutO l ws) → rels K H1 ws ys → u D (s2 (.ref l) w) H1) : tSeq (tPar n m (tCons ta (tCons tb tNil))) (tClose n u) D σ H := h H (Ex.refl H) _ fun l ws H1 hn e hl rs => h2 H1 e H1 (Ex.refl H1) _ fun x w H2 p1 e2 r => ⟨.ref l, w, rfl, by
  show tClose n u D ((σ.set n (some (.ref l))).set m (some w)) H2
  rw [(hs1 _ w).eq, (hs2 _ w).eq]
  have hl2 := e2 _ _ hl
  refine ⟨l, ws, g l w, hl2, k x w l ws _ p1 hn (Ex.mut (e.trans e2) hn) (ImmX.imm hl2 r) upd_same ?_⟩
  have e3 : Ex (upd H1 l (MutO l ws)) (upd H2 l (MutO l ws)) := fun a o h => by
    by_cases z : a = l
    · subst z
      rw [upd_same] at h ⊢
      exact h
    · rw [upd_ne z] at h ⊢
      exact e2 a o h
  exact rels_mono e3 rs⟩
def Fld.ds (f : Fld) : List PyData := [.int f.low, .int f.high, .int f.step, .int f.base, .str f.off, .str f.ends, .int f.big]
theorem el_listF {f : Fld} (h : ER K ta σ H f) : EL K (tCB (rListS K) (tCons ta tNil)) σ H f.ds := fun H1 e Q q => h H1 e _ fun v H2 e2 ⟨a, hv, hs⟩ => by
  subst hv
  refine ⟨a, f.vs, rfl, .inr hs, fun l hl => q l f.vs _ (fresh_back e2 hl) (e2.trans (Ex.new hl)) upd_same ?_⟩
  exact .cons (.int _) (.cons (.int _) (.cons (.int _) (.cons (.int _) (.cons (.str _) (.cons (.str _) (.cons (.int _) .nil))))))
theorem en_encP [Enc α] {P : α → Prop} (h : EN K te σ H P) : EN K te σ H (fun z : PyData => ∃ y, z = Enc.enc y ∧ P y) := fun H1 e Q q => h H1 e Q fun y v H2 p e2 r => q _ v H2 ⟨y, rfl, p⟩ e2 (Enc.dp r)
end
theorem sqT_immX {K : PySem.W.Frag} {H : Hp} {a l : Addr} {xs ws : List V} {o : HO} (hl : H l = some (.lst ws)) (h : SqT K H a xs) : SqT K (upd H l o) a xs := by
  rcases h with (h | ⟨o, h⟩) | h
  · exact .inl (.inl (by rw [upd_ne (ne_of h hl (by intro z; cases z))]; exact h))
  · exact .inl (.inr ⟨o, by rw [upd_ne (ne_of h hl (by intro z; cases z))]; exact h⟩)
  · exact .inr h
instance : ImmX Int := ⟨fun _ h => h⟩
instance : ImmX Bool := ⟨fun _ h => h⟩
instance : ImmX Str := ⟨fun _ h => h⟩
instance : ImmX Unit := ⟨fun _ h => h⟩
instance : ImmX V := ⟨fun _ h => h⟩
instance : ImmX Sg := ⟨fun _ h => h⟩
instance : ImmX Fld := ⟨fun hl ⟨a, h, hs⟩ => ⟨a, h, sqT_immX hl hs⟩⟩
instance {α β : Type} [Rep α] [Rep β] [ImmX α] [ImmX β] : ImmX (α × β) := ⟨fun hl ⟨a, v1, v2, h, hs, h1, h2⟩ => ⟨a, v1, v2, h, sqT_immX hl hs, ImmX.imm hl h1, ImmX.imm hl h2⟩⟩
instance {α β γ : Type} [Rep α] [Rep β] [Rep γ] [ImmX α] [ImmX β] [ImmX γ] : ImmX (Tri α β γ) := ⟨fun hl ⟨a, v1, v2, v3, h, hs, h1, h2, h3⟩ => ⟨a, v1, v2, v3, h, sqT_immX hl hs, ImmX.imm hl h1, ImmX.imm hl h2, ImmX.imm hl h3⟩⟩
instance {α : Type} [Rep α] [ImmX α] : ImmX (Tpl α) := ⟨fun hl ⟨a, vs, h, hs, hr⟩ => ⟨a, vs, h, sqT_immX hl hs, Paired.mapP hr fun _ _ => ImmX.imm hl⟩⟩
instance {α : Type} [Rep α] [ImmX α] : ImmX (Option α) := ⟨fun {K H v x l ws o} hl h => by
  cases x with
  | none => exact h
  | some y => exact ImmX.imm (x := y) hl h⟩
section
variable {α β : Type} [Rep α] [Rep β] {K : PySem.W.Frag} {σ σ' : L2.St} {H H' : Hp} {te tl ta tb : TE} {tA : TA} {tt : TT} {u : TS} {D : Ends} {n : Nat} {xs : List α} {i : Int}
theorem open_ex {l : Addr} {ws : List V} {H H1 : Hp} (e : Ex H H1) : Ex (upd H l (.lst ws)) (upd H1 l (.lst ws)) := fun a o h => by
  by_cases z : a = l
  · subst z
    rw [upd_same] at h ⊢
    exact h
  · rw [upd_ne z] at h ⊢
    exact e a o h
theorem open_back {l : Addr} {ws : List V} {H1 H2 : Hp} (hl : H1 l = some (MutO l ws)) (e : Ex (upd H1 l (.lst ws)) H2) : Ex H1 (upd H2 l (MutO l ws)) := fun a o h => by
  by_cases z : a = l
  · subst z
    rw [hl] at h
    rw [upd_same]
    exact h
  · rw [upd_ne z]
    exact e a o (by rw [upd_ne z]; exact h)
/-- what stands in a list that changes, as it is now -/
theorem open_rel {l : Addr} {ws : List V} (hl : H l = some (MutO l ws)) (hr : rels K H ws xs) : Rep.rel K (upd H l (.lst ws)) (.ref l) xs :=
  ⟨l, ws, rfl, upd_same, rels_moY ((Eo.upd (Ex.refl _) : Eo l H _).y hl) hr⟩
theorem open_mo {l : Addr} {ws : List V} {v : V} {x : α} (hl : H l = some (MutO l ws)) (r : Rep.rel K H v x) : Rep.rel K (upd H l (.lst ws)) v x := Rep.moY ((Eo.upd (Ex.refl _) : Eo l H _).y hl) r
theorem er_open [ImmX β] {l : Addr} {ws : List V} {y : β} (hn : σ[n]? = some (some (.ref l))) (hl : H l = some (MutO l ws)) (h : ER K te σ (upd H l (.lst ws)) y) : ER K (tOpen n te) σ H y := fun H1 e Q q =>
  ⟨l, ws, hn, e _ _ hl, h _ (open_ex e) _ fun v H2 e2 r => ⟨e2 _ _ upd_same, q v _ (open_back (e _ _ hl) e2) (ImmX.imm (e2 _ _ upd_same) r)⟩⟩
theorem en_open [ImmX β] {l : Addr} {ws : List V} {P : β → Prop} (hn : σ[n]? = some (some (.ref l))) (hl : H l = some (MutO l ws)) (h : EN K te σ (upd H l (.lst ws)) P) : EN K (tOpen n te) σ H P := fun H1 e Q q =>
  ⟨l, ws, hn, e _ _ hl, h _ (open_ex e) _ fun y v H2 p e2 r => ⟨e2 _ _ upd_same, q y v _ p (open_back (e _ _ hl) e2) (ImmX.imm (e2 _ _ upd_same) r)⟩⟩
theorem et_open {l : Addr} {ws : List V} {b : Bool} (hn : σ[n]? = some (some (.ref l))) (hl : H l = some (MutO l ws)) (h : ET K tt σ (upd H l (.lst ws)) b) : ET K (tOpenT n tt) σ H b := fun H1 e Q q =>
  ⟨l, ws, hn, e _ _ hl, h _ (open_ex e) _ fun H2 e2 => ⟨e2 _ _ upd_same, q _ (open_back (e _ _ hl) e2)⟩⟩
end
/-! ### defs that hand back a new list -/
section
variable {α β γ δ : Type} [Rep α] [Rep β] [Rep γ] [Rep δ] {K : PySem.W.Frag} {σ : L2.St} {H : Hp} {ta tb tc : TE} {E : XK} {a : α} {b : β} {c : γ}
def spL2 (K : PySem.W.Frag) (pre : α → β → Prop) (g : α → β → List δ) : Sp := fun vs H Q _ => ∃ x y a b, vs = [x, y] ∧ Rep.rel K H x a ∧ Rep.rel K H y b ∧ pre a b ∧ ∀ l ws H', H l = none → Ex H H' → H' l = some (.lst ws) → rels K H' ws (g a b) → Q (.ref l) H'
theorem er_callL2 {pre : α → β → Prop} {g : α → β → List δ} (ha : ER K ta σ H a) (hb : ER K tb σ H b) (hp : pre a b) : ER K (tCall (spL2 K pre g) [] E (tCons ta (tCons tb tNil))) σ H (g a b) := fun H1 e Q q =>
  ha H1 e _ fun v1 H2 e2 r1 => hb H2 (e.trans e2) _ fun v2 H3 e3 r2 => ⟨v1, v2, a, b, rfl, Rep.mono e3 r1, r2, hp, fun l ws H' _ e' hl rs => q (.ref l) H' ((e2.trans e3).trans e') ⟨l, ws, rfl, hl, rs⟩⟩
theorem el_callL2 [ImmX δ] {pre : α → β → Prop} {g : α → β → List δ} (ha : ER K ta σ H a) (hb : ER K tb σ H b) (hp : pre a b) : EL K (tCall (spL2 K pre g) [] E (tCons ta (tCons tb tNil))) σ H (g a b) := fun H1 e Q q =>
  ha H1 e _ fun v1 H2 e2 r1 => hb H2 (e.trans e2) _ fun v2 H3 e3 r2 => ⟨v1, v2, a, b, rfl, Rep.mono e3 r1, r2, hp, fun l ws H' hn e' hl rs => q l ws H' (fresh_back (e2.trans e3) hn) ((e2.trans e3).trans e') hl (Paired.mapP rs fun _ _ => ImmX.imm hl)⟩
variable {P : Program} {w : World} {mg : Str → Option Value} {base : Heap} {x qual : Str} {params : Arguments} {body : List Stmt} {scope : Scope} {dvs : List V} {kws : List (Str × V)} {f : Addr} {fd : FuncData} {N ps : List Str} {k : Nat} {CX : CXT}
theorem okL2 {pre : α → β → Prop} {g : α → β → List δ} (F : FunD K x qual params body scope dvs kws f fd) (S : FnScope N ps scope) (hl : ps.length = 2) (σ0 : V → V → L2.St) (h0 : ∀ x y, start N [x, y] = σ0 x y)
    (h : ∀ (H : Hp) (Q : VK) (x y : V) (a : α) (b : β), Rep.rel K H x a → Rep.rel K H y b → pre a b → (∀ l ws H', H l = none → Ex H H' → H' l = some (.lst ws) → rels K H' ws (g a b) → Q (.ref l) H') → Body CX P w K mg base k f N qual scope body H Q (σ0 x y)) : FnOk P w K mg base CX (k + 1) f fd ps (spL2 K pre g) := by
  refine F.ok S (fun vs H Q E hs => ?_) (fun cdv A outer s H vs Q E hr hs => ?_)
  · obtain ⟨x, y, a, b, rfl, _⟩ := hs
    exact hl.symm
  · obtain ⟨x, y, a, b, rfl, h1, h2, hp, q⟩ := hs
    rw [h0]
    exact h H Q x y a b h1 h2 hp q cdv A outer s E hr
end
section
variable {α β : Type} [Rep α] [Rep β] {K : PySem.W.Frag} {σ : L2.St} {H : Hp} {te : TE} {u : TS} {D : Ends} {n : Nat} {xs : List α}
/-- a new list in a slot, as others -/
theorem q_setN (K : PySem.W.Frag) {s' : V → L2.St} (h : EL K te σ H xs) (s : ∀ v, SetAt σ n v (s' v)) (k : ∀ l H1, H l = none → Ex H H1 → Rep.rel K H1 (.ref l) xs → u D (s' (.ref l)) H1) : tSeq (tAsg te (gName n)) u D σ H :=
  h H (Ex.refl H) _ fun l ws H1 hn e hl rs => by
    show u D (σ.set n (some (.ref l))) H1
    rw [(s _).eq]
    have o1 : Eo l (upd H1 l (MutO l ws)) H1 := fun a o ne h => by
      rw [upd_ne ne] at h
      exact h
    exact k l H1 hn e ⟨l, ws, rfl, hl, rels_moY (o1.y upd_same) rs⟩
theorem l_setN (K : PySem.W.Frag) {s' : V → L2.St} (h : EL K te σ H xs) (s : ∀ v, SetAt σ n v (s' v)) (k : ∀ l H1, H l = none → Ex H H1 → Rep.rel K H1 (.ref l) xs → D.nx (s' (.ref l)) H1) : tAsg te (gName n) D σ H :=
  q_setN (u := fun D' σ' H' => D'.nx σ' H') (D := D) K h s k
/-- anything put at the end of a list that is of no more use -/
theorem q_appX (K : PySem.W.Frag) {l : Addr} {ws : List V} {x : β} (hn : σ[n]? = some (some (.ref l))) (hl : H l = some (MutO l ws)) (hr : rels K H ws xs) (h : ER K te σ H x) (hz : xs.length < 100000)
    (k : ∀ ws' H1, Eo l H H1 → H1 l = some (MutO l ws') → u D σ H1) : tSeq (tDrop (tApp n (tCons te tNil))) u D σ H := by
  refine ⟨l, ws, hn, hl, ?_⟩
  refine h H (Ex.refl H) _ fun v H1 e r => ?_
  refine ⟨ws, v, rfl, e _ _ hl, by rw [rels_len hr]; exact sz_lt hz, ?_⟩
  exact k (ws ++ [v]) _ (Eo.upd e) upd_same
theorem el_lc0 : EL (α := α) K (tLst tNil) σ H [] := el_lst eas_nil (Nat.zero_le _)
end
end Sf

namespace Sf
open PySem PySem.Spec PyProof.Rows L2 Evl
/-! ### sorted(set(ints)), any number of them -/
abbrev ob0 (w : World) : Obj := { cls := .type "set", dict := none, data := .set #[] 0 (.fresh 0 0 (!w.params.followText "set-order")) }
abbrev hp0 (w : World) (s : Shared) : Heap := s.heap.push (ob0 w)
section
variable {P : Program} {w : World} {A : Around} {E : Value → Shared → Prop} {s : Shared}
/-- what set(list) leaves -/
abbrev Gath (w : World) (s : Shared) (ns : List Int) (h' : Heap) : Prop := (∃ c, c ≤ ns.length ∧ SetR w h' s.heap.objs.size (fun j => decide (j ∈ ns)) c) ∧ ∀ b o, s.heap.get? b = some o → h'.get? b = some o
theorem set_ofL {l : Addr} {items : Array Value} (ns : List Int) {Q : Value → Shared → Prop} (hn : A.handled = none) (hl : s.heap.IsList l items) (hi : IntsAre items.toList ns) (hb : ns.length + 1 < scanBound)
    (k : ∀ h' tk, Gath w s ns h' → Q (.ref s.heap.objs.size) { s with heap := h', toks := tk }) : wpAny (model P w) A (call (.type "set") [.ref l]) Q E s := by
  have hsz : items.size = ns.length := (Array.length_toList (xs := items)).symm.trans (IntsAre.length hi)
  obtain ⟨_, _, mro⟩ := F.called_set.mro
  have a1 := F.called_set.made
  have a2 := F.called_set.sub
  have a3 := F.called_set.notType
  have a4 := F.called_set.canCreate
  have a5 := F.typeCall_set_1 (.ref l)
  refine wpAny_call (codeAny_of_tree ?_)
  show wpAny _ _ (callAny (.type "set") _) _ _ _
  refine wpAny_pure ⟨Code.quiet_builtin _ (by decide +kernel), codeAny_builtin F.entry_type_call ?_⟩
  rw [Around.under_plain (weight_type_call_type "set" ([.ref l] : List Value) []) rfl]
  repeat (any_goals (first | assumption | wp_step))
  refine codeAny_mono (code_set_led1 (.ref l) (E := E) (Q₁ := fun obj s1 => obj = .ref s.heap.objs.size ∧ s1 = { s with heap := hp0 w s }) ⟨rfl, rfl⟩) fun r s1 hr => ?_
  match r, hr with
  | .error e, hr => exact hr
  | .ok (.ret obj), hr =>
    obtain ⟨rfl, rfl⟩ := hr
    have g0 : (hp0 w s).get? s.heap.objs.size = some (ob0 w) := Heap.get?_push_size _ rfl
    have ty : Shared.TypeIs { s with heap := hp0 w s } (.ref s.heap.objs.size) "set" := ⟨_, g0, rfl⟩
    have b1 := F.called_set.init.lookup
    have b2 := F.called_set.init.bind (.ref s.heap.objs.size)
    repeat (any_goals (first | assumption | wp_step))
    refine codeAny_mono (codeAny_call_builtin (R := wants (fun r s2 => r = .none ∧ ∃ h' tk, s2 = { s with heap := h', toks := tk } ∧ Gath w s ns h') E) F.called_set.init.plain F.entry_set_init (check_set_init_1 ty ?_)) fun r2 s2 hr2 => ?_
    · obtain ⟨⟨oc, od, oda, osl⟩, ho, hc, m, hd⟩ := hl
      simp only at hc hd
      subst hc hd
      have ho' : (hp0 w s).get? l = some { cls := .type "list", dict := od, data := .seq items m, slots := osl } := Heap.get?_push_of_some _ ho
      have c1 := F.sub_list_set
      have c2 := F.sub_list_frozenset
      have c3 : (Value.type "list" == Value.type "dict") = false := by decide
      have il : (hp0 w s).IsList l items := ⟨_, ho', rfl, m, rfl⟩
      unfold Builtin.«set.__init__» noKeywords Builtin.Frozenset.updateFrom
      generalize hp : pyIter = ITER
      wp_walk
      subst hp
      refine wpAny_pyIter_list il (wpAny_bind (wpAny_runValue ?_))
      have lt0 : l < s.heap.objs.size := Heap.lt_size ho
      have sz0 : (hp0 w s).objs.size = s.heap.objs.size + 1 := Heap.size_push ..
      have n1 : l ≠ (hp0 w s).objs.size := by
        rw [sz0]
        exact Nat.ne_of_lt (Nat.lt_succ_of_lt lt0)
      have n2 : s.heap.objs.size ∉ [(hp0 w s).objs.size, l] := by
        rw [sz0, List.mem_cons, List.mem_singleton, not_or]
        exact ⟨Nat.ne_of_lt (Nat.lt_succ_self _), Nat.ne_of_gt lt0⟩
      have val : ∀ (i : Nat) (v : Value), items[i]? = some v → ∃ z t, ns[i]? = some z ∧ v = .int z t := fun i v hv => by
        obtain ⟨t, e⟩ := IntsAre.int_at hi i v (by rw [Array.getElem?_toList]; exact hv)
        have li : i < ns.length := hsz ▸ (Array.getElem?_eq_some_iff.mp hv).1
        rw [List.getD_eq_getElem?_getD, List.getElem?_eq_getElem li] at e
        exact ⟨_, t, List.getElem?_eq_getElem li, e⟩
      have w0 : A.in1.in1.in1.handled = none := by simp [hn]
      refine set_update_ints ((Walks.list w0 _ l n1 items).toS) s.heap.objs.size n2 ns hsz hb val (items.size - 0) 0 _ (by omega) (Nat.zero_le _) ⟨⟨_, Heap.get?_push_size _ rfl, rfl, rfl⟩, il.push _⟩ ⟨0, Nat.le_refl 0, setR_new_at (Heap.get?_push_of_some _ g0)⟩ ?_
      rintro ⟨h', gn, dr, tk', os'⟩ c mv hc hS
      have eg : gn = s.gens := mv.gens
      have ed : dr = s.drawn := mv.drawn
      have eo : os' = s.os := mv.os
      subst eg ed eo
      show wpAny _ _ _ _ _ _
      refine wpAny_pure ?_
      show wpAny _ _ (ret Value.none) _ _ _
      refine wpAny_pure ⟨rfl, h', tk', rfl, ⟨c, by omega, hS⟩, fun b o e => ?_⟩
      have lb : b < s.heap.objs.size := Heap.lt_size e
      refine mv.heap b o ?_ (Heap.get?_push_of_some _ (Heap.get?_push_of_some _ e))
      rw [List.mem_cons, List.mem_singleton, sz0, not_or]
      exact ⟨Nat.ne_of_lt lb, Nat.ne_of_lt (Nat.lt_succ_of_lt lb)⟩
    · match r2, hr2 with
      | .error e, hr2 => exact hr2
      | .ok (.ret r), hr2 =>
        obtain ⟨rfl, h', tk, rfl, hG⟩ := hr2
        repeat (any_goals (first | assumption | wp_step))
        exact k _ _ hG
/-- the members of a set, sorted -/
theorem sort_ofS {a : Addr} {S : Int → Bool} {n : Nat} {Q : Value → Shared → Prop} (R : SetR w s.heap a S n) (hn : A.handled = none) (hz : n ≤ sizeLine)
    (k : ∀ s' p out c ns, (∀ b o, s.heap.get? b = some o → s'.heap.get? b = some o) → s'.gens = s.gens → s'.os = s.os → s.heap.objs.size ≤ p → s'.heap.get? p = some (seqObj "list" out c) →
      IntsAre out.toList ns → ns.Pairwise (· < ·) → (∀ z, z ∈ ns ↔ S z = true) → Q (.ref p) s') : wpAny (model P w) A (call (.builtin "sorted") [.ref a]) Q E s := by
  obtain ⟨o, es, ep, t, ho, hx, hd, good, nodup, mem, hb, fits, size, ris, led⟩ := R
  refine Calls.call_function_entry kind_sorted plain_sorted entry_sorted (args_sorted1 _) ?_
  unfold Builtin.«sorted»
  refine wpAny_bind (m := checkCount "sorted" 1 1 _) (wpAny_pure (wpAny_bind (collect_set (A := A.in1) hn ⟨o, ho, hx.1, hd⟩ fits hb ris led fun s1 vs keep grow gens os perm => ?_)))
  have lv : vs.length = n := (perm.length_eq.trans (List.length_map ..)).trans (Array.length_toList.trans size)
  have iv : ∀ v ∈ vs, ∃ i t, v = Value.int i t := fun v hv => by
    obtain ⟨e, he, q⟩ := List.mem_map.mp (perm.mem_iff.mp hv)
    obtain ⟨z, tk, h1, _⟩ := good e he
    exact ⟨z, tk, q ▸ h1⟩
  have hI := SrtO.ints_iv iv
  have pk : (vs.map SrtO.iv).Perm (es.toList.map keyOf) := by
    have q := perm.map SrtO.iv
    rw [List.map_map] at q
    refine q.trans (List.Perm.of_eq (List.map_congr_left fun e he => ?_))
    obtain ⟨z, tk, h1, _⟩ := good e he
    show SrtO.iv e.2 = keyOf e
    unfold keyOf
    rw [h1]
    rfl
  refine wpAny_bind (wpAny_newList ?_ (by rw [lv]; exact hz))
  have oL : (s1.heap.push (seqObj "list" vs.toArray 0)).get? s1.heap.objs.size = some (seqObj "list" vs.toArray 0) := Heap.get?_push_size _ rfl
  refine wpAny_bind (wpAny_holding (wpAny_call_entry slot_list_sort ⟨_, oL, rfl⟩ entry_list_sort (SrtO.list_sort_ord SrtO.swo_int oL (by rw [lv]; exact hz) (fun h2 => SrtO.ints_sortable hI h2) fun out h1 h2 => ⟨_, rfl, ?_⟩) (args_list_sort _)))
  obtain ⟨k1, k2, k3⟩ := SrtO.ints_out hI h1 h2
  obtain ⟨c, hc⟩ := sortedHeap_at (vs := vs) (out := out.toArray) oL
  have pn := k2.trans pk
  refine wpAny_pure ⟨_, rfl, k _ s1.heap.objs.size out.toArray c _ (fun b u e => ?_) gens os grow hc k1 (lt_of_le_nodup _ k3 (pn.nodup_iff.mpr nodup)) fun z => by rw [pn.mem_iff, ← mem z]⟩
  have lb := Heap.lt_size (keep b u e)
  show (sortedHeap (s1.heap.push (seqObj "list" vs.toArray 0)) s1.heap.objs.size vs out.toArray).get? b = some u
  rw [sortedHeap_old (Nat.ne_of_lt lb) (by rw [size_push']; exact Nat.lt_succ_of_lt lb)]
  exact Heap.get?_push_of_some _ (keep b u e)
end
/-- the ints of a list, each once, from the least on -/
def insU (x : Int) : List Int → List Int
  | [] => [x]
  | y :: r => if x < y then x :: y :: r else if x = y then y :: r else y :: insU x r
def sortU (xs : List Int) : List Int := xs.foldr insU []
theorem insU_mem {x z : Int} : ∀ {l : List Int}, z ∈ insU x l ↔ z = x ∨ z ∈ l
  | [] => by simp [insU]
  | y :: r => by
    unfold insU
    split
    · simp
    · split
      · next h => subst h; simp
      · rw [List.mem_cons, insU_mem (l := r), List.mem_cons]
        constructor
        · rintro (h | h | h)
          · exact .inr (.inl h)
          · exact .inl h
          · exact .inr (.inr h)
        · rintro (h | h | h)
          · exact .inr (.inl h)
          · exact .inl h
          · exact .inr (.inr h)
theorem insU_pw {x : Int} : ∀ {l : List Int}, l.Pairwise (· < ·) → (insU x l).Pairwise (· < ·)
  | [], _ => by simp [insU]
  | y :: r, h => by
    obtain ⟨h1, h2⟩ := List.pairwise_cons.mp h
    unfold insU
    split
    · next c =>
      refine List.pairwise_cons.mpr ⟨fun z hz => ?_, h⟩
      rcases List.mem_cons.mp hz with e | e
      · omega
      · have := h1 z e
        omega
    · split
      · exact h
      · refine List.pairwise_cons.mpr ⟨fun z hz => ?_, insU_pw h2⟩
        rcases insU_mem.mp hz with e | e
        · omega
        · exact h1 z e
theorem sortU_mem {z : Int} : ∀ {xs : List Int}, z ∈ sortU xs ↔ z ∈ xs
  | [] => Iff.rfl
  | x :: r => by
    show z ∈ insU x (sortU r) ↔ _
    rw [insU_mem, sortU_mem (xs := r), List.mem_cons]
theorem sortU_pw : ∀ {xs : List Int}, (sortU xs).Pairwise (· < ·)
  | [] => .nil
  | x :: r => insU_pw (sortU_pw (xs := r))
/-- strictly rising lists with the same members are one -/
theorem pw_eq : ∀ {a b : List Int}, a.Pairwise (· < ·) → b.Pairwise (· < ·) → (∀ z, z ∈ a ↔ z ∈ b) → a = b
  | [], [], _, _, _ => rfl
  | [], y :: b, _, _, h => nomatch (h y).mpr (List.mem_cons_self ..)
  | x :: a, [], _, _, h => nomatch (h x).mp (List.mem_cons_self ..)
  | x :: a, y :: b, ha, hb, h => by
    obtain ⟨a1, a2⟩ := List.pairwise_cons.mp ha
    obtain ⟨b1, b2⟩ := List.pairwise_cons.mp hb
    have e : x = y := by
      rcases List.mem_cons.mp ((h x).mp (List.mem_cons_self ..)) with e | e
      · exact e
      · rcases List.mem_cons.mp ((h y).mpr (List.mem_cons_self ..)) with e2 | e2
        · exact e2.symm
        · have := b1 x e
          have := a1 y e2
          omega
    subst e
    rw [pw_eq a2 b2 fun z => ⟨fun hz => ?_, fun hz => ?_⟩]
    · rcases List.mem_cons.mp ((h z).mp (List.mem_cons_of_mem _ hz)) with e | e
      · have := a1 z hz
        omega
      · exact e
    · rcases List.mem_cons.mp ((h z).mpr (List.mem_cons_of_mem _ hz)) with e | e
      · have := b1 z hz
        omega
      · exact e
theorem sortU_congr {a b : List Int} (h : ∀ z, z ∈ a ↔ z ∈ b) : sortU a = sortU b := pw_eq sortU_pw sortU_pw fun z => by rw [sortU_mem, sortU_mem, h z]
/-! sorted(set(x)) as one expression -/
def tSortSet (K : PySem.W.Frag) (ta : TE) : TE := fun σ H Q => ta σ H fun x H1 => ∃ (l : Addr) (ns : List Int), x = .ref l ∧ SqL K H1 l (ns.map V.int) ∧ ns.length ≤ 4000 ∧ ∀ p, H1 p = none → Q (.ref p) (upd H1 p (.lst ((sortU ns).map V.int)))
theorem sortU_len {xs : List Int} : (sortU xs).length ≤ xs.length := by
  have h : ∀ (x : Int) (l : List Int), (insU x l).length ≤ l.length + 1 := by
    intro x l
    induction l with
    | nil => exact Nat.le_refl _
    | cons y r ih =>
      unfold insU
      split
      · exact Nat.le_refl _
      · split
        · exact Nat.le_succ _
        · exact Nat.succ_le_succ ih
  induction xs with
  | nil => exact Nat.le_refl _
  | cons x r ih => exact Nat.le_trans (h x (sortU r)) (Nat.succ_le_succ ih)
theorem pe_sortSet {X : Cx} {a : Expr} {ta : TE} {p p2 q pos : Pos} (hg : Gl X "sorted") (hm : X.mg "sorted" = none) (hg2 : Gl X "set") (hm2 : X.mg "set" = none) (ha : PE X a ta) (hc : X.calm = true := by rfl)
    (na : starEach [a] X.env = (false, eval a X.env) :: starEach [] X.env := by rfl) : PE X (.Call (.Name "sorted" p) [.Call (.Name "set" p2) [a] [] q] [] pos) (tSortSet X.K ta) := by
  refine ⟨fun pins s σ H Q I h => ?_⟩
  refine Call_ (ld_blt I hg hm (u := .builtin "sorted") (by decide +kernel) (PyProof.Rows.callWith_builtin1 (PyProof.Rows.args_cons ?_ rfl) rfl rfl))
  refine Call_ (ld_blt I hg2 hm2 boot_set (PyProof.Rows.callWith_type1 (PyProof.Rows.args_cons (thn (ha.run pins s σ H _ I h) fun v s1 ⟨x, H1, I1, r1, q1⟩ => PyProof.Rows.args_nil ?_) na) na rfl))
  obtain ⟨l, ns, rfl, hq, hl, q1⟩ := q1
  cases r1
  obtain ⟨its, r, pl, hz⟩ := I1.list hq
  refine set_ofL ns (I1.ok.hd hc) pl.isList (by simpa using RZ.intsAre_vals r) (by unfold scanBound; omega) fun h' tk ⟨⟨c, hc2, hS⟩, keep⟩ => PyProof.Rows.args_nil ?_
  have I2 : Inv X pins σ H1 { s1 with heap := h', toks := tk } := I1.kept keep
  refine sort_ofS hS (I1.ok.hd hc) (by rw [sizeLine_eq]; omega) fun s' b out c' ms k g o hp hob hi hpw hmem => ?_
  have em : ms = sortU ns := pw_eq hpw sortU_pw fun z => by rw [hmem z, sortU_mem, decide_eq_true_eq]
  subst em
  have hn : H1 b = none := I2.hok.fresh hp
  have new : ObjOk X.prog X.w (upd H1 b (.lst ((sortU ns).map V.int))) s'.heap b (.lst ((sortU ns).map V.int)) :=
    ⟨by rw [List.length_map]; have := sortU_len (xs := ns); exact sz_of (by omega), out.toList, c', vals_of_ints hi, by rw [hob]⟩
  have I3 := I2.call' (s' := s') (ch := []) o (Un.laid k hp hn) (I2.hok.laid k hp new) (by rw [g]; exact I2.bare) (fun _ z => nomatch z)
  exact ⟨.ref b, _, I3, rfl, q1 b hn⟩
theorem er_sortSet {K : PySem.W.Frag} {σ : L2.St} {H : Hp} {ta : TE} {xs : List Int} (h : ER K ta σ H xs) (hl : xs.length ≤ 4000) : ER K (tSortSet K ta) σ H (sortU xs) := fun H1 e Q q => h H1 e _ fun v H2 e2 ⟨a, vs, hv, hs, hr⟩ => by
  have hi := rels_ints hr
  subst hi
  exact ⟨a, xs, hv, sq_of hs, hl, fun p hp => q _ _ (e2.trans (Ex.new hp)) ⟨p, _, rfl, upd_same, ints_rels⟩⟩
end Sf

namespace Sf
open PySem PySem.Spec PyProof.Rows L2 Evl
/-! ### enumerate(tuple) -/
abbrev eob (N : Addr) : Obj := { cls := .type "enumerate", data := .fields #[.none, .bool false, .ref N, rawInt 0, .none, .none] }
theorem enum1_new {v : Value} {o : Obj} {G : Heap → Prop} (B : Begins v o G) : Meets (Builtin.«enumerate.__new__» ⟨[.type "enumerate", v], []⟩) (fun _ R s => G s.heap ∧ R (.ok (.ret (.ref (s.heap.push o).objs.size))) { s with heap := (s.heap.push o).push (eob s.heap.objs.size) }) := .of_wp fun prog w A R s ⟨g, h⟩ => by
  obtain ⟨hp, gn, dr, tk, os⟩ := s
  have sub := sub_enumerate
  have it : ∀ {A' : Around} {E : Value → Shared → Prop} {Q : Value → Shared → Prop}, Q (.ref hp.objs.size) ⟨hp.push o, gn, dr, tk, os⟩ → wpAny (model prog w) A' (pyIter v) Q E ⟨hp, gn, dr, tk, os⟩ := fun q => B.iter prog w _ _ _ _ g q
  wp_walk using it
  refine wpAny_stack_any fun st => wpAny_pure ?_
  split
  · rename_i c _ _ _ _ _
    by_cases hc : (c == Value.type "enumerate") = true
    · simp only [hc]
      wp_walk using it
      exact ⟨_, rfl, h⟩
    · simp only [Bool.not_eq_true] at hc
      simp only [hc]
      wp_walk using it
      exact ⟨_, rfl, h⟩
  · wp_walk using it
    exact ⟨_, rfl, h⟩
theorem enum1_call {prog : Program} {w : World} {A : Around} {E : Value → Shared → Prop} {s : Shared} {v : Value} {o : Obj} {G : Heap → Prop} {Q : Value → Shared → Prop} (B : Begins v o G) (g : G s.heap)
    (k : ∀ h', IsEnum h' (s.heap.objs.size + 1) s.heap.objs.size 0 .none → h'.get? s.heap.objs.size = some o → (∀ b u, s.heap.get? b = some u → h'.get? b = some u) → Q (.ref (s.heap.objs.size + 1)) { s with heap := h' }) :
    wpAny (model prog w) A (call (.type "enumerate") [v]) Q E s := by
  refine callType_new F.called_enumerate (by decide) (F.typeCall_enumerate_1 _) (F.newCall_enumerate_1 _) (fun obj => F.args_object_init_2 obj _) F.entry_enumerate_new (enum1_new B) ⟨g, ?_⟩
  have sz : (s.heap.push o).objs.size = s.heap.objs.size + 1 := Heap.size_push ..
  rw [sz]
  have he : IsEnum ((s.heap.push o).push (eob s.heap.objs.size)) (s.heap.objs.size + 1) s.heap.objs.size 0 .none := by
    rw [← sz]
    exact Heap.get?_push_size (s.heap.push o) rfl
  exact ⟨⟨_, he, rfl⟩, k _ he (Heap.get?_push_of_some _ (Heap.get?_push_size _ B.free)) fun b u q => Heap.get?_push_of_some _ (Heap.get?_push_of_some _ q)⟩
/-- the tuple at a, each item in a new pair behind its place -/
def IteT (K : PySem.W.Frag) (a : Addr) (xs : List V) : It where
  go := fun i H => SqT K H a xs ∧ i < xs.length
  yld := fun i H v H' => ∃ T x, v = .ref T ∧ H T = none ∧ H' = upd H T (.tup [.int (i : Nat), x]) ∧ xs[i]? = some x
  stop := fun i H => SqT K H a xs ∧ xs.length ≤ i
theorem tupIt_ne {h : Heap} {a it : Addr} {i : Nat} {its : Array Value} (hit : h.IsTupleIter it a i) (ht : h.IsTuple a its) : a ≠ it := fun z => by
  obtain ⟨o, q, c, _⟩ := hit
  obtain ⟨o', q', c', _⟩ := ht
  rw [z, q] at q'
  cases q'
  rw [c] at c'
  exact absurd c' (by decide)
theorem tupEn_ne {h : Heap} {a e it : Addr} {i : Int} {old : Value} {its : Array Value} (he : IsEnum h e it i old) (ht : h.IsTuple a its) : a ≠ e := fun z => by
  obtain ⟨o', q', c', _⟩ := ht
  rw [z] at q'
  have q2 : h.get? e = some _ := he
  rw [q'] at q2
  cases q2
  exact absurd (show Value.type "enumerate" = Value.type "tuple" from c') (by decide)
theorem turn_enumT {P : Program} {w : World} {K : PySem.W.Frag} {elts : List Expr} {kk : Nat} {tpos : Pos} (a e it : Addr) (xs : List V) : Turn P w K (.Tuple elts kk tpos) (IteT K a xs) [e, it] e (fun i h => (∃ old, IsEnum h e it ((i : Nat) : Int) old) ∧ h.IsTupleIter it a i ∧ e ≠ it ∧ i ≤ xs.length) := by
  refine ⟨by simp, ?_, ?_, ?_, ?_, ?_⟩
  · rintro i h ⟨⟨old, he⟩, ⟨o, ho, hc, hd⟩, _⟩ b hb
    rcases List.mem_cons.mp hb with z | z
    · rw [z]
      exact ⟨_, he, fun v q => nomatch q⟩
    · rw [List.mem_singleton.mp z]
      exact ⟨o, ho, fun v q => by rw [hd] at q; cases q⟩
  · rintro i h h' ⟨⟨old, he⟩, hi, hne⟩ k
    exact ⟨⟨old, k e (by simp) _ he⟩, hi.at fun o q => k it (by simp) o q, hne⟩
  · intro X hP hw hK hc i pins s σ H E I hf ⟨⟨old, he⟩, hit, hne, hle⟩ ⟨hq, hlt⟩
    subst hP hw hK
    obtain ⟨its, rv, p, hz⟩ := I.tuple hq
    obtain ⟨u, hu, ru⟩ := rv.get (List.getElem?_eq_getElem hlt)
    have ht : s.heap.IsTuple a its.toArray := p
    have elt : e < s.heap.objs.size := Heap.lt_size he
    have ilt : it < s.heap.objs.size := by
      obtain ⟨_, q, _⟩ := hit
      exact Heap.lt_size q
    have ane := tupIt_ne hit ht
    have ane2 := tupEn_ne he ht
    have il : i < its.toArray.size := by
      rw [List.size_toArray, ← rv.length]
      exact hlt
    refine wpAny_pyNext_enum_itemD (Draws.tuple (by simpa using I.ok.hd hc) it a ane its.toArray) he ⟨hit, ht⟩ il hne (by simp [hne, Ne.symm ane2]) fun y h' tk hy ho hst hT hsz hk => ?_
    have ey : y = u := by
      rw [List.getElem?_toArray, hu] at hy
      exact (Option.some.inj hy).symm
    subst ey
    refine ⟨_, rfl, wpAny_letOwnedTupleGo_enum (s := { s with heap := h', toks := tk + 1 }) ho fun h2 he2 sb => ?_⟩
    have hT2 : h2.get? s.heap.objs.size = some { cls := .type "tuple", data := .seq #[.int i tk, y] } := (sb.2 _ (Nat.ne_of_gt elt)).trans hT
    have new : ObjOk X.prog X.w (upd H s.heap.objs.size (.tup [.int (i : Nat), xs[i]])) h2 s.heap.objs.size (.tup [.int (i : Nat), xs[i]]) :=
      ⟨by show 2 ≤ sizeLine; decide, [.int i tk, y], .cons ⟨_, rfl⟩ (.cons ru .nil), ⟨_, hT2, rfl, _, rfl⟩⟩
    have I1 : Inv X pins σ (upd H s.heap.objs.size (.tup [.int (i : Nat), xs[i]])) { s with heap := h2, toks := tk + 1 } :=
      I.turnedNew (ch := [e, it]) (fun b ob hb q => (sb.2 b (fun z => hb (by rw [z]; exact List.mem_cons_self ..))).trans (hk b ob (fun z => hb (by rw [z]; exact List.mem_cons_self ..)) (fun z => hb (by rw [z]; exact List.mem_cons_of_mem _ (List.mem_cons_self ..))) q)) hf (Nat.le_refl _) new
    refine ⟨.ref s.heap.objs.size, _, I1, rfl, ⟨_, xs[i], rfl, I.hok.fresh (Nat.le_refl _), rfl, List.getElem?_eq_getElem hlt⟩, ⟨⟨y, by rw [show ((i + 1 : Nat) : Int) = (i : Int) + 1 by omega]; exact he2⟩, hst.1.at fun o q => (sb.2 it (Ne.symm hne)).trans q, hne, hlt⟩, fun b hb => ?_⟩
    have lb : b < s.heap.objs.size := by
      rcases List.mem_cons.mp hb with z | z
      · rw [z]; exact elt
      · rw [List.mem_singleton.mp z]; exact ilt
    rw [upd_ne (Nat.ne_of_lt lb)]
    exact (hf b hb).1
  · intro X hP hw hK hc i pins s σ H E I hf ⟨⟨old, he⟩, hit, hne, hle⟩ ⟨hq, hlt⟩
    subst hP hw hK
    obtain ⟨its, rv, p, hz⟩ := I.tuple hq
    have ht : s.heap.IsTuple a its.toArray := p
    have ei : i = its.toArray.size := by
      rw [List.size_toArray, ← rv.length]
      omega
    subst ei
    obtain ⟨f0, f1, f2, f3, f4, f5⟩ := hf it (by simp)
    exact wpAny_pyNext_enum_endD (Draws.tuple (by simpa using I.ok.hd hc) it a (tupIt_ne hit ht) its.toArray) he ⟨hit, ht⟩ fun h' eb => ⟨rfl, I.turned (t' := s.toks) (fun b o hb q => eb b o hb q) f0 f1 f3 f4 f5⟩
  · intro A i s Q E ⟨⟨old, he⟩, _⟩ h
    exact wpAny_pyIter_enum he h
def iEnumT (K : PySem.W.Frag) (ta : TA) : TI := fun σ H R => ta σ H fun vs H1 => ∃ a xs, vs = [.ref a] ∧ SqT K H1 a xs ∧ R (IteT K a xs) H1
theorem pi_enumT {X : Cx} {e : Expr} {ta : TA} {p pos tpos : Pos} {elts : List Expr} {kk : Nat} (hg : Gl X "enumerate") (hm : X.mg "enumerate" = none) (ha : PA X [e] ta) (hs : starEach [e] X.env = [(false, eval e X.env)] := by rfl) :
    PI X (.Tuple elts kk tpos) (.Call (.Name "enumerate" p) [e] [] pos) (iEnumT X.K ta) := by
  refine ⟨fun pins s σ H R I h => Call_ (ld_blt I hg hm boot_enumerate (PyProof.Rows.callWith_type1 (thn (ha.run pos pins s σ H _ I h) fun us s1 ⟨vs, H1, I1, r1, a, xs, ex, hq, q⟩ => ?_) hs rfl))⟩
  subst ex
  obtain ⟨u, eu, ru⟩ := r1.one
  subst eu
  cases ru
  obtain ⟨its, rv, p', hz⟩ := I1.tuple hq
  have ht : s1.heap.IsTuple a its.toArray := p'
  refine enum1_call (begins_tuple a its.toArray) ht fun h' he hit hk => wpAny_pyIter_enum he ?_
  have I2 : Inv X pins σ H1 { s1 with heap := h' } := I1.kept (t' := s1.toks) hk
  refine ⟨s1.heap.objs.size + 1, [s1.heap.objs.size + 1, s1.heap.objs.size], _, _, H1, rfl, I2, turn_enumT a (s1.heap.objs.size + 1) s1.heap.objs.size xs, ⟨⟨.none, he⟩, ⟨_, hit, rfl, rfl⟩, Nat.succ_ne_self _, Nat.zero_le _⟩, fun b hb => ?_, q⟩
  have hle : s1.heap.objs.size ≤ b := by
    rcases List.mem_cons.mp hb with z | z
    · rw [z]; exact Nat.le_succ _
    · rw [List.mem_singleton.mp z]; exact Nat.le_refl _
  exact I1.fpOk hle (I1.hok.fresh hle)
section
variable {α β γ : Type} [Rep α] [Rep β] [Rep γ] {K : PySem.W.Frag} {σ : L2.St} {H : Hp} {ta : TE}
theorem wk_enumT {xs : List α} (h : ER K ta σ H (Tpl.mk xs)) : Wk K (iEnumT K (tCons ta tNil)) σ H (enum xs) := fun H1 e R k => h H1 e _ fun v H2 e2 ⟨a, vs, hv, hs, hr⟩ => by
  subst hv
  have hl : (enum xs).length = vs.length := by simp [enum, rels_len hr]
  refine ⟨a, vs, rfl, hs, k _ H2 (fun H => SqT K H a vs) (fun i H v H' => ∃ T x, v = .ref T ∧ H T = none ∧ H' = upd H T (.tup [.int (i : Nat), x]) ∧ vs[i]? = some x) e2 ⟨fun i H hi g => ⟨g, by omega⟩, fun H g => ⟨g, by omega⟩, fun i H x H' hi g y => y⟩ (fun H3 e3 => ey_t e3 hs) fun i Ha v Hb hi ea y => ?_⟩
  obtain ⟨T, x1, rfl, hT, rfl, h2⟩ := y
  obtain ⟨x, h3, h4⟩ := rels_get hr h2
  have n := Ex.new (o := .tup [.int (i : Nat), x1]) hT
  exact ⟨n, _, enum_get h3, T, _, _, rfl, st_of upd_same, rfl, Rep.moY (ea.trans n.y) h4⟩
/-- the target is two names: their slots are set in the turn, wiped behind -/
theorem g2_ok {n m : Nat} {x : α × β} {s0 : L2.St} {s1 : V → V → L2.St} {s2 : V → V → L2.St} {v : V} {H1 : Hp} {Q : L2.St → Hp → Prop} {vs : List Nat} (r : Rep.rel K H1 v x) (h0 : wipe σ vs = s0) (hs : ∀ v w, SetAt s0 n v (s1 v w)) (hs2 : ∀ v w, SetAt (s1 v w) m w (s2 v w)) (hw : ∀ v w, wipe (s2 v w) vs = s0)
    (q : ∀ v1 v2, Rep.rel K H1 v1 x.1 → Rep.rel K H1 v2 x.2 → wipe (s2 v1 v2) vs = wipe σ vs → Q (s2 v1 v2) H1) : gTup K 2 (gCons (gName n) (gCons (gName m) gNil)) v (wipe σ vs) H1 Q := by
  obtain ⟨a, v1, v2, hv, hq, r1, r2⟩ := r
  refine ⟨a, [v1, v2], hv, hq, rfl, v1, [v2], rfl, v2, [], rfl, rfl, ?_⟩
  rw [h0, (hs v1 v2).eq, (hs2 v1 v2).eq]
  exact q v1 v2 r1 r2 (by rw [hw, h0])
end
/-! ### tuple(list) -/
def rTupC (K : PySem.W.Frag) : List V → Hp → VK → Prop := fun xs H Q => ∃ p ys, xs = [.ref p] ∧ ((SqL K H p ys ∧ ∀ l, H l = none → Q (.ref l) (upd H l (.tup ys))) ∨ (SqT K H p ys ∧ Q (.ref p) H))
theorem call_tupC {X : Cx} : CallR X (.type "tuple") (rTupC X.K) := call_tuple_of
section
variable {α : Type} [Rep α] {K : PySem.W.Frag} {σ : L2.St} {H : Hp} {ta te : TE}
theorem er_tupC {xs : List α} (h : ER K ta σ H xs) : ER K (tCB (rTupC K) (tCons ta tNil)) σ H (Tpl.mk xs) := fun H1 e Q q => h H1 e _ fun v H2 e2 ⟨a, vs, hv, hs, hr⟩ => by
  subst hv
  refine ⟨a, vs, rfl, .inl ⟨sq_of hs, fun l hl => ?_⟩⟩
  have n := Ex.new (o := .tup vs) hl
  exact q _ _ (e2.trans n) ⟨l, vs, rfl, st_of upd_same, rels_mono n hr⟩
theorem en_tupC {P : List α → Prop} (h : EN K ta σ H P) : EN K (tCB (rTupC K) (tCons ta tNil)) σ H (fun x : Tpl α => P x.l) := fun H1 e Q q => h H1 e _ fun xs v H2 p e2 ⟨a, vs, hv, hs, hr⟩ => by
  subst hv
  refine ⟨a, vs, rfl, .inl ⟨sq_of hs, fun l hl => ?_⟩⟩
  have n := Ex.new (o := .tup vs) hl
  exact q (Tpl.mk xs) _ _ p (e2.trans n) ⟨l, vs, rfl, st_of upd_same, rels_mono n hr⟩
/-- seven parts that make a field -/
def fldOf : List PyData → Fld
  | [.int l, .int h, .int s, .int b, .str o, .str e, .int g] => ⟨l, h, s, b, o, e, g⟩
  | _ => ⟨0, 0, 0, 0, "", "", 0⟩
theorem fldOf_ok {ds : List PyData} (h : isField (.tuple ds) = true) : fokB (fldOf ds) = true ∧ ds = (fldOf ds).ds := by
  unfold isField at h
  split at h
  · next e =>
    cases e
    exact ⟨h, rfl⟩
  · cases h
theorem fokB_ok {f : Fld} (h : fokB f = true) : FOk f := by
  unfold fokB at h
  simp only [Bool.and_eq_true, decide_eq_true_eq] at h
  obtain ⟨⟨⟨⟨h1, h2⟩, h3⟩, h4⟩, h5⟩ := h
  obtain ⟨a, b, c, d, e, g, i⟩ := h1
  exact ⟨a, b, c, d, e, g, i, by simpa using h2, by simpa using h3, h4.1, h4.2, h5⟩
theorem er_fldOf {ds : List PyData} (h : ER K te σ H (Tpl.mk ds)) (hf : isField (.tuple ds) = true) : ER K te σ H (fldOf ds) := fun H1 e Q q => h H1 e Q fun v H2 e2 ⟨a, vs, hv, hs, hr⟩ => by
  refine q v H2 e2 ⟨a, hv, ?_⟩
  have e3 := (fldOf_ok hf).2
  rw [e3] at hr
  have : vs = (fldOf ds).vs := by
    generalize fldOf ds = f at hr
    unfold Fld.ds at hr
    have go : ∀ {vs : List V} {ds : List PyData}, rels K H2 vs ds → ∀ ws : List V, (∀ (i : Nat) (d : PyData), ds[i]? = some d → ∃ w, ws[i]? = some w ∧ ∀ v, Rep.rel K H2 v d → v = w) → ws.length = ds.length → vs = ws := by
      intro vs ds h
      induction h with
      | nil =>
        intro ws _ hl
        exact (List.length_eq_zero_iff.mp hl).symm
      | @cons v d vs ds r _ ih =>
        intro ws hh hl
        match ws, hl with
        | w :: ws, hl =>
          obtain ⟨w', e, g⟩ := hh 0 d rfl
          cases e
          rw [g v r, ih ws (fun i d' hd => hh (i + 1) d' hd) (by simpa using hl)]
    refine go hr f.vs (fun i d hd => ?_) rfl
    match i, hd with
    | 0, hd => cases hd; exact ⟨_, rfl, fun v r => by cases r; rfl⟩
    | 1, hd => cases hd; exact ⟨_, rfl, fun v r => by cases r; rfl⟩
    | 2, hd => cases hd; exact ⟨_, rfl, fun v r => by cases r; rfl⟩
    | 3, hd => cases hd; exact ⟨_, rfl, fun v r => by cases r; rfl⟩
    | 4, hd => cases hd; exact ⟨_, rfl, fun v r => by cases r; rfl⟩
    | 5, hd => cases hd; exact ⟨_, rfl, fun v r => by cases r; rfl⟩
    | 6, hd => cases hd; exact ⟨_, rfl, fun v r => by cases r; rfl⟩
    | i + 7, hd => simp at hd
  rw [← this]
  exact hs
theorem er_lenT3 {α β γ : Type} [Rep α] [Rep β] [Rep γ] {x : Tri α β γ} (h : ER K te σ H x) : ER K (tCB (rLenQ K) (tCons te tNil)) σ H (3 : Int) := fun H1 e Q q => h H1 e _ fun v H2 e2 ⟨a, v1, v2, v3, hv, hs, r1, r2, r3⟩ => ⟨a, [v1, v2, v3], by rw [hv], .inr hs, q _ H2 e2 rfl⟩
end
/-! ### list(range(a, b)), list(range(a, b, c)) -/
section
variable {K : PySem.W.Frag} {σ : L2.St} {H : Hp} {ta tb tc : TE} {i j c : Int}
theorem rg_rng {a b : Int} : rgV a b = (rng a (b - a).toNat).map V.int := by
  unfold rgV rng
  rw [List.map_map]
  rfl
theorem er_listRg1 (h : ER K ta σ H j) (hj : 0 ≤ j ∧ j ≤ 100000) : ER K (tLstRg (tRg1 ta)) σ H (rng 0 j.toNat) := fun H1 e Q q => h H1 e _ fun v H2 e2 r => by
  cases r
  refine ⟨j, rfl, RgOk.of_le (Int.le_refl 0) (by omega) (by omega) hj.1, fun p hp => ?_⟩
  rw [rg_rng, show j - 0 = j by omega]
  exact q _ _ (e2.trans (Ex.new hp)) ⟨p, _, rfl, upd_same, ints_rels⟩
theorem er_listRg2 (h : ER K ta σ H i) (h2 : ER K tb σ H j) (hj : -(2 ^ 62) ≤ i ∧ i < 2 ^ 62 ∧ -(2 ^ 62) ≤ j ∧ j < 2 ^ 62) (hl : j - i ≤ 100000) : ER K (tLstRg (tRg2 ta tb)) σ H (rng i (j - i).toNat) := fun H1 e Q q => h H1 e _ fun v H2 e2 r => h2 H2 (e.trans e2) _ fun v' H3 e3 r3 => by
  cases r
  cases r3
  refine ⟨i, j, rfl, rfl, ⟨hj.1, hj.2.1, hj.2.2.1, hj.2.2.2, by omega⟩, fun p hp => ?_⟩
  rw [rg_rng]
  exact q _ _ ((e2.trans e3).trans (Ex.new hp)) ⟨p, _, rfl, upd_same, ints_rels⟩
/-- i, i + c, .. (n of them) -/
def rgC (i c : Int) (n : Nat) : List Int := (List.range n).map fun k : Nat => i + (k : Int) * c
def tLstRgC (t : TA) : TE := fun σ H Q => t σ H fun vs H3 => ∃ (i j c : Int) (n : Nat), vs = [.int i, .int j, .int c] ∧ RgC i j c n ∧ n ≤ 100000 ∧ ∀ p, H3 p = none → Q (.ref p) (upd H3 p (.lst ((rgC i c n).map V.int)))
theorem pe_listRgC {X : Cx} {a b d : Expr} {p p2 pos pos2 : Pos} {tA : TA} (hc : X.calm = true) (hg : Gl X "list") (hm : X.mg "list" = none) (hg2 : Gl X "range") (hm2 : X.mg "range" = none) (hA : PA X [a, b, d] tA)
    (n1 : starEach [a, b, d] X.env = (false, eval a X.env) :: starEach [b, d] X.env := by rfl) (n2 : (backTo pos2 (starEach [b, d] X.env)).any (·.1) = false := by rfl)
    (n3 : starEach [.Call (.Name "range" p2) [a, b, d] [] pos2] X.env = (false, eval (.Call (.Name "range" p2) [a, b, d] [] pos2) X.env) :: starEach [] X.env := by rfl) :
    PE X (.Call (.Name "list" p) [.Call (.Name "range" p2) [a, b, d] [] pos2] [] pos) (tLstRgC tA) := by
  refine ⟨fun pins s σ H Q I h => Call_ (ld_blt I hg hm boot_list (PyProof.Rows.callWith_type1 (args_cons ?_ n3) n3))⟩
  refine Call_ (ld_blt I hg2 hm2 boot_range (PyProof.Rows.callWith_type1 (thn (hA.run pos2 pins s σ H _ I h) fun us s1 ⟨vs, H1, I1, r1, i, j, c, n, ev, ok, hn, q⟩ => ?_) n1 n2))
  · subst ev
    obtain ⟨c0, c1, c2, c3⟩ := ok
    rcases r1 with _ | ⟨r1, _ | ⟨r2, _ | ⟨r3, _ | _⟩⟩⟩
    obtain ⟨t1, rfl⟩ := r1
    obtain ⟨t2, rfl⟩ := r2
    obtain ⟨t3, rfl⟩ := r3
    refine call_range_3 c0 (args_nil ?_) (.inl (PyProof.noPylong_small c1))
    have I2 : Inv X pins σ H1 { s1 with heap := s1.heap.push { cls := .type "range", data := .fields #[.int i t1, .int j t2, .int c t3] } } := I1.kept (t' := s1.toks) fun b o e => Heap.get?_push_of_some _ e
    refine call_list_range (n := n) (I1.ok.hd hc) (IsRange.new ..) c2 c3 (by omega) fun h' tk acc c' hk e' hi => ?_
    have hv : Vals ((rgC i c n).map V.int) acc.toList := by
      have hl : acc.toList.length = n := (Array.length_toList (xs := acc)).trans hi.1
      unfold rgC
      rw [List.map_map, ← hl]
      refine vals_of_get acc.toList _ fun k u hu => ?_
      obtain ⟨t, rfl⟩ := hi.2 k u (by rw [← hu, Array.getElem?_toList])
      exact ⟨t, rfl⟩
    refine ⟨.ref _, upd H1 _ (.lst ((rgC i c n).map V.int)), I2.laid hk (Nat.le_refl _) (show ObjOk X.prog X.w _ _ _ (.lst ((rgC i c n).map V.int)) from ⟨?_, acc.toList, c', hv, ?_⟩), rfl, q _ (I2.hok.fresh (Nat.le_refl _))⟩
    · rw [List.length_map]
      unfold rgC
      rw [List.length_map, List.length_range]
      exact sz_of hn
    · rw [Array.toArray_toList]
      exact e'
theorem rgC_ok (hi : -(2 ^ 60) ≤ i ∧ i < 2 ^ 60) (hj : -(2 ^ 60) ≤ j ∧ j < 2 ^ 60) (hc : 0 < c) (hc2 : c < 1073741824) : RgC i j c (if i < j then ((j - i - 1) / c + 1).toNat else 0) := by
  have e : Builtin.Range.rangeSize i j c = if i < j then (j - i - 1) / c + 1 else 0 := by
    unfold Builtin.Range.rangeSize
    rw [if_pos hc]
  have d0 : i < j → 0 ≤ (j - i - 1) / c := fun h => Int.ediv_nonneg (by omega) (by omega)
  have d1 : i < j → (j - i - 1) / c ≤ j - i - 1 := fun h => Int.ediv_le_self _ (by omega)
  have d2 : i < j → (j - i - 1) / c * c ≤ j - i - 1 := fun h => (div_le (x := j - i - 1) hc).1
  refine ⟨by omega, by omega, ?_, ?_⟩
  · unfold Builtin.Range.small
    rw [e]
    simp only [Builtin.Range.rangeFitsLong, Bool.and_eq_true, Bool.or_eq_true, decide_eq_true_eq, beq_iff_eq, if_pos hc]
    split <;> omega
  · rw [e]
    split <;> omega
theorem er_listRgC (h : ER K ta σ H i) (h2 : ER K tb σ H j) (h3 : ER K tc σ H c) (hi : -(2 ^ 60) ≤ i ∧ i < 2 ^ 60) (hj : -(2 ^ 60) ≤ j ∧ j < 2 ^ 60) (hc : 0 < c) (hc2 : c < 1073741824) (hn : j - i ≤ 100000 * c) :
    ER K (tLstRgC (tCons ta (tCons tb (tCons tc tNil)))) σ H (rgC i c (if i < j then ((j - i - 1) / c + 1).toNat else 0)) := fun H1 e Q q => h H1 e _ fun v H2 e2 r => h2 H2 (e.trans e2) _ fun v' H3 e3 r3 => h3 H3 ((e.trans e2).trans e3) _ fun v4 H4 e4 r4 => by
  cases r
  cases r3
  cases r4
  refine ⟨i, j, c, _, rfl, rgC_ok hi hj hc hc2, ?_, fun p hp => q _ _ (((e2.trans e3).trans e4).trans (Ex.new hp)) ⟨p, _, rfl, upd_same, ints_rels⟩⟩
  split
  · have : (j - i - 1) / c < 100000 := (Int.ediv_lt_iff_lt_mul hc).mpr (by omega)
    omega
  · omega
end
section
variable {α β γ : Type} [Rep α] [Rep β] [Rep γ] {K : PySem.W.Frag} {σ : L2.St} {H : Hp} {te : TE}
theorem er_ofP2 {x : α} {y : β} {v w : V} (h : EV K te σ H [v, w]) (r1 : ∀ H, Rep.rel K H v x) (r2 : ∀ H, Rep.rel K H w y) : ER K te σ H (x, y) := fun H1 e Q q => h H1 e Q fun p H2 e2 hs => q (.ref p) H2 e2 ⟨p, v, w, rfl, hs, r1 H2, r2 H2⟩
theorem er_ofT3 {x : α} {y : β} {z : γ} {v w u : V} (h : EV K te σ H [v, w, u]) (r1 : ∀ H, Rep.rel K H v x) (r2 : ∀ H, Rep.rel K H w y) (r3 : ∀ H, Rep.rel K H u z) : ER K te σ H (Tri.mk x y z) := fun H1 e Q q => h H1 e Q fun p H2 e2 hs => q (.ref p) H2 e2 ⟨p, v, w, u, rfl, hs, r1 H2, r2 H2, r3 H2⟩
theorem ev_ofT3 {x : Tri Str Str Int} (h : ER K te σ H x) : EV K te σ H [V.str x.a, V.str x.b, V.int x.c] := fun H1 e Q q => h H1 e Q fun v H2 e2 ⟨a, v1, v2, v3, hv, hs, r1, r2, r3⟩ => by
  subst hv
  cases r1
  cases r2
  cases r3
  exact q a H2 e2 hs
theorem enum_mem {xs : List α} {y : Int × α} (h : y ∈ enum xs) : y.2 ∈ xs := by
  unfold enum at h
  obtain ⟨p, hp, rfl⟩ := List.mem_map.mp h
  exact List.fst_mem_of_mem_zipIdx hp
theorem enum_len {xs : List α} : (enum xs).length = xs.length := by simp [enum]
end
end Sf

namespace Sf
open PySem PySem.Spec PyProof.Rows L2 Evl
open LamX (CodeO TabS Tabs ExtN TabB LamS lamEnv lamCx)
/-! ### lambdas without parameters, kept in lists -/
/-- what is written of a lambda -/
structure LamC where
  pa : Arguments
  bd : Expr
  sc : Scope
/-- the object at f is that lambda, its code object is at c -/
def LamO (q : Str) (cl : List (Str × Addr)) (L : LamC) (f c : Addr) : HO := .ext fun h => ∃ pm ctv : Value, h.get? f = some (PySem.W.kla_obj "<lambda>" q L.pa L.bd L.sc cl pm c ctv)
theorem heapAt_any {a : Addr} {o : Obj} (ho : o.isFreed = false) : (heapAt a o).get? a = some o := by
  unfold heapAt Heap.get?
  rw [Array.getElem?_replicate, if_pos (Nat.lt_succ_self a)]
  exact (by simp [Obj.isFreed] at ho ⊢; split <;> simp_all)
theorem lam_ne {q : Str} {cl : List (Str × Addr)} {L : LamC} {f c : Addr} {ws : List V} : LamO q cl L f c ≠ MutO f ws := by
  intro e
  unfold LamO MutO at e
  have e1 := congrFun (HO.ext.inj e) (heapAt f (PySem.W.kla_obj "<lambda>" q L.pa L.bd L.sc cl .none c .none))
  have p : ∃ pm ctv : Value, (heapAt f (PySem.W.kla_obj "<lambda>" q L.pa L.bd L.sc cl .none c .none)).get? f = some (PySem.W.kla_obj "<lambda>" q L.pa L.bd L.sc cl pm c ctv) := ⟨.none, .none, heapAt_any rfl⟩
  obtain ⟨_, its, n, _, e2⟩ := Eq.mp e1 p
  rw [heapAt_any rfl] at e2
  have e3 := congrArg Obj.data (Option.some.inj e2)
  cases e3
theorem code_ne {q : Str} {c : Addr} {ws : List V} : CodeO c q ≠ MutO c ws := by
  intro e
  unfold CodeO MutO at e
  have e1 := congrFun (HO.ext.inj e) (heapAt c { cls := .none, data := .fields #[.none, .str q 0] })
  have p : ∃ (oc : Obj) (vs : Array Value) (t : Tok), (heapAt c { cls := .none, data := .fields #[.none, .str q 0] }).get? c = some oc ∧ oc.data = .fields vs ∧ vs[1]? = some (.str q t) := ⟨_, _, 0, heapAt_any rfl, rfl, rfl⟩
  obtain ⟨_, its, n, _, e2⟩ := Eq.mp e1 p
  rw [heapAt_any rfl] at e2
  have e3 := congrArg Obj.data (Option.some.inj e2)
  cases e3
theorem ey_lam {H H' : Hp} {q : Str} {cl : List (Str × Addr)} {L : LamC} {f c : Addr} (e : Ey H H') (h : H f = some (LamO q cl L f c)) : H' f = some (LamO q cl L f c) := by
  rcases e _ _ h with z | z
  · have g : ∀ o, IsM f o → o = LamO q cl L f c → False := by
      intro o z e
      cases z with
      | m ws => exact lam_ne e.symm
      | _ => unfold LamO at e; cases e
    exact (g _ z rfl).elim
  · exact z
theorem ey_code {H H' : Hp} {q : Str} {c : Addr} (e : Ey H H') (h : H c = some (CodeO c q)) : H' c = some (CodeO c q) := by
  rcases e _ _ h with z | z
  · have g : ∀ o, IsM c o → o = CodeO c q → False := by
      intro o z e
      cases z with
      | m ws => exact code_ne e.symm
      | _ => unfold CodeO at e; cases e
    exact (g _ z rfl).elim
  · exact z
theorem eyN {H H' : Hp} (e : ExtN H H') : Ey H H' := fun a o h => by
  by_cases hz : ∃ ps, o = .tbl ps
  · obtain ⟨ps, rfl⟩ := hz
    exact .inl (.tbl ps)
  · exact .inr (e a o h fun ps z => hz ⟨ps, z⟩)
/-- a lambda of the list Ls: the datum is its place -/
structure LamI (q : Str) (cs : List (Str × Addr)) (Ls : List LamC) where
  i : Nat
instance {q : Str} {cs : List (Str × Addr)} {Ls : List LamC} : Rep (LamI q cs Ls) := ⟨fun _ H v x => ∃ (f c : Addr) (L : LamC), v = .ref f ∧ Ls[x.i]? = some L ∧ H f = some (LamO q (cloFrom cs L.sc.names []) L f c) ∧ H c = some (CodeO c q),
  fun e ⟨f, c, L, h1, h2, h3, h4⟩ => ⟨f, c, L, h1, h2, ey_lam e h3, ey_code e h4⟩⟩
section
variable {X : Cx} {pins : List (Addr × Obj)} {σ : L2.St} {H : Hp} {s : Shared}
theorem lam_stay {q : Str} {cl : List (Str × Addr)} {L : LamC} {f c : Addr} {h : Heap} {pm ctv : Value} {H' : Hp} (hg : h.get? f = some (PySem.W.kla_obj "<lambda>" q L.pa L.bd L.sc cl pm c ctv)) : ObjOk X.prog X.w H' h f (LamO q cl L f c) :=
  ⟨⟨pm, ctv, hg⟩, ⟨_, hg⟩, fun _ _ ⟨p2, c2, e⟩ st => ⟨p2, c2, st _ e⟩⟩
/-- all but the tables is kept, and nothing goes -/
def ExtT (H H' : Hp) : Prop := ExtN H H' ∧ ∀ b, H' b = none → H b = none
theorem ExtT.refl (H : Hp) : ExtT H H := ⟨ExtN.refl H, fun _ h => h⟩
theorem ExtT.trans {H H1 H2 : Hp} (a : ExtT H H1) (b : ExtT H1 H2) : ExtT H H2 := ⟨a.1.trans b.1, fun c h => a.2 c (b.2 c h)⟩
theorem ExtT.of {H H' : Hp} (e : Ex H H') : ExtT H H' := ⟨fun b o h _ => e b o h, fun b h => by
  cases q : H b with
  | none => rfl
  | some o =>
    rw [e b o q] at h
    cases h⟩
theorem ExtT.new {H : Hp} {a : Addr} {o : HO} (h : H a = none) : ExtT H (upd H a o) := .of (Ex.new h)
theorem ExtT.y {H H' : Hp} (e : ExtT H H') : Ey H H' := eyN e.1
/-- the lambda is made, and known from then on -/
theorem lam_made {T : List (Addr × Str)} {c P : Addr} {L : LamC} {pos : Pos} {E : Value → Shared → Prop} {Q : Value → Shared → Prop} (I : Inv X pins σ H s) (B : TabB X.base X.mg c P) (hcode : X.env.code = .ref c)
    (hin : (P, X.env.qual ++ "<lambda>") ∈ T) (huq : ∀ p ∈ T, p.1 = P → p.2 = X.env.qual ++ "<lambda>") (tabs : Tabs T H) (nodef : defaultsOf L.pa X.env = ([], [])) (names : LamS X.env.scope L.sc)
    (k : ∀ (f d : Addr) (H1 : Hp) (s1 : Shared), ExtT H H1 → Tabs T H1 → H1 f = none → H1 d = some (CodeO d (X.env.qual ++ "<lambda>")) →
      Inv X pins σ (upd H1 f (LamO (X.env.qual ++ "<lambda>") (cloFrom X.env.cells L.sc.names []) L f d)) s1 → Q (.ref f) s1) :
    wpAny (model X.prog X.w) X.A (eval (.Lambda L.pa L.bd L.sc pos) X.env) Q E s := by
  obtain ⟨ps, tP, tk3, tcodes⟩ := tabs _ hin
  have clo := closure_ok (names.has I.ok)
  have gl := I.mod.glob.keeps I.bk
  have cd := B.code.keeps I.bk
  have bm := B.bm.keeps I.bk
  have heapP : s.heap.get? P = some { cls := .none, data := .fields ps } := I.hok P _ tP
  refine PySem.W.kla_eval nodef ?_
  cases look : codeAmong pos ps.toList with
  | some cv =>
    obtain ⟨d, rfl, hd⟩ := tcodes pos cv look
    refine PySem.W.kla_makeFunctionHit (P := P) (c := c) (ps := ps) (mg := X.mg) clo I.ok.glob gl hcode cd heapP tk3 look bm fun ctv h1 t1 keep big => ?_
    have new := Heap.get?_push_size h1 (o := PySem.W.kla_obj "<lambda>" (X.env.qual ++ "<lambda>") L.pa L.bd L.sc (cloFrom X.env.cells L.sc.names []) ((X.mg "__name__").getD .none) d ctv) rfl
    exact k h1.objs.size d H _ (ExtT.refl H) tabs (I.hok.fresh big) hd (I.laid (t' := t1) (fun b u e => Heap.get?_push_of_some _ (keep b u e)) big (lam_stay new))
  | none =>
    refine PySem.W.kla_makeFunction (P := P) (c := c) (ps := ps) (mg := X.mg) clo I.ok.glob gl hcode cd heapP tk3 look B.gP bm fun d ctv h1 t1 keep big small rec_ tab1 => ?_
    obtain ⟨d2, od, vs, t, eq, god, dod, nod⟩ := rec_
    cases eq
    have none_d : H d = none := I.hok.fresh big
    have J := LamX.inv_table (q := X.env.qual ++ "<lambda>") (t' := t1) (more := #[rawInt pos.line, rawInt pos.col, .ref d]) (h' := h1) I tP keep tab1 big ⟨od, vs, t, god, dod, nod⟩
    have new := Heap.get?_push_size h1 (o := PySem.W.kla_obj "<lambda>" (X.env.qual ++ "<lambda>") L.pa L.bd L.sc (cloFrom X.env.cells L.sc.names []) ((X.mg "__name__").getD .none) d ctv) rfl
    have J2 := J.laid (t' := t1) (fun b u e => Heap.get?_push_of_some _ e) (Nat.le_refl _) (lam_stay new)
    have more_ : ExtN H (upd (upd H P (.tbl (ps ++ #[rawInt pos.line, rawInt pos.col, .ref d]))) d (CodeO d (X.env.qual ++ "<lambda>"))) := fun b u e nt => by
      have n1 : b ≠ P := fun z => nt ps (Option.some.inj (e.symm.trans (by rw [z]; exact tP)))
      rw [upd_ne (ne_of_none e none_d), upd_ne n1]
      exact e
    have more2 : ExtT H (upd (upd H P (.tbl (ps ++ #[rawInt pos.line, rawInt pos.col, .ref d]))) d (CodeO d (X.env.qual ++ "<lambda>"))) := ⟨more_, fun b z => by
      have n1 : b ≠ d := fun q => by rw [q, upd_same] at z; cases z
      rw [upd_ne n1] at z
      have n2 : b ≠ P := fun q => by rw [q, upd_same] at z; cases z
      rw [upd_ne n2] at z
      exact z⟩
    refine k h1.objs.size d _ _ more2 (fun p hp => ?_) (J.hok.fresh (Nat.le_refl _)) upd_same J2
    by_cases at_P : p.1 = P
    · refine ⟨ps ++ #[rawInt pos.line, rawInt pos.col, .ref d], ?_, ?_, fun p' cv hcv => ?_⟩
      · rw [at_P, upd_ne (ne_of_none tP none_d), upd_same]
      · rw [Array.toList_append]
        exact PySem.TriplesOk_snoc _ _ _ _ tk3
      · rw [Array.toList_append] at hcv
        rcases LamX.among_app _ tk3 hcv with z | z
        · obtain ⟨d0, e1, e2⟩ := tcodes p' cv z
          rw [huq p hp at_P]
          exact ⟨d0, e1, more_ _ _ e2 LamX.codeO_ne⟩
        · rw [huq p hp at_P]
          exact ⟨d, z, upd_same⟩
    · obtain ⟨ps', a1, a2, a3⟩ := tabs p hp
      refine ⟨ps', ?_, a2, fun p' cv hcv => ?_⟩
      · rw [upd_ne (ne_of_none a1 none_d), upd_ne at_P]
        exact a1
      · obtain ⟨d0, e1, e2⟩ := a3 p' cv hcv
        exact ⟨d0, e1, more_ _ _ e2 LamX.codeO_ne⟩
/-- lambda: .. as an expression -/
def tLamM (T : List (Addr × Str)) (q : Str) (cl : List (Str × Addr)) (L : LamC) : TE := fun _ H Q => Tabs T H ∧ ∀ (f d : Addr) (H1 : Hp), ExtT H H1 → Tabs T H1 → H1 f = none → H1 d = some (CodeO d q) → Q (.ref f) (upd H1 f (LamO q cl L f d))
theorem pe_lam {T : List (Addr × Str)} {c P : Addr} {pa : Arguments} {bd : Expr} {sc : Scope} {pos : Pos} (B : TabB X.base X.mg c P) (hcode : X.env.code = .ref c) (hin : (P, X.env.qual ++ "<lambda>") ∈ T) (huq : ∀ p ∈ T, p.1 = P → p.2 = X.env.qual ++ "<lambda>")
    (names : LamS X.env.scope sc) (nodef : defaultsOf pa X.env = ([], []) := by rfl) : PE X (.Lambda pa bd sc pos) (tLamM T (X.env.qual ++ "<lambda>") (cloFrom X.env.cells sc.names []) ⟨pa, bd, sc⟩) := by
  refine ⟨fun pins s σ H Q I h => ?_⟩
  obtain ⟨tabs, go⟩ := h
  exact lam_made (L := ⟨pa, bd, sc⟩) I B hcode hin huq tabs nodef names fun f d H1 s1 e1 t1 n1 c1 J => ⟨.ref f, _, J, rfl, go f d H1 e1 t1 n1 c1⟩
/-- the context of the lambda's body; what leaves it has no context of its own -/
def lamN (X : Cx) (A : Around) (outer : List Env) (s : Shared) (H : Hp) (E : XK) (scope : Scope) (f d : Addr) : Cx :=
  { lamCx X A outer s H E scope f d with xe := fun e s' => wpAny (model X.prog X.w) (A.deeper (lamEnv X scope s.heap.objs.size f d)) (leaving (lamEnv X scope s.heap.objs.size f d) e) (fun _ s2 => L2N.CX X.prog X.w outer H s E e s2) (fun e' s2 => L2N.CX X.prog X.w outer H s E e' s2) s' }
theorem inv_lamN {A : Around} {outer : List Env} {E : XK} {scope : Scope} {f d : Addr} {s0 s1 : Shared} {H0 H1 : Hp} {τ : L2.St} (I : Inv (lamCx X A outer s0 H0 E scope f d) [] τ H1 s1) : Inv (lamN X A outer s0 H0 E scope f d) [] τ H1 s1 :=
  ⟨⟨I.ok.mod, I.ok.kind, I.ok.glob, I.ok.blt, I.ok.above, I.ok.inj, I.ok.has, I.ok.cab, I.ok.hd, I.ok.frames, I.ok.stk, I.ok.exf, I.ok.bs, I.ok.bsz, I.ok.noex, I.ok.exfs, I.ok.funs, I.ok.frf⟩, I.os, I.bare, I.base, I.loc, I.cell, I.free, I.freeC, I.pin, I.hok, I.len⟩
/-- the kept lambda is called, in a def that was called from where it was made: the def's context entered at s -/
theorem pe_lamact {CXg : CXT} {Eg : XK} {Ng : List Str} {qg : Str} {sg : Scope} {g f d : Addr} {cdg : Value} {L : LamC} {k i : Nat} {a : Str} {pn : List (Addr × Obj)} {xe : Value → Shared → Prop} {W : WX} {tb : XK → TE} {p1 p2 : Pos}
    (I : Inv X pins σ H s) (names : LamS X.env.scope L.sc) (nobind : ∀ (cl : List (Str × Addr)) (pm cv ctv : Value), bindArgs (PySem.W.kla_fn "<lambda>" (X.env.qual ++ "<lambda>") L.pa L.bd L.sc cl pm cv ctv) ⟨[], []⟩ = pure [])
    (tk : L2N.Takes ((cxOf CXg X.prog X.w X.K X.mg X.base Ng qg sg g cdg X.A X.stack s H Eg).tr pn xe) W) (hr : Room (k + 1) (X.A.deeper (envOfC qg sg s.heap.objs.size g cdg)))
    (run : ∀ (E : XK) (A : Around) (outer : List Env) (s : Shared) (H : Hp), Room k (A.deeper (lamEnv X L.sc s.heap.objs.size f d)) → PE (lamN X A outer s H E L.sc f d) L.bd (tb E))
    (hN : Ng[i]? = some a) (hv : Vis sg a) (nd : (a == ("__debug__" : Str)) = false := by decide) (nc : (a == ("__classdict__" : Str)) = false := by decide) :
    PE ((cxOf CXg X.prog X.w X.K X.mg X.base Ng qg sg g cdg X.A X.stack s H Eg).tr pn xe) (.Call (.Name a p1) [] [] p2)
      (fun τ HZ Q => τ[i]? = some (some (.ref f)) ∧ HZ f = some (LamO (X.env.qual ++ "<lambda>") (cloFrom X.env.cells L.sc.names []) L f d) ∧ HZ d = some (CodeO d (X.env.qual ++ "<lambda>")) ∧ tb (WE W τ) σ HZ Q) := by
  refine ⟨fun pz sz τ HZ Q IZ hh => ?_⟩
  obtain ⟨at_i, lamf, coded, reads⟩ := hh
  have vf := (pe_var (pos := p1) (i := i) hN hv nd nc).run pz sz τ HZ (fun v H1 => v = .ref f ∧ H1 = HZ) IZ ⟨.ref f, at_i, rfl, rfl⟩
  refine wpAny_Call_Name_kw (thn vf fun u s1 ⟨v, H1, I1, rel, isf⟩ => ?_)
  obtain ⟨rfl, rfl⟩ := isf
  obtain rfl : u = Value.ref f := rel
  obtain ⟨⟨pm, ctv, got⟩, _, _⟩ := I1.hok f _ lamf
  obtain ⟨⟨oc, vs, t, gotc, datc, namc⟩, _, _⟩ := I1.hok d _ coded
  refine PySem.W.callWith_F0 ⟨_, _, _, _, got⟩ ?_
  have kept : Un (frs X.stack) [] H H1 s.heap s1.heap := I1.base
  have called : codeAny (model X.prog X.w) (X.A.deeper (envOfC qg sg s.heap.objs.size g cdg)) (.call (.ref f) ⟨[], []⟩) (CR (L2N.CX X.prog X.w) (envOfC qg sg s.heap.objs.size g cdg :: X.stack) X.prog X.w H1 s1 Q (WE W τ)) s1 := by
    refine PySem.W.kla_callFunE hr.depth got rfl names.co names.gen rfl ⟨d, oc, vs, t, rfl, gotc, datc, namc⟩ ?_
    rw [nobind]
    refine wpAny_pure (wpAny_newFunctionEnv (fun y hy => (names.own y hy).2) (fun y hy => absurd hy List.not_mem_nil) (fun h₁ hns hsb => ⟨I1.nolimit.fresh _ hsb, ?_⟩) names.kind)
    show codeAny _ _ (.expr L.bd (lamEnv X L.sc s1.heap.objs.size f d)) _ _
    have all_ : ∀ b o, s1.heap.get? b = some o → h₁.get? b = some o := fun b o e => hsb.extBut b o (Nat.ne_of_lt (Heap.lt_size e)) (Heap.get?_push_of_some _ e)
    have J : Inv (lamN X (X.A.deeper (envOfC qg sg s.heap.objs.size g cdg)) (envOfC qg sg s.heap.objs.size g cdg :: X.stack) s1 H1 (WE W τ) L.sc f d) [] σ H1 { s1 with heap := h₁, toks := s1.toks + ([] : List (Str × Value)).length } := inv_lamN (LamX.lam_start2 I names I1.env0 hr.hd kept hns all_)
    have body_ := (run (WE W τ) _ _ s1 H1 (hr.deeper _)).run [] _ _ H1 Q J reads
    refine PySem.W.kla_codeExpr (wpAny_mono body_ (fun v s' out => ?_) fun e s' out => out)
    obtain ⟨w', H', J', rv, q⟩ := out
    exact ⟨w', H', J'.os, J'.bare, J'.base, J'.hok, rv, q⟩
  have lets := L2N.passAt tk τ
  refine wpAny_call (codeAny_mono called fun r s' out => ?_)
  cases r with
  | error e => exact lets pz H1 s1 e s' I1 out
  | ok fl =>
    cases fl with
    | ret u => exact I1.after out
    | next => exact False.elim out
    | brk => exact False.elim out
    | cont => exact False.elim out
end
end Sf

namespace Sf
open PySem PySem.Spec PyProof.Rows L2 Evl
/-! ### defs that raise an own error -/
/-- the error of the class named c, at any later heap -/
def XE1 (K : PySem.W.Frag) (E : XK) (c : Str) (H : Hp) : Prop := ∀ H', Ex H H' → E (.ref (He.ga K c)) none H'
theorem XE1.ex {K : PySem.W.Frag} {E : XK} {c : Str} {H H' : Hp} (x : XE1 K E c H) (e : Ex H H') : XE1 K E c H' := fun H2 e2 => x H2 (e.trans e2)
/-- the def raises an error of the class c where bad says so -/
def spE (K : PySem.W.Frag) (n : Nat) (bad : List PyData → Str → Prop) : Sp := fun vs H _ E => vs.length = n ∧ ∃ ds c, rels K H vs ds ∧ bad ds c ∧ XE1 K E c H
/-- te raises an error of the class c -/
def RX (K : PySem.W.Frag) (te : TE) (σ : L2.St) (H : Hp) (E : XK) (c : Str) : Prop := ∀ H1, Ex H H1 → XE1 K E c H1 → ∀ Q, te σ H1 Q
/-- what the top tells of an own error without __init__ -/
structure ExcT (K : PySem.W.Frag) (mg : Str → Option Value) (x : Str) : Prop where
  g : mg x = some (.ref (He.ga K x))
  ex : PySem.W.excIn K (He.ga K x) [.type "ValueError", .type "Exception", .type "BaseException", .type "object"] "ValueError.__new__" = true
  k : PySem.W.keepIn K (.ref (He.ga K x)) = true
  b : PySem.W.subIn K (.ref (He.ga K x)) (.type "BaseException") = some true
  t : PySem.W.typeIn K (.ref (He.ga K x)) = some (.type "type")
section
variable {K : PySem.W.Frag} {σ : L2.St} {H : Hp} {te ta : TE} {tA : TA} {tt : TT} {t1 t2 u : TS} {E : XK} {c : Str} {D : Ends} {ds : List PyData} {bad : List PyData → Str → Prop} {n : Nat}
theorem rx_call (h : EAs K tA σ H ds) (hn : ds.length = n) (hb : bad ds c) : RX K (tCall (spE K n bad) [] E tA) σ H E c := fun H1 e x Q => h H1 e _ fun vs H2 e2 r => by
  rw [List.append_nil]
  exact ⟨(rels_len r).trans hn, ds, c, r, hb, x.ex e2⟩
theorem q_rx (h : RX K te σ H E c) (x : XE1 K E c H) : tSeq (tDrop te) u D σ H := h H (Ex.refl _) x _
theorem l_rx (h : RX K te σ H E c) (x : XE1 K E c H) : tDrop te D σ H := h H (Ex.refl _) x _
theorem q_rif (K : PySem.W.Frag) (h : ET K tt σ H true) (k : ∀ H1, Ex H H1 → t1 { D with nx := u D } σ H1) : tSeq (tIfS tt t1 t2) u D σ H := q_if K h (fun _ => k) (fun z => nomatch z)
theorem l_rif (K : PySem.W.Frag) (h : ET K tt σ H true) (k : ∀ H1, Ex H H1 → t1 D σ H1) : tIfS tt t1 t2 D σ H := l_if K h (fun _ => k) (fun z => nomatch z)
end
/-- read as what it encodes -/
class Dec (α : Type) [Rep α] [Enc α] : Prop where
  dec : ∀ {K : PySem.W.Frag} {H : Hp} {v : V} {x : α}, Rep.rel K H v (Enc.enc x) → Rep.rel K H v x
instance : Dec Int := ⟨fun h => by cases h; rfl⟩
instance : Dec Str := ⟨fun h => by cases h; rfl⟩
instance : Dec Bool := ⟨fun h => by cases h; rfl⟩
instance : Dec Unit := ⟨fun h => by cases h; rfl⟩
instance : Dec PyData := ⟨fun h => h⟩
instance : Dec Sg := ⟨fun h => by cases h; rfl⟩
instance : Dec Fld := ⟨fun h => by
  cases h with
  | @tup p vs _ hs hr =>
  cases hr with
  | cons z0 hr =>
  cases hr with
  | cons z1 hr =>
  cases hr with
  | cons z2 hr =>
  cases hr with
  | cons z3 hr =>
  cases hr with
  | cons z4 hr =>
  cases hr with
  | cons z5 hr =>
  cases hr with
  | cons z6 hr =>
  cases hr
  cases z0
  cases z1
  cases z2
  cases z3
  cases z4
  cases z5
  cases z6
  exact ⟨p, rfl, hs⟩⟩
instance {α β : Type} [Rep α] [Rep β] [Enc α] [Enc β] [Dec α] [Dec β] : Dec (α × β) := ⟨fun h => by
  cases h with
  | @tup p vs _ hs hr =>
  cases hr with
  | cons z0 hr =>
  cases hr with
  | cons z1 hr =>
  cases hr
  exact ⟨p, _, _, rfl, hs, Dec.dec z0, Dec.dec z1⟩⟩
theorem rels1 {α : Type} [Rep α] {K : PySem.W.Frag} {H : Hp} {vs : List V} {a : α} (h : rels K H vs [a]) : ∃ x, vs = [x] ∧ Rep.rel K H x a := by
  cases h with
  | cons h0 h =>
  cases h
  exact ⟨_, rfl, h0⟩
theorem relsC {α : Type} [Rep α] {K : PySem.W.Frag} {H : Hp} {vs : List V} {a : α} {l : List α} (h : rels K H vs (a :: l)) : ∃ x ws, vs = x :: ws ∧ Rep.rel K H x a ∧ rels K H ws l := by
  cases h with
  | cons h0 h => exact ⟨_, _, rfl, h0, h⟩
theorem rels2 {α : Type} [Rep α] {K : PySem.W.Frag} {H : Hp} {vs : List V} {a b : α} (h : rels K H vs [a, b]) : ∃ x y, vs = [x, y] ∧ Rep.rel K H x a ∧ Rep.rel K H y b := by
  obtain ⟨x, ws, rfl, h0, h⟩ := relsC h
  obtain ⟨y, rfl, h1⟩ := rels1 h
  exact ⟨x, y, rfl, h0, h1⟩
theorem rels3 {α : Type} [Rep α] {K : PySem.W.Frag} {H : Hp} {vs : List V} {a b c : α} (h : rels K H vs [a, b, c]) : ∃ x y z, vs = [x, y, z] ∧ Rep.rel K H x a ∧ Rep.rel K H y b ∧ Rep.rel K H z c := by
  obtain ⟨x, ws, rfl, h0, h⟩ := relsC h
  obtain ⟨y, z, rfl, h1, h2⟩ := rels2 h
  exact ⟨x, y, z, rfl, h0, h1, h2⟩
theorem rels4 {α : Type} [Rep α] {K : PySem.W.Frag} {H : Hp} {vs : List V} {a b c d : α} (h : rels K H vs [a, b, c, d]) : ∃ x y z u, vs = [x, y, z, u] ∧ Rep.rel K H x a ∧ Rep.rel K H y b ∧ Rep.rel K H z c ∧ Rep.rel K H u d := by
  obtain ⟨x, ws, rfl, h0, h⟩ := relsC h
  obtain ⟨y, z, u, rfl, h1, h2, h3⟩ := rels3 h
  exact ⟨x, y, z, u, rfl, h0, h1, h2, h3⟩
section
variable {P : Program} {w : World} {K : PySem.W.Frag} {mg : Str → Option Value} {base : Heap} {x qual : Str} {params : Arguments} {body : List Stmt} {scope : Scope} {dvs : List V} {kws : List (Str × V)} {f : Addr} {fd : FuncData} {N ps : List Str} {k n : Nat} {bad : List PyData → Str → Prop}
theorem okE (F : FunD K x qual params body scope dvs kws f fd) (S : FnScope N ps scope) (hl : ps.length = n)
    (h : ∀ (H : Hp) (Q : VK) (E : XK) (vs : List V) (ds : List PyData) (c : Str), vs.length = n → rels K H vs ds → bad ds c → XE1 K E c H → ∀ (cdv : Value) (A : Around) (outer : List Env) (s : Shared), Room k (A.deeper (envOfC qual scope s.heap.objs.size f cdv)) →
      ∃ t, PSs (cxOf (L2N.CX P w) P w K mg base N qual scope f cdv A outer s H E) body t ∧ t { nx := fun _ H' => Q .non H', rt := Q } (start N vs) H) : FnOk P w K mg base (L2N.CX P w) (k + 1) f fd ps (spE K n bad) := by
  refine F.ok S (fun vs H Q E hs => ?_) (fun cdv A outer s H vs Q E hr hs => ?_)
  · exact hs.1.trans hl.symm
  · obtain ⟨hv, ds, c, hd, hb, hx⟩ := hs
    exact h H Q E vs ds c hv hd hb hx cdv A outer s hr
/-- a call that raises hands the error on -/
theorem passE {Y : Cx} {E : XK} (tk : L2N.Takes Y (fun cls d _ H => E cls d H)) : Passes (L2N.CX Y.prog Y.w) Y E := L2N.passes_call tk fun _ _ _ _ h => h
end
end Sf

namespace Sf
open PySem PySem.Spec PyProof.Rows L2 Evl
/-! ### what is no key, no row -/
def isKeyD (d : PyData) : Bool := isRow d && match d with
  | .str z => decide ((z.length : Int) = 1)
  | _ => false
abbrev SZ (d : PyData) : Prop := ∀ z, d = PyData.str z → z.length ≤ 100000
theorem sz_str {z : Str} (h : z.length ≤ 100000) : SZ (PyData.str z) := fun w e => by
  cases e
  exact h
theorem fok_high {f : Fld} (ok : FOk f) (h : f.high + 1 ≤ 1000000000000) : FOk (Fld.mk f.low (f.high + 1) f.step f.base f.off f.ends f.big) := by
  obtain ⟨l0, lh, h1, s0, s1, b0, b1, off, ends, g0, g1, on⟩ := ok
  refine ⟨l0, by show f.low < f.high + 1; omega, h, s0, s1, b0, b1, off, ends, g0, g1, ?_⟩
  refine Int.le_trans on ?_
  show f.base + (f.high - f.base) / f.step * f.step ≤ f.base + (f.high + 1 - f.base) / f.step * f.step
  have hd := Int.ediv_le_ediv (show 0 < f.step by omega) (show f.high - f.base ≤ f.high + 1 - f.base by omega)
  have := Int.mul_le_mul_of_nonneg_right hd (show 0 ≤ f.step by omega)
  omega
theorem fok_low {f : Fld} (ok : FOk f) (h : -1000000000000 ≤ f.low - 1) : FOk (Fld.mk (f.low - 1) f.high f.step f.base f.off f.ends f.big) := by
  obtain ⟨l0, lh, h1, s0, s1, b0, b1, off, ends, g0, g1, on⟩ := ok
  refine ⟨h, by show f.low - 1 < f.high; omega, h1, s0, s1, b0, b1, off, ends, g0, g1, ?_⟩
  refine Int.le_trans ?_ on
  show f.base - (f.base - (f.low - 1)) / f.step * f.step ≤ f.base - (f.base - f.low) / f.step * f.step
  have hd := Int.ediv_le_ediv (show 0 < f.step by omega) (show f.base - f.low ≤ f.base - (f.low - 1) by omega)
  have := Int.mul_le_mul_of_nonneg_right hd (show 0 ≤ f.step by omega)
  omega
theorem key_row {d : PyData} (h : isRow d = false) : isKeyD d = false := by
  unfold isKeyD
  rw [h]
  rfl
end Sf

/-! ### iterators that end while an exception is handled -/
namespace SfH
open PySem PySem.Spec PyProof.Rows HotX
section
variable {prog : Program} {w : World} {A : Around} {E : Value → Shared → Prop} {s : Shared} {x1 : Addr}
theorem hot_but {h h' : Heap} {it : Addr} (hot : HotAt A x1 h) (e : Heap.ExtBut it h h') (n : x1 ≠ it) : HotAt A x1 h' := by
  obtain ⟨hh, o, vs, g, d, c⟩ := hot
  exact ⟨hh, o, vs, e _ _ n g, d, c⟩
theorem hot_keep {h h' : Heap} (hot : HotAt A x1 h) (e : h.get? x1 = h'.get? x1 ∨ ∀ o, h.get? x1 = some o → h'.get? x1 = some o) : HotAt A x1 h' := by
  obtain ⟨hh, o, vs, g, d, c⟩ := hot
  refine ⟨hh, o, vs, ?_, d, c⟩
  rcases e with z | z
  · rw [← z]
    exact g
  · exact z o g
theorem stop_hot {α : Type} {Q : α → Shared → Prop} (hot : HotAt A x1 s.heap) (hE : ∀ h' e, (∀ b o, s.heap.get? b = some o → h'.get? b = some o) → (∃ o, h'.get? e = some o ∧ o.cls = .type "StopIteration") → E (.ref e) { s with heap := h' }) :
    wpAny (model prog w) A ((newExc (.type "StopIteration") [] >>= fun v => raiseNew v) : Sem α) Q E s := by
  obtain ⟨hh, o1, v1, g1, d1, c1⟩ := hot
  skip; refine wpAny_bind ?_; simp only [newExc, newTuple]
  skip; refine wpAny_bind (wpAny_newObj_type ?_ (by size_fits))
  skip; refine wpAny_bind (m := firstArgMember _ _) (wpAny_of_eq (a := Value.none) (by first | rfl | (simp only [firstArgMember]; rfl)) ?_)
  skip; refine wpAny_newObj_type ?_ (by size_fits)
  refine raiseNew_hot ⟨hh, o1, v1, Heap.get?_push_of_some _ (Heap.get?_push_of_some _ g1), d1, c1⟩ (Nat.ne_of_lt (Heap.lt_size (Heap.get?_push_of_some _ g1))) (Heap.get?_push_size _ rfl) rfl (by first | (simp; done) | (simp; omega) | (simp only [Array.size_append]; simp; omega)) ?_
  refine hE _ _ (fun b o e => ?_) ⟨_, Heap.get?_update_self _ (Heap.get?_push_size _ rfl) rfl, rfl⟩
  skip; rw [Heap.get?_update_other _ _ (Nat.ne_of_gt (Heap.lt_size (Heap.get?_push_of_some _ e)))]
  exact Heap.get?_push_of_some _ (Heap.get?_push_of_some _ e)
theorem list_end_hot {it l : Addr} {i : Nat} {items : Array Value} {Q : Value → Shared → Prop} (hot : HotAt A x1 s.heap) (ne : x1 ≠ it) (iter : s.heap.IsListIter it l i) (isl : s.heap.IsList l items) (at_ : items[i]? = none)
    (hE : ∀ h' e, Heap.ExtBut it s.heap h' → (∃ o, h'.get? e = some o ∧ o.cls = .type "StopIteration") → E (.ref e) { s with heap := h' }) : wpAny (model prog w) A (Builtin.SmallTypes.nextOf (.ref it)) Q E s := by
  obtain ⟨o, got, _, dat⟩ := id iter
  obtain ⟨ol, gotl, _, nl, datl⟩ := isl
  unfold Builtin.SmallTypes.nextOf
  refine wpAny_bind (wpAny_callSpecial?_slot (name := Str.ofString "__next__") iter.typeIs slot_listiter_next (wpAny_call_entry slot_listiter_next iter.typeIs entry_listiter_next ?_ (args_listiter_next _)))
  skip; show wpAny _ _ (field (.ref it) 0 >>= _) _ _ s
  refine wpAny_bind (wpAny_field got dat (x := .ref l) rfl ?_)
  skip; show wpAny _ _ (if (Value.ref l == Value.none) = true then _ else _) _ _ s
  skip; rw [if_neg (show ¬ ((Value.ref l == Value.none) = true) from Bool.false_ne_true)]
  skip; show wpAny _ _ (field (.ref it) 1 >>= _) _ _ s
  refine wpAny_bind (wpAny_field got dat (x := .int i 0) rfl ?_)
  skip; show wpAny _ _ (seqItems? (.ref l) >>= _) _ _ s
  refine wpAny_bind (wpAny_seqItems gotl datl ?_)
  simp only [Int.toNat_natCast, at_]
  refine wpAny_bind (wpAny_rule (wpAny_bind (wpAny_setField got dat (by simp) ?_)))
  have sb : Heap.SameBut it s.heap _ := Heap.SameBut.update (f := Obj.mapFields (·.setIfInBounds 0 Value.none)) ..
  refine stop_hot (hot_but hot sb.extBut ne) (fun h' e k z => hE h' e (fun b o nb q => k b o (sb.extBut b o nb q)) z)
theorem tup_end_hot {it t : Addr} {i : Nat} {items : Array Value} {Q : Option Value → Shared → Prop} (hot : HotAt A x1 s.heap) (ne : x1 ≠ it) (iter : IsTupIter s.heap it t i) (ist : IsTup s.heap t items) (at_ : items[i]? = none)
    (hQ : ∀ h', Heap.ExtBut it s.heap h' → Q none { s with heap := h' }) : wpAny (model prog w) A (pyNext (.ref it)) Q E s := by
  obtain ⟨o, got, _, dat⟩ := id iter
  obtain ⟨ol, gotl, _, nl, datl⟩ := ist
  unfold pyNext
  refine wpAny_bind (wpAny_attempt (wpAny_callSpecial?_slot (name := Str.ofString "__next__") iter.typeIs slot_tupleiter_next (wpAny_call_entry slot_tupleiter_next iter.typeIs entry_tupleiter_next ?_ (args_tupleiter_next _))))
  skip; show wpAny _ _ (field (.ref it) 0 >>= _) _ _ s
  refine wpAny_bind (wpAny_field got dat (x := .ref t) rfl ?_)
  skip; show wpAny _ _ (if (Value.ref t == Value.none) = true then _ else _) _ _ s
  skip; rw [if_neg (show ¬ ((Value.ref t == Value.none) = true) from Bool.false_ne_true)]
  skip; show wpAny _ _ (field (.ref it) 1 >>= _) _ _ s
  refine wpAny_bind (wpAny_field got dat (x := .int i 0) rfl ?_)
  skip; show wpAny _ _ (seqItems? (.ref t) >>= _) _ _ s
  refine wpAny_bind (wpAny_seqItems gotl datl ?_)
  simp only [Int.toNat_natCast, at_]
  refine wpAny_bind (wpAny_rule (wpAny_bind (wpAny_setField got dat (by simp) ?_)))
  have sb : Heap.SameBut it s.heap _ := Heap.SameBut.update (f := Obj.mapFields (·.setIfInBounds 0 Value.none)) ..
  refine stop_hot (hot_but hot sb.extBut ne) (fun h' e k z => ?_)
  refine wpAny_bind (wpAny_isInstance (T := "StopIteration") (b := true) z isSubtype_stop ?_)
  exact wpAny_pure (hQ h' fun b o nb q => k b o (sb.extBut b o nb q))
theorem hot_lt (hot : HotAt A x1 s.heap) : x1 < s.heap.objs.size := by
  obtain ⟨_, o, _, g, _⟩ := hot
  exact Heap.lt_size g
theorem unpack_hot {t : Addr} {items : Array Value} {Q : List Value → Shared → Prop} (hot : HotAt A x1 s.heap) (ist : IsTup s.heap t items)
    (hQ : ∀ h', Heap.ExtBut s.heap.objs.size s.heap h' → Q items.toList { s with heap := h' }) : wpAny (model prog w) A (unpackItems (.ref t) items.size none) Q E s := by
  have old : t ≠ s.heap.objs.size := by
    obtain ⟨o, g, _⟩ := ist
    exact Nat.ne_of_lt (Heap.lt_size g)
  have nx : x1 ≠ s.heap.objs.size := Nat.ne_of_lt (hot_lt hot)
  skip; unfold unpackItems; refine wpAny_bind ?_; unfold notIterableAtAll
  refine wpAny_bind (wpAny_specialOf ist.typeIs slot_tuple_iter.lookup (wpAny_pure ?_))
  skip; simp only [Bool.false_eq_true, if_false]; refine wpAny_bind (wpAny_holding (iter_tuple ist ?_))
  refine wpAny_bind (wpAny_holding (draw_tuple old items.size 0 _ _ ⟨_, Heap.get?_push_size _ rfl, rfl, rfl⟩ (ist.push _) (by omega) fun ha ita sa => ?_))
  have all_ : List.take items.size (List.drop 0 items.toList) = items.toList := by
    rw [List.drop_zero]
    exact List.take_of_length_le (by simp)
  rw [all_, if_neg (by simp)]
  have ista : IsTup ha t items := (ist.push _).extBut sa.extBut old
  have hota : HotAt A x1 ha := hot_but (hot_keep hot (.inr fun o e => Heap.get?_push_of_some _ e)) sa.extBut nx
  refine wpAny_bind (wpAny_holding (tup_end_hot (s := { s with heap := ha }) hota nx ita ista (by simp) fun hb eb => ?_))
  skip; simp only [Option.isSome_none, Bool.false_eq_true, if_false]
  exact wpAny_pure (hQ hb fun b o n e => eb b o n (sa.extBut b o n (Heap.get?_push_of_some _ e)))
theorem assign_hot {env : Env} {elts : List Expr} {kk : Nat} {pos : Pos} {t : Addr} {items : Array Value} {Q : Unit → Shared → Prop} (hot : HotAt A x1 s.heap) (ist : IsTup s.heap t items) (hn : (assignEach elts env).length = items.size) (ns : (assignEach elts env).findIdx? (·.1) = none)
    (h : ∀ h', Heap.ExtBut s.heap.objs.size s.heap h' → wpAny (model prog w) A (assignInOrder ((assignEach elts env).map (·.2)) items.toList) Q E { s with heap := h' }) : wpAny (model prog w) A (assign (.Tuple elts kk pos) env (.ref t)) Q E s := by
  rw [assign_Tuple]
  refine wpAny_bind (wpAny_standAt ?_)
  unfold unpack
  rw [hn, ns]
  exact wpAny_bind (wpAny_holding (unpack_hot hot ist h))
/-- zip, both lists at their ends at once -/
theorem zip_end_hot {z TI TO i1 i2 l1 l2 : Addr} {k : Nat} {xs : Array Value} {a b : Value} {Q : Option Value → Shared → Prop} (hot : HotAt A x1 s.heap) (nz : x1 ≠ z) (n1 : x1 ≠ i1) (D : ZipApart z TI TO i1 i2 l1 l2)
    (hz : IsZip s.heap z TI TO .none) (hTI : IsPair s.heap TI (.ref i1) (.ref i2)) (hTO : IsPair s.heap TO a b) (h1 : s.heap.IsListIter i1 l1 k) (hl1 : s.heap.IsList l1 xs) (hend : xs[k]? = none)
    (hQ : ∀ h', (∀ c o, c ≠ z → c ≠ TO → c ≠ i1 → c ≠ i2 → s.heap.get? c = some o → h'.get? c = some o) → Q none { s with heap := h' }) : wpAny (model prog w) A (pyNext (.ref z)) Q E s := by
  have hT : s.TypeIs (.ref z) "zip" := ⟨_, hz, rfl⟩
  unfold pyNext
  refine wpAny_bind (wpAny_attempt (wpAny_callSpecial?_slot (name := Str.ofString "__next__") hT F.slot_zip_next (wpAny_call_entry F.slot_zip_next hT F.entry_zip_next ?_ (F.args_zip_next_1 _))))
  skip; show wpAny _ _ (field (.ref z) 2 >>= _) _ _ _
  skip; refine wpAny_bind (wpAny_field hz rfl (x := .bool false) rfl ?_)
  skip; show wpAny _ _ (field (.ref z) 3 >>= _) _ _ _
  skip; refine wpAny_bind (wpAny_field hz rfl (x := .ref TI) rfl ?_)
  skip; refine wpAny_bind (wpAny_seqItems hTI rfl ?_)
  skip; show wpAny _ _ (Builtin.SmallTypes.ownedTupleIsFree (.ref z) >>= _) _ _ _
  skip; refine wpAny_bind ?_; unfold Builtin.SmallTypes.ownedTupleIsFree
  skip; refine wpAny_bind (wpAny_field hz rfl (x := .none) rfl (wpAny_pure ?_))
  skip; simp only [if_true]; refine wpAny_bind (wpAny_rule ?_)
  skip; refine wpAny_bind (wpAny_field hz rfl (x := .ref TO) rfl ?_)
  refine wpAny_bind (wpAny_setField_rec hz (by simp) fun ha za sa => ?_)
  replace za : IsZip ha z TI TO .ellipsis := za
  skip; refine wpAny_bind ?_; simp only [List.zipIdx_cons, List.zipIdx_nil, List.forIn_cons, List.forIn_nil]
  skip; refine wpAny_bind (wpAny_bind (wpAny_onRaise ?_))
  skip; show wpAny _ _ (Builtin.SmallTypes.nextOf (.ref i1) >>= _) _ _ _
  refine wpAny_bind (list_end_hot (hot_but hot sa.extBut nz) n1 (h1.extBut sa.extBut D.i1z) (hl1.extBut sa.extBut D.l1z) hend fun hb e sb he => ?_)
  obtain ⟨oe, goe, cle⟩ := he
  have zb : IsZip hb z TI TO .ellipsis := sb _ _ D.i1z.symm za
  have nez : e ≠ z := fun q => by
    subst q
    rw [zb] at goe
    cases goe
    simp at cle
  refine wpAny_setField_rec zb (by simp) fun hc _ sc => ?_
  refine wpAny_bind (wpAny_isInstance (T := "StopIteration") (b := true) ⟨oe, sc.extBut _ _ nez goe, cle⟩ isSubtype_stop ?_)
  exact wpAny_pure (hQ hc fun c o c1 _ c3 _ q => sc.extBut _ _ c1 (sb _ _ c3 (sa.extBut _ _ c1 q)))
end
end SfH

/-! ### a comprehension over zip while an exception is handled -/
namespace L2
open PySem PySem.Spec PyProof.Rows HotX SfH
/-- two lists of one length, item by item -/
def ItzE (K : PySem.W.Frag) (a b : Addr) : It :=
  ⟨fun i H => ∃ (xs ys : List V) (x y : V), SqL K H a xs ∧ SqL K H b ys ∧ xs[i]? = some x ∧ ys[i]? = some y,
    fun i H v H' => ∃ T x y, v = .ref T ∧ H T = none ∧ H' = upd H T (.tup [x, y]) ∧ (∀ xs, SqL K H a xs → xs[i]? = some x) ∧ ∀ ys, SqL K H b ys → ys[i]? = some y,
    fun i H => ∃ xs : List V, SqL K H a xs ∧ xs.length ≤ i⟩
structure TurnX (P : Program) (w : World) (K : PySem.W.Frag) (tg : Expr) (J : It) (fp : List Addr) (it : Addr) (tn : Nat → Heap → Prop) (x1 : Addr) : Prop where
  obj : ∀ i h, tn i h → ∀ b ∈ fp, ∃ o, h.get? b = some o ∧ ∀ v, o.data ≠ .cell v
  keep : ∀ i h h', tn i h → (∀ b ∈ fp, ∀ o, h.get? b = some o → h'.get? b = some o) → tn i h'
  item : ∀ (X : Cx), X.prog = P → X.w = w → X.K = K → ∀ (i : Nat) (pins : List (Addr × Obj)) (s : Shared) (σ : St) (H : Hp) (E : Value → Shared → Prop), Inv X pins σ H s → (∀ b ∈ fp, FpOk X pins H b) → tn i s.heap → J.go i H →
    wpAny (model P w) X.A (pyNext (.ref it)) (fun r s1 => ∃ u, r = some u ∧ wpAny (model P w) X.A (letOwnedTupleGo tg (.ref it) u) (fun _ s2 => ∃ x H', Inv X pins σ H' s2 ∧ RelV x u ∧ J.yld i H x H' ∧ tn (i + 1) s2.heap ∧ ∀ b ∈ fp, H' b = none) E s1) E s
  done : ∀ (X : Cx), X.prog = P → X.w = w → X.K = K → ∀ (i : Nat) (pins : List (Addr × Obj)) (s : Shared) (σ : St) (H : Hp) (E : Value → Shared → Prop), Inv X pins σ H s → HotAt X.A x1 s.heap → (∀ b ∈ fp, FpOk X pins H b) → tn i s.heap → J.stop i H →
    wpAny (model P w) X.A (pyNext (.ref it)) (fun r s1 => r = none ∧ Inv X pins σ H s1) E s
  self : ∀ (A : Around) (i : Nat) (s : Shared) (Q : Value → Shared → Prop) (E : Value → Shared → Prop), tn i s.heap → Q (.ref it) s → wpAny (model P w) A (pyIter (.ref it)) Q E s
theorem mem5 {α : Type} {c p q r s t : α} (h : c ∈ [p, q, r, s, t]) : c = p ∨ c = q ∨ c = r ∨ c = s ∨ c = t := by simpa using h
theorem turn_zipX {P : Program} {w : World} {K : PySem.W.Frag} {elts : List Expr} {kk : Nat} {tpos : Pos} {a b z TI TO i1 i2 x1 : Addr} (D : ZipApart z TI TO i1 i2 a b) :
    TurnX P w K (.Tuple elts kk tpos) (ItzE K a b) [z, TI, TO, i1, i2] z (fun i h => IsZip h z TI TO .none ∧ IsPair h TI (.ref i1) (.ref i2) ∧ (∃ x y, IsPair h TO x y) ∧ h.IsListIter i1 a i ∧ h.IsListIter i2 b i) x1 where
  obj := fun i h st c hc => by
    obtain ⟨gz, gI, ⟨x, y, gO⟩, ⟨o1, e1, _, d1⟩, ⟨o2, e2, _, d2⟩⟩ := st
    rcases mem5 hc with rfl | rfl | rfl | rfl | rfl
    · exact ⟨_, gz, fun v q => nomatch q⟩
    · exact ⟨_, gI, fun v q => nomatch q⟩
    · exact ⟨_, gO, fun v q => nomatch q⟩
    · exact ⟨o1, e1, fun v q => by rw [d1] at q; cases q⟩
    · exact ⟨o2, e2, fun v q => by rw [d2] at q; cases q⟩
  keep := fun i h h' st k => by
    obtain ⟨gz, gI, ⟨x, y, gO⟩, g1, g2⟩ := st
    exact ⟨k z (by simp) _ gz, k TI (by simp) _ gI, ⟨x, y, k TO (by simp) _ gO⟩, g1.at fun o q => k i1 (by simp) o q, g2.at fun o q => k i2 (by simp) o q⟩
  item := by
    intro X eP ew eK i pins s σ H E I ff st hgo
    subst eP ew eK
    obtain ⟨gz, gI, ⟨x0, y0, gO⟩, g1, g2⟩ := st
    obtain ⟨xs, ys, x, y, qx, qy, ex, ey⟩ := hgo
    obtain ⟨its, rv, p, _⟩ := I.list qx
    obtain ⟨its2, rv2, p2, _⟩ := I.list qy
    obtain ⟨u, eu, ru⟩ := rv.get ex
    obtain ⟨u2, eu2, ru2⟩ := rv2.get ey
    have zl : z < s.heap.objs.size := Heap.lt_size gz
    refine wpAny_pyNext_zip_item D gz gI gO g1 g2 p.isList p2.isList (x := u) (y := u2) (by simpa using eu) (by simpa using eu2) fun ha za Oa ia ib Ta _ ka => ?_
    refine ⟨_, rfl, wpAny_letOwnedTupleGo_zip (s := { s with heap := ha }) za fun hb zb sb => ?_⟩
    have Tb : hb.get? s.heap.objs.size = some { cls := .type "tuple", data := .seq #[u, u2] } := (sb.2 _ (Nat.ne_of_gt zl)).trans Ta
    have fresh_ : ObjOk X.prog X.w (upd H s.heap.objs.size (.tup [x, y])) hb s.heap.objs.size (.tup [x, y]) := ⟨by show 2 ≤ sizeLine; decide, [u, u2], .cons ru (.cons ru2 .nil), ⟨_, Tb, rfl, _, rfl⟩⟩
    have all_ : ∀ c o, c ∉ [z, TI, TO, i1, i2] → s.heap.get? c = some o → hb.get? c = some o := fun c o nc q =>
      (sb.2 c (fun q' => nc (by simp [q']))).trans (ka c o (fun q' => nc (by simp [q'])) (fun q' => nc (by simp [q'])) (fun q' => nc (by simp [q'])) (fun q' => nc (by simp [q'])) q)
    have J := I.turnedNew (t' := s.toks) (ch := [z, TI, TO, i1, i2]) all_ ff (Nat.le_refl _) fresh_
    refine ⟨.ref s.heap.objs.size, _, J, rfl, ⟨_, x, y, rfl, I.hok.fresh (Nat.le_refl _), rfl, fun l hl => by rw [I.list_inj hl qx]; exact ex, fun l hl => by rw [I.list_inj hl qy]; exact ey⟩,
      ⟨zb, (sb.2 _ D.TIz).trans (ka _ _ D.TIz D.TITO D.TIi1 D.TIi2 gI), ⟨u, u2, (sb.2 _ D.TOz).trans Oa⟩, ia.at fun o q => (sb.2 _ D.i1z).trans q, ib.at fun o q => (sb.2 _ D.i2z).trans q⟩, fun c hc => ?_⟩
    have lt : c < s.heap.objs.size := by
      rcases mem5 hc with rfl | rfl | rfl | rfl | rfl
      · exact zl
      · exact Heap.lt_size gI
      · exact Heap.lt_size gO
      · obtain ⟨_, e1, _⟩ := g1; exact Heap.lt_size e1
      · obtain ⟨_, e1, _⟩ := g2; exact Heap.lt_size e1
    rw [upd_ne (Nat.ne_of_lt lt)]
    exact (ff c hc).1
  done := by
    intro X eP ew eK i pins s σ H E I hot ff st hst
    subst eP ew eK
    obtain ⟨gz, gI, ⟨x0, y0, gO⟩, g1, g2⟩ := st
    obtain ⟨xs, qx, le⟩ := hst
    obtain ⟨its, rv, p, _⟩ := I.list qx
    have l1 := rv.length
    obtain ⟨_, ox, vx, gx, dx, cx⟩ := id hot
    have nz : x1 ≠ z := fun q => by
      rw [q, gz] at gx
      cases gx
      cases dx
      simp at cx
    have n1 : x1 ≠ i1 := fun q => by
      obtain ⟨o1, e1, _, d1⟩ := g1
      rw [q, e1] at gx
      cases gx
      rw [d1] at dx
      cases dx
      simp at cx
    exact zip_end_hot hot nz n1 D gz gI gO g1 p.isList (by simp; omega) fun h' hk => ⟨rfl, I.turnedL (t' := s.toks) (ch := [z, TI, TO, i1, i2]) (fun c o nb q =>
      hk c o (fun q' => nb (by simp [q'])) (fun q' => nb (by simp [q'])) (fun q' => nb (by simp [q'])) (fun q' => nb (by simp [q'])) q) ff⟩
  self := fun A i s Q E st h => wpAny_pyIter_zip st.1 h
def PIEX (X : Cx) (pins : List (Addr × Obj)) (σ : St) (tg : Expr) (x1 : Addr) (R : It → Hp → Prop) (itv : Value) (s2 : Shared) : Prop :=
  ∃ (it : Addr) (fp : List Addr) (tn : Nat → Heap → Prop) (J : It) (H' : Hp), itv = .ref it ∧ Inv X pins σ H' s2 ∧ TurnX X.prog X.w X.K tg J fp it tn x1 ∧ tn 0 s2.heap ∧ (∀ b ∈ fp, FpOk X pins H' b) ∧ R J H'
structure PIX (X : Cx) (tg iter : Expr) (x1 : Addr) (wi : TI) : Prop where
  run : ∀ (pins : List (Addr × Obj)) (s : Shared) (σ : St) (H : Hp) (R : It → Hp → Prop), Inv X pins σ H s → wi σ H R →
    wpAny (model X.prog X.w) X.A (eval iter X.env) (fun v s1 => wpAny (model X.prog X.w) X.A (pyIter v) (PIEX X pins σ tg x1 R) X.xe s1) X.xe s
def iZipE (K : PySem.W.Frag) (ta : TA) : TI := fun σ H R => ta σ H fun vs H1 => ∃ a b xs ys, vs = [.ref a, .ref b] ∧ SqL K H1 a xs ∧ SqL K H1 b ys ∧ R (ItzE K a b) H1
theorem pi_zipX {X : Cx} {e e2 : Expr} {ta : TA} {p pos tpos : Pos} {elts : List Expr} {kk : Nat} {x1 : Addr} (hg : Gl X "zip") (hm : X.mg "zip" = none) (ha : PA X [e, e2] ta)
    (hs : starEach [e, e2] X.env = (false, eval e X.env) :: starEach [e2] X.env := by rfl) (hpl : (backTo pos (starEach [e2] X.env)).any (·.1) = false := by rfl) : PIX X (.Tuple elts kk tpos) (.Call (.Name "zip" p) [e, e2] [] pos) x1 (iZipE X.K ta) := by
  refine ⟨fun pins s σ H R I h => ?_⟩
  refine Call_ (ld_blt I hg hm PyProof.Rows.boot_zip (PyProof.Rows.callWith_type1 (thn (ha.run pos pins s σ H _ I h) fun us s1 ⟨vs, H1, I1, r1, q1⟩ => ?_) hs hpl))
  obtain ⟨a, b, xs, ys, rfl, qx, qy, q⟩ := q1
  cases r1 with
  | cons r rr =>
  cases rr with
  | cons r' rr =>
  cases rr
  cases r
  cases r'
  obtain ⟨its, rv, p1, _⟩ := I1.list qx
  obtain ⟨its2, rv2, p2, _⟩ := I1.list qy
  refine call_zip_2 p1.isList p2.isList fun ha gz gI gO g1 g2 _ keep => wpAny_pyIter_zip gz ?_
  have J := I1.kept (t' := s1.toks) keep
  refine ⟨s1.heap.objs.size + 4, [s1.heap.objs.size + 4, s1.heap.objs.size + 2, s1.heap.objs.size + 3, s1.heap.objs.size, s1.heap.objs.size + 1], _, _, H1, rfl, J, turn_zipX (PySem.W.ktu_apart s1.heap.objs.size a b p1.lt p2.lt), ⟨gz, gI, ⟨_, _, gO⟩, g1, g2⟩, fun c hc => ?_, q⟩
  have le : s1.heap.objs.size ≤ c := by
    rcases mem5 hc with q | q | q | q | q <;> rw [q] <;> first | exact Nat.le_add_right _ _ | exact Nat.le_refl _
  exact I1.fpOk le (I1.hok.fresh le)
/-- a target, while an exception is handled -/
structure PGX (X : Cx) (x1 : Addr) (tg : Expr) (g : TG) : Prop where
  run : ∀ (pins : List (Addr × Obj)) (s : Shared) (σ : St) (H : Hp) (v : V) (u : Value) (Q : St → Hp → Prop), Inv X pins σ H s → HotAt X.A x1 s.heap → RelV v u → g v σ H Q →
    wpAny (model X.prog X.w) X.A (assign tg X.env u) (fun _ s' => ∃ σ' H', Inv X pins σ' H' s' ∧ Q σ' H') X.xe s
theorem pg_tupX {X : Cx} {x1 : Addr} {es : List Expr} {k : Nat} {t : TGs} {n : Nat} {pos : Pos} (h : PGs X es t) (hn : (assignEach es X.env).length = n := by rfl) (hst : (assignEach es X.env).findIdx? (·.1) = none := by rfl) : PGX X x1 (.Tuple es k pos) (gTup X.K n t) := by
  refine ⟨fun pins s σ H v u Q I hot r hw => ?_⟩
  obtain ⟨a, xs, rfl, hq, hl, hw⟩ := hw
  cases r
  obtain ⟨its, rv, ht, hz⟩ := I.tuple hq
  refine assign_hot hot ht (by simp [hn, ← hl, rv.length]) hst fun h' hx => ?_
  have J : Inv X pins σ H { s with heap := h' } := I.kept (t' := s.toks) fun b o e => hx b o (Nat.ne_of_lt (Heap.lt_size e)) e
  exact h.run pins _ σ H xs _ Q J (by simpa using rv) hw
section
variable {X : Cx}
theorem lc_coreX {pins : List (Addr × Obj)} {s : Shared} {σ : St} {H : Hp} {Q : VK} {elt tg iter : Expr} {ifs : List Expr} {scope : Scope} {own : List (Str × Nat)} {pos pos' : Pos} {wi : TI} {g : TG} {tt : TT} {te : TE} {use : Option (Value → Sem Unit)} {Qf : Value → Shared → Prop} {x1 : Addr} {o1 : Obj} {v1 : Array Value}
    (handled : X.A.handled = some (.ref x1)) (inpn : (x1, o1) ∈ X.pn) (dat : o1.data = .fields v1) (ctx : v1[2]? = some .none) (hN : X.N.Nodup) (I : Inv X pins σ H s) (hi : PIX X tg iter x1 wi) (ok : BlkOk X.N X.env.scope scope own)
    (hg : ∀ (s : Shared) (H : Hp) (C : Addr) (cl : List (Str × Addr)) (fp : List Addr), PGX (X.blk s H scope (compEnvC scope cl C X.env) fp) x1 tg g) (ht : ∀ (s : Shared) (H : Hp) (C : Addr) (cl : List (Str × Addr)) (fp : List Addr), PTs (X.blk s H scope (compEnvC scope cl C X.env) fp) ifs tt)
    (he : ∀ (s : Shared) (H : Hp) (C : Addr) (cl : List (Str × Addr)) (fp : List Addr), PE (X.blk s H scope (compEnvC scope cl C X.env) fp) elt te) (hs : ∀ x, foldedSetIterable iter X.env x = pure x) (h : tLc wi g tt te (own.map (·.2)) σ H Q)
    (back : ∀ D C s' m H', Inv X pins σ H' s' → Q (.ref D) H' → s'.heap.Ns C m → FpOk X pins H' C → compPost (model X.prog X.w) X.A X.xe use Qf (.ref D) C (.ok .next) s') :
    wpAny (model X.prog X.w) X.A (comprehension (.ListComp elt [⟨tg, iter, ifs, 0⟩] scope pos) scope X.env pos' (newList []) false (eval iter X.env) use) Qf X.xe s := by
  have frees : ∀ y ∈ scope.names, y.2 = .free → ∃ c, X.env.cells.lookup y.1 = some c := fun y hy e => (ok.free y hy e).elim (fun k => I.ok.has _ (.inl k)) (fun k => I.ok.has _ (.inr k))
  refine wpAny_comprehension_free (use := use) rfl hs (closure_ok frees) ok.kind (fun y hy e => by rw [ok.uniq y hy, e]) (thn (hi.run pins s σ H _ I h) fun xv sa za => thn za fun iv sb zb => ?_)
  obtain ⟨it, fp, tn, J, Hb, rfl, Ib, T, stb, fb, q⟩ := zb
  refine wpAny_newObj_type (newEnv_comp ?_) (by show 0 ≤ sizeLine; decide)
  obtain ⟨D, eD⟩ : ∃ D, sb.heap.objs.size = D := ⟨_, rfl⟩
  have noD : Hb D = none := Ib.hok.fresh (Nat.le_of_eq eD)
  obtain ⟨W, ⟨m0, w0⟩, turn⟩ := q D noD
  obtain ⟨sc, esc⟩ : ∃ sc : Shared, ({ sb with heap := sb.heap.push { cls := .type "list", data := .seq ([] : List Value).toArray } } : Shared) = sc := ⟨_, rfl⟩
  have Ic : Inv X pins σ (upd Hb D (.lst [])) sc := by
    subst esc
    subst eD
    exact Ib.laid (t' := sb.toks) (fun b o e => Heap.get?_push_of_some _ e) (Nat.le_refl _) ⟨Nat.zero_le _, [], 0, .nil, Heap.get?_push_size _ rfl⟩
  have hpc : sc.heap = sb.heap.push { cls := .type "list", data := .seq ([] : List Value).toArray } := by rw [← esc]
  have lts : ∀ b ∈ fp, b < sb.heap.objs.size := fun b hb => by
    obtain ⟨o, e, _⟩ := T.obj _ _ stb b hb
    exact Heap.lt_size e
  have fc : ∀ b ∈ fp, FpOk X pins (upd Hb D (.lst [])) b ∧ b < sc.heap.objs.size := fun b hb => by
    have lt := lts b hb
    refine ⟨⟨?_, (fb b hb).2⟩, ?_⟩
    · rw [upd_ne (by rw [← eD]; exact Nat.ne_of_lt lt)]
      exact (fb b hb).1
    · rw [hpc, Heap.size_push]
      exact Nat.lt_succ_of_lt lt
  have stc : tn 0 sc.heap := T.keep _ _ _ stb fun b _ o e => by
    rw [hpc]
    exact Heap.get?_push_of_some _ e
  have Id := block_start Ic ok hN fc
  have pg := hg sc (upd Hb D (.lst [])) sc.heap.objs.size (cellsFrom (sc.heap.objs.size + 1) scope.names (cloFrom X.env.cells scope.names [])) fp
  have pt := ht sc (upd Hb D (.lst [])) sc.heap.objs.size (cellsFrom (sc.heap.objs.size + 1) scope.names (cloFrom X.env.cells scope.names [])) fp
  have pe := he sc (upd Hb D (.lst [])) sc.heap.objs.size (cellsFrom (sc.heap.objs.size + 1) scope.names (cloFrom X.env.cells scope.names [])) fp
  subst eD
  rw [esc]
  show codeAny _ _ (.compStart (.ListComp elt [⟨tg, iter, ifs, 0⟩] scope pos) 0 (.ref it) (.ref sb.heap.objs.size) (compEnvC scope (cellsFrom (sc.heap.objs.size + 1) scope.names (cloFrom X.env.cells scope.names [])) sc.heap.objs.size X.env)) (compPost (model X.prog X.w) X.A X.xe use Qf (.ref sb.heap.objs.size) sc.heap.objs.size) { sc with heap := pushCells (sc.heap.push { cls := .type "dict", data := .dict #[] }) scope.names }
  have nofp : ∀ b ∈ fp, (upd Hb sb.heap.objs.size (.lst [])) b = none := fun b hb => (fc b hb).1.1
  -- the handled exception, as long as the block runs
  obtain ⟨got, free1, neL, nofs, _⟩ := Ic.pin (x1, o1) (List.mem_append_left _ inpn)
  have nostk : x1 ∉ frs X.stack := fun z => (List.mem_cons.mp (Ic.stkSub x1 z)).elim neL nofs
  have nofp1 : x1 ∉ fp := fun z => (fc x1 z).1.2.2.2.2.2 (x1, o1) (List.mem_append_left _ inpn) rfl
  obtain ⟨ce, ece⟩ : ∃ ce, compEnvC scope (cellsFrom (sc.heap.objs.size + 1) scope.names (cloFrom X.env.cells scope.names [])) sc.heap.objs.size X.env = ce := ⟨_, rfl⟩
  have atL : ce.locals = sc.heap.objs.size := by
    subst ece
    rfl
  rw [ece] at Id pg pt pe ⊢
  obtain ⟨Hc, eHc⟩ : ∃ Hc, upd Hb sb.heap.objs.size (.lst []) = Hc := ⟨_, rfl⟩
  rw [eHc] at Ic Id pg pt pe w0 nofp fc free1
  have hotB : ∀ {τ : St} {H' : Hp} {s' : Shared} {pl : List (Addr × Obj)}, Inv (X.blk sc Hc scope ce fp) pl τ H' s' → HotAt X.A x1 s'.heap := fun {τ H' s' pl} I' => ⟨handled, o1, v1, I'.base.keep x1 o1 got free1 nostk nofp1, dat, ctx⟩
  obtain ⟨sd, esd⟩ : ∃ sd : Shared, ({ sc with heap := pushCells (sc.heap.push { cls := .type "dict", data := .dict #[] }) scope.names } : Shared) = sd := ⟨_, rfl⟩
  rw [esd] at Id ⊢
  have std : tn 0 sd.heap := T.keep _ _ _ stc fun b _ o e => by
    rw [← esd]
    exact pushCells_keeps _ _ _ _ (Heap.get?_push_of_some _ e)
  have stays : ∀ {τ : St} {H' : Hp} {s' : Shared}, Inv (X.blk sc Hc scope ce fp) [] τ H' s' → (∀ b ∈ fp, H' b = none) → ∀ b ∈ fp, FpOk (X.blk sc Hc scope ce fp) [] H' b := fun {τ H' s'} I' hn b hb =>
    ⟨hn b hb, (I'.ok.exf b hb).1, I'.ok.exfs b hb, .inl hb, fun x c e => (I'.ok.exf b hb).2 x c e, fun p hp => absurd (show p ∈ ([] : List (Addr × Obj)) ++ [] from hp) (by simp)⟩
  have loop : codeAny (model X.prog X.w) X.A (.compLoop (.ListComp elt [⟨tg, iter, ifs, 0⟩] scope pos) 0 (.ref it) (.ref sb.heap.objs.size) ce) (compPost (model X.prog X.w) X.A X.xe use Qf (.ref sb.heap.objs.size) sc.heap.objs.size) sd := by
    refine compLoop_any (fun n s' => ∃ i H', Inv (X.blk sc Hc scope ce fp) [] (wipe σ (own.map (·.2))) H' s' ∧ tn i s'.heap ∧ (∀ b ∈ fp, H' b = none) ∧ W i n H') ?_ m0 ⟨0, Hc, Id, std, nofp, w0⟩
    rintro n se ⟨i, He, Ie, ste, ne, we⟩
    rcases turn i n He we with ⟨stop, qq⟩ | ⟨go, Nx, next_, step⟩
    · refine thnF (T.done (X.blk sc Hc scope ce fp) rfl rfl rfl i [] se _ He (fun _ _ => False) Ie (hotB Ie) (stays Ie ne) ste stop) fun r sf zf => ?_
      obtain ⟨rfl, If⟩ := zf
      have Ig : Inv X pins σ He sf := Ic.call' (ch := fp) If.os If.base If.hok If.bare fun b hb => ⟨(fc b hb).1.2.2.2.1, (fc b hb).1.2.1, (fc b hb).1.2.2.2.2.1, (fc b hb).1.2.2.2.2.2⟩
      have noC : He sc.heap.objs.size = none := by
        have z : He ce.locals = none := If.free
        rw [atL] at z
        exact z
      obtain ⟨m, nsm, _⟩ := If.loc
      have nsm : sf.heap.Ns ce.locals m := nsm
      rw [atL] at nsm
      exact back sb.heap.objs.size sc.heap.objs.size sf m He Ig qq nsm (Ic.fpOk (Nat.le_refl _) noC)
    · refine thnF (T.item (X.blk sc Hc scope ce fp) rfl rfl rfl i [] se _ He (fun _ _ => False) Ie (stays Ie ne) ste go) fun r sf zf => ?_
      obtain ⟨u, rfl, zf⟩ := zf
      refine thnF zf fun _ sg ⟨x, Hg, Ig, rg, yg, stg, ng⟩ => ?_
      have Ig' := Ig.pinned (stays Ig ng) (T.obj _ _ stg)
      refine thnF (pg.run _ sg _ Hg x u _ Ig' (hotB Ig') rg (step x Hg yg)) fun _ sh ⟨τ, Hh, Ih, wh, qh⟩ => ?_
      refine thnF (pt.run _ sh τ Hh _ Ih qh) fun b si ⟨Hi, Ii, qi⟩ => ?_
      have fin : ∀ {s' : Shared} {H' : Hp}, Inv (X.blk sc Hc scope ce fp) ([] ++ pinsAt fp sg.heap) τ H' s' → Nx H' → ∃ m, m < n ∧ ∃ i H', Inv (X.blk sc Hc scope ce fp) [] (wipe σ (own.map (·.2))) H' s' ∧ tn i s'.heap ∧ (∀ b ∈ fp, H' b = none) ∧ W i m H' := fun {s' H'} I' nx => by
        obtain ⟨m', lt, w'⟩ := next_ H' nx
        have pinned_ : ∀ b ∈ fp, ∀ o, sg.heap.get? b = some o → s'.heap.get? b = some o ∧ H' b = none := fun b hb o e =>
          ⟨(I'.pin (b, o) (List.mem_append_right _ (List.mem_append_right _ (mem_pinsAt hb e)))).1, (I'.pin (b, o) (List.mem_append_right _ (List.mem_append_right _ (mem_pinsAt hb e)))).2.1⟩
        have len_ : (wipe σ (own.map (·.2))).length = τ.length := by rw [← wh, wipe_length]
        refine ⟨m', lt, i + 1, H', (I'.unpinned (pins := [])).weak len_ (fun j v e => ?_), T.keep _ _ _ stg fun b hb o e => (pinned_ b hb o e).1, fun b hb => ?_, w'⟩
        · rw [← wh] at e
          exact (wipe_some e).1
        · obtain ⟨o, e, _⟩ := T.obj _ _ stg b hb
          exact (pinned_ b hb o e).2
      cases b with
      | false =>
        simp only [Bool.false_eq_true, if_false] at qi ⊢
        exact fin Ii qi
      | true =>
        simp only [if_true] at qi ⊢
        refine thnF (pe.run _ si τ Hi _ Ii qi) fun z sj ⟨yv, Hj, Ij, rj, acc, atD, lz, nx⟩ => ?_
        exact app_ok (X := X.blk sc Hc scope ce fp) Ij atD lz rj fun sk Ik => fin Ik nx
  exact codeAny_compStart_list loop (T.self X.A 0 _ _ _ std loop)
theorem pe_lcX {elt tg iter : Expr} {ifs : List Expr} {scope : Scope} {own : List (Str × Nat)} {pos : Pos} {wi : TI} {g : TG} {tt : TT} {te : TE} {x1 : Addr} {o1 : Obj} (handled : X.A.handled = some (.ref x1)) (inpn : (x1, o1) ∈ X.pn) (ctx : ∃ v1 : Array Value, o1.data = .fields v1 ∧ v1[2]? = some .none) (hN : X.N.Nodup) (hi : PIX X tg iter x1 wi) (ok : BlkOk X.N X.env.scope scope own)
    (hg : ∀ (s : Shared) (H : Hp) (C : Addr) (cl : List (Str × Addr)) (fp : List Addr), PGX (X.blk s H scope (compEnvC scope cl C X.env) fp) x1 tg g) (ht : ∀ (s : Shared) (H : Hp) (C : Addr) (cl : List (Str × Addr)) (fp : List Addr), PTs (X.blk s H scope (compEnvC scope cl C X.env) fp) ifs tt)
    (he : ∀ (s : Shared) (H : Hp) (C : Addr) (cl : List (Str × Addr)) (fp : List Addr), PE (X.blk s H scope (compEnvC scope cl C X.env) fp) elt te) (hs : ∀ x, foldedSetIterable iter X.env x = pure x := by intro _; rfl) :
    PE X (.ListComp elt [⟨tg, iter, ifs, 0⟩] scope pos) (tLc wi g tt te (own.map (·.2))) := by
  refine ⟨fun pins s σ H Q I h => ?_⟩
  obtain ⟨v1, dat, cx⟩ := ctx
  rw [eval_ListComp]
  refine lc_coreX handled inpn dat cx hN I hi ok hg ht he hs h fun D C s' m H' J q ns f => ⟨m, ns, fun h2 sb => ?_⟩
  exact ⟨.ref D, H', J.turned (t' := s'.toks) (fun b o hb e => (sb.2 b hb).trans e) f.1 f.2.1 f.2.2.2.1 f.2.2.2.2.1 f.2.2.2.2.2, rfl, q⟩
end
end L2
namespace Sf
open PySem PySem.Spec PyProof.Rows L2 Evl
theorem wk_zipE {α β : Type} [Rep α] [Rep β] {K : PySem.W.Frag} {σ : L2.St} {H : Hp} {ta tb : TE} {xs : List α} {ys : List β} (h : ER K ta σ H xs) (h' : ER K tb σ H ys) (hl : xs.length = ys.length) : Wk K (iZipE K (tCons ta (tCons tb tNil))) σ H (xs.zip ys) := fun H1 e R k => h H1 e _ fun v H2 e2 ⟨a, vs, hv, hs, hr⟩ =>
  h' H2 (e.trans e2) _ fun v' H3 e3 ⟨b, ws, hw, hs', hr'⟩ => by
  subst hv
  subst hw
  have n1 := rels_len hr
  have n2 := rels_len hr'
  have nz : (xs.zip ys).length = vs.length := by rw [List.length_zip, n1]; omega
  have wz : Walk (ItzE K a b) (xs.zip ys).length (fun H => SqL K H a vs ∧ SqL K H b ws) (YPair (fun i => vs[i]?) (fun i => ws[i]?)) := by
    rw [nz]
    refine ⟨fun i _ hi q => ?_, fun _ q => ⟨vs, q.1, Nat.le_refl _⟩, fun i H v H' _ q y => ?_⟩
    · have h2 : i < ws.length := by omega
      exact ⟨vs, ws, vs[i], ws[i], q.1, q.2, by simp [hi], by simp [h2]⟩
    · obtain ⟨T, x, z, t1, t2, t3, t4, t5⟩ := y
      exact ⟨T, x, z, t1, t2, t3, t4 vs q.1, t5 ws q.2⟩
  refine ⟨a, b, vs, ws, rfl, sq_of (e3 _ _ hs), sq_of hs', k _ H3 _ _ (e2.trans e3) wz (fun H4 e4 => ⟨sq_of (ey_lst e4 (e3 _ _ hs)), sq_of (ey_lst e4 hs')⟩) fun i Ha v Hb hi ea y => ?_⟩
  obtain ⟨T, x1, y1, rfl, hT, rfl, h1, h2⟩ := y
  obtain ⟨x, h3, h4⟩ := rels_get hr h1
  obtain ⟨z, h5, h6⟩ := rels_get hr' h2
  have n := Ex.new (o := .tup [x1, y1]) hT
  refine ⟨n, (x, z), ?_, T, _, _, rfl, st_of upd_same, Rep.moY ((e3.y.trans ea).trans n.y) h4, Rep.moY (ea.trans n.y) h6⟩
  rw [List.getElem?_zip_eq_some]
  exact ⟨h3, h5⟩
end Sf

namespace Sf
open PySem PySem.Spec PyProof.Rows L2 Evl
/-! ### what was seen -/
abbrev Seen1 := Tri Int Sg Int
def fits1 (f : Fld) (t : Seen1) : Bool := (decide (f.low ≤ t.a) && decide (t.a ≤ f.high)) && decide (pressKey f t.a t.b.c = t.c)
def doesFit (f : Fld) (l : List Seen1) : Bool := l.all (fits1 f)
theorem fit_test {f : Fld} {y : Seen1} : (!isBetween (Enc.enc y.a) f.low f.high || !decide (pressKey f y.a y.b.c = y.c)) = !fits1 f y := by
  show (!(decide (f.low ≤ y.a) && decide (y.a ≤ f.high)) || _) = _
  unfold fits1
  simp only [Bool.not_and]
theorem fit_no {f : Fld} {l : List Seen1} {y : Seen1} (hm : y ∈ l) (h : (!isBetween (Enc.enc y.a) f.low f.high || !decide (pressKey f y.a y.b.c = y.c)) = true) : false = doesFit f l := by
  rw [fit_test, Bool.not_eq_true'] at h
  symm
  rw [← Bool.not_eq_true]
  intro z
  have := List.all_eq_true.mp z y hm
  rw [h] at this
  cases this
theorem fit_snoc {f : Fld} {pre : List Seen1} {y : Seen1} (hp : ∀ x ∈ pre, fits1 f x = true) (h : (!isBetween (Enc.enc y.a) f.low f.high || !decide (pressKey f y.a y.b.c = y.c)) = false) : ∀ x ∈ pre ++ [y], fits1 f x = true := by
  rw [fit_test, Bool.not_eq_false'] at h
  intro x hx
  rcases List.mem_append.mp hx with z | z
  · exact hp x z
  · rw [List.mem_singleton.mp z]
    exact h
theorem fit_yes {f : Fld} {l : List Seen1} (hp : ∀ x ∈ l, fits1 f x = true) : true = doesFit f l := (List.all_eq_true.mpr hp).symm
abbrev Man := Tri Str Str Int
abbrev OFFS3 : List Str := ["add", "near", "next"]
abbrev ENDS3 : List Str := ["round", "stay", "stop"]
def withMan (f : Fld) (m : Man) : Fld := Fld.mk f.low f.high f.step f.base m.a m.b m.c
def mans (f : Fld) (l : List Seen1) (o e : Str) : List Man := ((rng 2 11).map fun g => Tri.mk o e g).filter fun m => doesFit (withMan f m) l
def mannersFor (f : Fld) (l : List Seen1) : List Man := OFFS3.flatMap fun o => ENDS3.flatMap fun e => mans f l o e
theorem mans_len {f : Fld} {l : List Seen1} {o e : Str} : (mans f l o e).length ≤ 11 := by
  have := List.length_filter_le (fun m : Man => doesFit (withMan f m) l) ((rng 2 11).map fun g => Tri.mk o e g)
  rw [List.length_map, rng_len] at this
  exact this
theorem man33 {f : Fld} {l : List Seen1} (o : Str) : (ENDS3.flatMap fun e => mans f l o e).length ≤ 33 := by
  simp only [List.flatMap_cons, List.flatMap_nil, List.length_append, List.length_nil]
  have h1 := mans_len (f := f) (l := l) (o := o) (e := "round")
  have h2 := mans_len (f := f) (l := l) (o := o) (e := "stay")
  have h3 := mans_len (f := f) (l := l) (o := o) (e := "stop")
  omega
/-! ### values that stand for all -/
def half (f : Fld) : Int := (f.step + 1) / 2
def rests0 (f : Fld) : List Int := [0, 1, half f - 1, half f, half f + 1, f.step - 1]
def restsE (f : Fld) (e : Int) : List Int := ([-1, 0, 1] : List Int).map fun m => (e - f.base) % f.step + m
def restsAll (f : Fld) : List Int := rests0 f ++ [f.low, f.high].flatMap (restsE f)
def restsOf (f : Fld) : List Int := sortU ((restsAll f).map fun r => r % f.step)
theorem restsAll_len {f : Fld} : (restsAll f).length = 12 := rfl
theorem restsOf_len {f : Fld} : (restsOf f).length ≤ 12 := by
  have := sortU_len (xs := (restsAll f).map fun r => r % f.step)
  rw [List.length_map, restsAll_len] at this
  exact this
def mid (f : Fld) : Int := (f.low + f.high) / 2
def placeOf (f : Fld) (c : Int) : Int := (c - f.base) / f.step
def nearOf (f : Fld) (many c : Int) : Int := if c = mid f then 1 else many + 2
def rowAt (f : Fld) (i : Int) : List Int := (restsOf f).map fun r => f.base + i * f.step + r
def blockAt (f : Fld) (many c : Int) : List Int := (rng (placeOf f c - nearOf f many c) (2 * nearOf f many c + 1).toNat).flatMap (rowAt f)
def spots0 (f : Fld) : List Int := [f.low, f.low + 1, f.high - 1, f.high]
def spots (f : Fld) (many : Int) : List Int := spots0 f ++ [f.low, mid f, f.high].flatMap (blockAt f many)
def insideB (f : Fld) (v : Int) : Bool := decide (f.low ≤ v) && decide (v ≤ f.high)
def valuesOf (f : Fld) (many : Int) : List Int := if f.high - f.low ≤ 400 then rng f.low (f.high + 1 - f.low).toNat else sortU ((spots f many).filter (insideB f))
theorem flat_len {α β : Type} {g : α → List β} {n : Nat} : ∀ {l : List α}, (∀ x ∈ l, (g x).length ≤ n) → (l.flatMap g).length ≤ n * l.length
  | [], _ => Nat.zero_le _
  | x :: r, h => by
    have h1 := h x (List.mem_cons_self ..)
    have h2 := flat_len (l := r) fun y hy => h y (List.mem_cons_of_mem _ hy)
    rw [List.flatMap_cons, List.length_append, List.length_cons, Nat.mul_succ]
    omega
theorem row_len {f : Fld} {i : Int} : (rowAt f i).length ≤ 12 := by
  unfold rowAt
  rw [List.length_map]
  exact restsOf_len
theorem block_len {f : Fld} {many c : Int} (h : 0 ≤ many ∧ many ≤ 79) : (blockAt f many c).length ≤ 1956 ∧ (c = mid f → (blockAt f many c).length ≤ 36) := by
  have h1 := flat_len (g := rowAt f) (n := 12) (l := rng (placeOf f c - nearOf f many c) (2 * nearOf f many c + 1).toNat) fun x _ => row_len
  rw [rng_len] at h1
  have hn : 1 ≤ nearOf f many c ∧ nearOf f many c ≤ 81 ∧ (c = mid f → nearOf f many c = 1) := by
    unfold nearOf
    split
    · exact ⟨by omega, by omega, fun _ => rfl⟩
    · next g => exact ⟨by omega, by omega, fun z => absurd z g⟩
  unfold blockAt
  exact ⟨by omega, fun e => by have := hn.2.2 e; omega⟩
theorem spots_len {f : Fld} {many : Int} (h : 0 ≤ many ∧ many ≤ 79) : (spots f many).length ≤ 4000 := by
  have a := (block_len (f := f) (c := f.low) h).1
  have b := (block_len (f := f) (c := mid f) h).2 rfl
  have c := (block_len (f := f) (c := f.high) h).1
  unfold spots spots0
  simp only [List.flatMap_cons, List.flatMap_nil, List.length_append, List.length_cons, List.length_nil]
  omega
theorem values_len {f : Fld} {many : Int} (h : f.high - f.low ≤ 400 ∨ (0 ≤ many ∧ many ≤ 79)) : (valuesOf f many).length ≤ 4000 := by
  unfold valuesOf
  split
  · rw [rng_len]
    omega
  · have h1 := sortU_len (xs := (spots f many).filter (insideB f))
    have h2 := List.length_filter_le (insideB f) (spots f many)
    have h3 := spots_len (f := f) (many := many) (by omega)
    omega
theorem values_len2 {f : Fld} {many : Int} (h : f.high - f.low ≤ 400 ∨ (0 ≤ many ∧ many ≤ 14)) : (valuesOf f many).length ≤ 900 := by
  unfold valuesOf
  split
  · rw [rng_len]
    omega
  · have h1 := sortU_len (xs := (spots f many).filter (insideB f))
    have h2 := List.length_filter_le (insideB f) (spots f many)
    have g : ∀ c, (blockAt f many c).length ≤ 396 := fun c => by
      have k := flat_len (g := rowAt f) (n := 12) (l := rng (placeOf f c - nearOf f many c) (2 * nearOf f many c + 1).toNat) fun x _ => row_len
      rw [rng_len] at k
      have hn : 1 ≤ nearOf f many c ∧ nearOf f many c ≤ 16 := by
        unfold nearOf
        split <;> omega
      unfold blockAt
      omega
    have a := g f.low
    have b := (block_len (f := f) (many := many) (c := mid f) (by omega)).2 rfl
    have c := g f.high
    have h3 : (spots f many).length ≤ 900 := by
      unfold spots spots0
      simp only [List.flatMap_cons, List.flatMap_nil, List.length_append, List.length_cons, List.length_nil]
      omega
    omega
theorem values_in {f : Fld} {many v : Int} (h : v ∈ valuesOf f many) : f.low ≤ v ∧ v ≤ f.high := by
  unfold valuesOf at h
  split at h
  · have := rng_mem.mp h
    omega
  · have := (List.mem_filter.mp (sortU_mem.mp h)).2
    unfold insideB at this
    simp only [Bool.and_eq_true, decide_eq_true_eq] at this
    exact this
/-- small fields: all values -/
theorem values_all {f : Fld} {many v : Int} (hs : f.high - f.low ≤ 400) : v ∈ valuesOf f many ↔ f.low ≤ v ∧ v ≤ f.high := by
  unfold valuesOf
  rw [if_pos hs, rng_mem]
  omega
theorem flat_pre {α β : Type} {l pre post : List α} {y : α} {g : α → List β} {n m : Nat} (hx : l = pre ++ y :: post) (hl : l.length ≤ m) (hg : ∀ x, (g x).length ≤ n) : (pre.flatMap g).length ≤ n * m := by
  have h1 := flat_len (g := g) (n := n) (l := pre) fun x _ => hg x
  have h2 := congrArg List.length hx
  rw [List.length_append, List.length_cons] at h2
  exact Nat.le_trans h1 (Nat.mul_le_mul_left n (by omega))
theorem block_eq {f : Fld} {many y place near : Int} (dp : place = (y - f.base) / f.step) (dn : near = if (!decide (y = ((f.low + f.high) / 2))) = true then (many + 2) else 1) : (rng (place - near) (((place + near) + 1) - (place - near) : Int).toNat).flatMap (rowAt f) = blockAt f many y := by
  have en : near = nearOf f many y := by
    rw [dn]
    unfold nearOf mid
    by_cases h : y = (f.low + f.high) / 2
    · rw [decide_eq_true h, if_pos h]
      rfl
    · rw [decide_eq_false h, if_neg h]
      rfl
  unfold blockAt placeOf
  rw [← dp, ← en, show place + near + 1 - (place - near) = 2 * near + 1 by omega]
theorem div_abs {x s : Int} (hs : 1 ≤ s) : (0 ≤ x → 0 ≤ x / s ∧ x / s ≤ x) ∧ (x ≤ 0 → x ≤ x / s ∧ x / s ≤ 0) := by
  have a := div_le (x := x) (y := s) (by omega)
  constructor
  · intro h
    exact ⟨Int.ediv_nonneg h (by omega), Int.ediv_le_self _ h⟩
  · intro h
    refine ⟨(Int.le_ediv_iff_mul_le (by omega)).mpr ?_, ?_⟩
    · have h1 : x * s ≤ x * 1 := Int.mul_le_mul_of_nonpos_left h hs
      omega
    · have h1 : x / s < 1 := (Int.ediv_lt_iff_lt_mul (by omega)).mpr (by omega)
      omega
/-! ### the first value and key at which two fields part -/
abbrev keys6 : List Sg := sgs "udUDhe"
def sameAt (one other : Fld) (v : Int) (k : Sg) : Prop := pressKey one v k.c = pressKey other v k.c
instance (one other : Fld) (v : Int) (k : Sg) : Decidable (sameAt one other v k) := by unfold sameAt; infer_instance
def firstKey (one other : Fld) (v : Int) : List Sg → Option Sg
  | [] => none
  | k :: r => if sameAt one other v k then firstKey one other v r else some k
def firstVal (one other : Fld) : List Int → Option (Int × Sg)
  | [] => none
  | v :: r => match firstKey one other v keys6 with
    | some k => some (v, k)
    | none => firstVal one other r
theorem firstKey_none {one other : Fld} {v : Int} : ∀ {ks : List Sg}, firstKey one other v ks = none ↔ ∀ k ∈ ks, sameAt one other v k
  | [] => ⟨fun _ _ h => (nomatch h), fun _ => rfl⟩
  | k :: r => by
    unfold firstKey
    split
    · next h =>
      rw [firstKey_none (ks := r)]
      exact ⟨fun g x hx => (List.mem_cons.mp hx).elim (fun z => z ▸ h) (fun z => g x z), fun g x hx => g x (List.mem_cons_of_mem _ hx)⟩
    · next h => exact ⟨fun z => (nomatch z), fun g => absurd (g k (List.mem_cons_self ..)) h⟩
theorem firstKey_at {one other : Fld} {v : Int} {k : Sg} {b : List Sg} : ∀ {a : List Sg}, (∀ x ∈ a, sameAt one other v x) → ¬ sameAt one other v k → firstKey one other v (a ++ k :: b) = some k
  | [], _, h => by
    show (if sameAt one other v k then firstKey one other v b else some k) = _
    rw [if_neg h]
  | x :: a, ha, h => by
    show (if sameAt one other v x then firstKey one other v (a ++ k :: b) else some x) = _
    rw [if_pos (ha x (List.mem_cons_self ..))]
    exact firstKey_at (fun y hy => ha y (List.mem_cons_of_mem _ hy)) h
theorem firstVal_none {one other : Fld} : ∀ {vs : List Int}, firstVal one other vs = none ↔ ∀ v ∈ vs, ∀ k ∈ keys6, sameAt one other v k
  | [] => ⟨fun _ _ h => (nomatch h), fun _ => rfl⟩
  | v :: r => by
    unfold firstVal
    split
    · next k h =>
      constructor
      · intro z
        cases z
      · intro g
        have := firstKey_none.mpr (g v (List.mem_cons_self ..))
        rw [h] at this
        cases this
    · next h =>
      rw [firstVal_none (vs := r)]
      have h1 := firstKey_none.mp h
      exact ⟨fun g x hx => (List.mem_cons.mp hx).elim (fun z => z ▸ h1) (fun z => g x z), fun g x hx => g x (List.mem_cons_of_mem _ hx)⟩
theorem firstVal_at {one other : Fld} {v : Int} {k : Sg} {b : List Int} (hk : firstKey one other v keys6 = some k) : ∀ {a : List Int}, (∀ x ∈ a, ∀ k ∈ keys6, sameAt one other x k) → firstVal one other (a ++ v :: b) = some (v, k)
  | [], _ => by
    show (match firstKey one other v keys6 with | some k => some (v, k) | none => firstVal one other b) = _
    rw [hk]
  | x :: a, ha => by
    show (match firstKey one other x keys6 with | some k => some (x, k) | none => firstVal one other (a ++ v :: b)) = _
    rw [firstKey_none.mpr (ha x (List.mem_cons_self ..))]
    exact firstVal_at hk fun y hy => ha y (List.mem_cons_of_mem _ hy)
theorem firstKey_some {one other : Fld} {v : Int} {k : Sg} : ∀ {ks : List Sg}, firstKey one other v ks = some k → k ∈ ks ∧ ¬ sameAt one other v k
  | [], h => nomatch h
  | x :: r, h => by
    unfold firstKey at h
    split at h
    · obtain ⟨a, b⟩ := firstKey_some (ks := r) h
      exact ⟨List.mem_cons_of_mem _ a, b⟩
    · next hx =>
      cases h
      exact ⟨List.mem_cons_self .., hx⟩
theorem firstVal_some {one other : Fld} {p : Int × Sg} : ∀ {vs : List Int}, firstVal one other vs = some p → p.1 ∈ vs ∧ firstKey one other p.1 keys6 = some p.2
  | [], h => nomatch h
  | v :: r, h => by
    unfold firstVal at h
    split at h
    · next k hk =>
      cases h
      exact ⟨List.mem_cons_self .., hk⟩
    · obtain ⟨a, b⟩ := firstVal_some (vs := r) h
      exact ⟨List.mem_cons_of_mem _ a, b⟩
theorem sameAt_symm {one other : Fld} {v : Int} {k : Sg} : sameAt one other v k ↔ sameAt other one v k := ⟨Eq.symm, Eq.symm⟩
theorem firstKey_symm {one other : Fld} {v : Int} : ∀ {ks : List Sg}, firstKey one other v ks = firstKey other one v ks
  | [] => rfl
  | k :: r => by
    unfold firstKey
    simp only [sameAt_symm (one := one), firstKey_symm (ks := r)]
theorem firstVal_symm {one other : Fld} : ∀ {vs : List Int}, firstVal one other vs = firstVal other one vs
  | [] => rfl
  | v :: r => by
    unfold firstVal
    rw [firstKey_symm, firstVal_symm (vs := r)]
def partSpots (one other : Fld) : List Int := sortU (valuesOf one (one.big + 1) ++ valuesOf other (other.big + 1))
def partOf (one other : Fld) : Option (Int × Sg) := firstVal one other (partSpots one other)
theorem partOf_symm {one other : Fld} : partOf one other = partOf other one := by
  have e : partSpots one other = partSpots other one := sortU_congr fun z => by
    simp only [List.mem_append]
    exact or_comm
  unfold partOf
  rw [firstVal_symm, e]
theorem part_go1 {one other : Fld} {v : Int} {k : Sg} {kpre kpost : List Sg} {vs vpre vpost : List Int} (hk : keys6 = kpre ++ k :: kpost) (hv : vs = vpre ++ v :: vpost) (h1 : ∀ x ∈ vpre, ∀ k ∈ keys6, sameAt one other x k) (h2 : ∀ x ∈ kpre, sameAt one other v x) (h3 : ¬ sameAt one other v k) : some (v, k) = firstVal one other vs := by
  rw [hv]
  refine (firstVal_at ?_ h1).symm
  rw [hk]
  exact firstKey_at h2 h3
/-! ### small fields -/
theorem partSpots_all {one other : Fld} {v : Int} (hs : one.high - one.low ≤ 400) (hl : other.low = one.low) (hh : other.high = one.high) : v ∈ partSpots one other ↔ one.low ≤ v ∧ v ≤ one.high := by
  unfold partSpots
  rw [sortU_mem, List.mem_append, values_all hs, values_all (by rw [hl, hh]; exact hs), hl, hh, or_self]
theorem partSpots_rng {one other : Fld} (hs : one.high - one.low ≤ 400) (hl : other.low = one.low) (hh : other.high = one.high) : partSpots one other = rng one.low (one.high + 1 - one.low).toNat := by
  refine pw_eq sortU_pw ?_ fun z => ?_
  · unfold rng
    rw [List.pairwise_map]
    refine List.Pairwise.imp ?_ List.pairwise_lt_range
    intro a b h
    omega
  · refine (partSpots_all (v := z) hs hl hh).trans ?_
    rw [rng_mem]
    omega
/-! ### rows -/
def partHere (f : Fld) (a b : List Nat) : Option Int := (valuesOf f (max (a.length : Int) (b.length : Int) * f.big)).find? fun v => !decide (pressRow f v a = pressRow f v b)
theorem find_at {α : Type} {p : α → Bool} {x : α} {b : List α} : ∀ {a : List α}, (∀ y ∈ a, p y = false) → p x = true → (a ++ x :: b).find? p = some x
  | [], _, h => by rw [List.nil_append, List.find?_cons_of_pos h]
  | y :: a, ha, h => by
    rw [List.cons_append, List.find?_cons_of_neg (by rw [ha y (List.mem_cons_self ..)]; exact Bool.false_ne_true)]
    exact find_at (fun z hz => ha z (List.mem_cons_of_mem _ hz)) h
/-! ### a near field -/
theorem encT {ds : List PyData} : (Enc.enc (Tpl.mk ds) : PyData) = .tuple ds := by
  show PyData.tuple (ds.map id) = _
  rw [List.map_id]
def NearDs (f : Fld) (ds : List PyData) : Prop := ds.length = 7 ∧ ds[0]? = some (.int f.low) ∧ ds[1]? = some (.int f.high)
theorem near_set {f : Fld} {ds : List PyData} {k : Nat} {x : PyData} (h : NearDs f ds) (hk : 2 ≤ k) : NearDs f (ds.set k x) := by
  obtain ⟨h1, h2, h3⟩ := h
  refine ⟨by rw [List.length_set]; exact h1, ?_, ?_⟩
  · rw [List.getElem?_set_ne (by omega)]
    exact h2
  · rw [List.getElem?_set_ne (by omega)]
    exact h3
theorem near_0 {f : Fld} : NearDs f f.ds := ⟨rfl, rfl, rfl⟩
theorem near_ix {f : Fld} {ds : List PyData} {k : Nat} (h : NearDs f ds) (hk : k < 7) : L2.ixN ds.length (k : Int) = some k := by
  rw [h.1]
  unfold L2.ixN
  rw [if_pos (by omega), if_pos (by omega)]
  simp
/-- what a near field keeps -/
structure NearPost (f z : Fld) : Prop where
  ok : FOk z
  low : z.low = f.low
  high : z.high = f.high
theorem near_post {f : Fld} {ds : List PyData} (hf : FOk f) (h : NearDs f ds) : NearPost f (if isField (Enc.enc (Tpl.mk ds)) = true then fldOf ds else f) := by
  split
  · next z =>
    rw [encT] at z
    obtain ⟨k1, k2⟩ := fldOf_ok z
    obtain ⟨h1, h2, h3⟩ := h
    rw [k2] at h2 h3
    have e2 : PyData.int (fldOf ds).low = .int f.low := Option.some.inj h2
    have e3 : PyData.int (fldOf ds).high = .int f.high := Option.some.inj h3
    injection e2 with e2
    injection e3 with e3
    exact ⟨fokB_ok k1, e2, e3⟩
  · exact ⟨hf, rfl, rfl⟩
/-! ### rows with a key left out, put in -/
theorem cutS_list {z : Str} {lo hi : Option Int} : (cutS z lo hi).cps.toList = (z.cps.toList.drop (HT.sIx z.length 0 lo)).take (HT.sIx z.length z.length hi - HT.sIx z.length 0 lo) := by
  unfold cutS
  simp
theorem sIx_some {n d : Nat} {i : Int} (h : 0 ≤ i) : HT.sIx n d (some i) = min i.toNat n := by
  unfold HT.sIx
  simp only []
  split <;> omega
theorem cut_to {z : Str} {i : Int} (h : 0 ≤ i) : (cutS z none (some i)).cps.toList = z.cps.toList.take i.toNat := by
  rw [cutS_list, sIx_some h]
  show (z.cps.toList.drop 0).take (min i.toNat z.length - 0) = _
  rw [List.drop_zero, Nat.sub_zero, lenL, ← List.take_eq_take_min]
theorem cut_from {z : Str} {i : Int} (h : 0 ≤ i) : (cutS z (some i) none).cps.toList = z.cps.toList.drop i.toNat := by
  rw [cutS_list, sIx_some h]
  show (z.cps.toList.drop (min i.toNat z.length)).take (z.length - min i.toNat z.length) = _
  rw [lenL]
  by_cases c : i.toNat ≤ z.cps.toList.length
  · rw [Nat.min_eq_left c, List.take_of_length_le (by rw [List.length_drop]; omega)]
  · rw [Nat.min_eq_right (by omega), List.drop_eq_nil_of_le (Nat.le_refl _), List.drop_eq_nil_of_le (by omega), List.take_nil]
def without (z : Str) (i : Int) : Str := cutS z none (some i) ++ cutS z (some (i + 1)) none
theorem without_list {z : Str} {i : Int} (h : 0 ≤ i) : (without z i).cps.toList = z.cps.toList.take i.toNat ++ z.cps.toList.drop (i.toNat + 1) := by
  unfold without
  rw [catL, cut_to h, cut_from (by omega), show (i + 1).toNat = i.toNat + 1 by omega]
theorem without_ok {z : Str} {i : Int} (h : 0 ≤ i) (hz : rowOk z) : rowOk (without z i) := by
  unfold rowOk
  rw [without_list h]
  refine ⟨?_, fun c hc => ?_⟩
  · rw [List.length_append, List.length_take, List.length_drop]
    have := hz.1
    omega
  · rcases List.mem_append.mp hc with k | k
    · exact hz.2 c (List.mem_of_mem_take k)
    · exact hz.2 c (List.mem_of_mem_drop k)
theorem row_len40 {z : Str} (h : rowOk z) : z.length ≤ 40 := by
  rw [lenL]
  exact h.1
theorem cat_ok {x y : Str} (hx : ∀ c ∈ x.cps.toList, isKey c) (hy : ∀ c ∈ y.cps.toList, isKey c) (h : x.length + y.length ≤ 40) : rowOk (x ++ y) := by
  unfold rowOk
  rw [catL]
  refine ⟨by rw [List.length_append, ← lenL, ← lenL]; exact h, fun c hc => ?_⟩
  rcases List.mem_append.mp hc with k | k
  · exact hx c k
  · exact hy c k
theorem lenCat {x y : Str} : (x ++ y).length = x.length + y.length := by
  rw [lenL, catL, List.length_append, ← lenL, ← lenL]
/-- rows may be compared -/
def RB (f : Fld) (n : Int) : Prop := f.high - f.low ≤ 400 ∨ n * f.big ≤ 79
def partRows (f : Fld) (a b : Str) : Option Int := partHere f a.cps.toList b.cps.toList
def idleKeys (f : Fld) (z : Str) : List Int := (rng 0 z.length).filter fun i => (partRows f z (without z i)).isNone
def fixedB (f : Fld) (z : Str) : Bool := (valuesOf f ((z.length : Int) * f.big)).any fun v => decide (pressRow f v z.cps.toList = v)
theorem cutS_le {z : Str} {lo hi : Option Int} : (cutS z lo hi).length ≤ z.length := by
  rw [lenL, cutS_list, List.length_take, List.length_drop, lenL]
  omega
theorem without_le {z : Str} {i : Int} (h : 0 ≤ i) : (without z i).length ≤ z.length := by
  rw [lenL, without_list h, List.length_append, List.length_take, List.length_drop, lenL]
  omega
theorem idle_rb {f : Fld} {z : Str} {i : Int} (h : 0 ≤ i) (hn : RB f (z.length : Int)) : RB f (max (z.length : Int) ((without z i).length : Int)) := by
  have := without_le (z := z) h
  rw [show max (z.length : Int) ((without z i).length : Int) = (z.length : Int) by omega]
  exact hn
theorem rng_0 {n : Nat} {i : Int} (h : i ∈ rng 0 n) : 0 ≤ i := (rng_mem.mp h).1
theorem here_some {f : Fld} {a b : Str} {v : Int} {l pre post : List Int} (hl : l = valuesOf f (max (a.length : Int) (b.length : Int) * f.big)) (hx : l = pre ++ v :: post) (hp : ∀ x ∈ pre, pressRow f x a.cps.toList = pressRow f x b.cps.toList) (h : (!decide (pressRow f v a.cps.toList = pressRow f v b.cps.toList)) = true) : some v = partRows f a b := by
  unfold partRows partHere
  rw [← lenL, ← lenL, ← hl, hx]
  exact (find_at (p := fun v => !decide (pressRow f v a.cps.toList = pressRow f v b.cps.toList)) (x := v) (fun y hy => by rw [decide_eq_true (hp y hy)]; rfl) h).symm
theorem here_none {f : Fld} {a b : Str} {l : List Int} (hl : l = valuesOf f (max (a.length : Int) (b.length : Int) * f.big)) (hp : ∀ x ∈ l, pressRow f x a.cps.toList = pressRow f x b.cps.toList) : none = partRows f a b := by
  unfold partRows partHere
  rw [← lenL, ← lenL, ← hl]
  symm
  rw [List.find?_eq_none]
  intro x hx
  rw [decide_eq_true (hp x hx)]
  exact Bool.false_ne_true
theorem partRows_none {f : Fld} {a b : Str} : partRows f a b = none ↔ ∀ v ∈ valuesOf f (max (a.length : Int) (b.length : Int) * f.big), pressRow f v a.cps.toList = pressRow f v b.cps.toList := by
  unfold partRows partHere
  rw [← lenL, ← lenL, List.find?_eq_none]
  constructor
  · intro h v hv
    have := h v hv
    simpa using this
  · intro h v hv
    rw [decide_eq_true (h v hv)]
    exact Bool.false_ne_true
theorem partRows_some {f : Fld} {a b : Str} {v : Int} (h : partRows f a b = some v) : v ∈ valuesOf f (max (a.length : Int) (b.length : Int) * f.big) ∧ pressRow f v a.cps.toList ≠ pressRow f v b.cps.toList := by
  unfold partRows partHere at h
  rw [← lenL, ← lenL] at h
  refine ⟨List.mem_of_find?_eq_some h, ?_⟩
  have := List.find?_some h
  simpa using this
/-! ### a list of drawn things is made, to be changed -/
theorem n_newL {α : Type} [Rep α] (K : PySem.W.Frag) {σ : L2.St} {H : Hp} {tA : TA} {u : TS} {D : Ends} {n m : Nat} {P : α → Prop} {s' : V → L2.St} (h : ENs K tA σ H m P) (hm : m ≤ 100000) (s : ∀ v, SetAt σ n v (s' v)) (g : ∀ l, (s' (.ref l))[n]? = some (some (.ref l)))
    (k : ∀ (xs : List α) l ws H1, xs.length = m → (∀ x ∈ xs, P x) → H l = none → Ex H H1 → H1 l = some (MutO l ws) → rels K H1 ws xs → u D (s' (.ref l)) H1) : tSeq (tAsg (tLst tA) (gName n)) (tClose n u) D σ H :=
  h H (Ex.refl H) _ fun xs vs H1 hl hp e rs => ⟨by rw [rels_len rs, hl]; exact sz_of hm, fun p hq => by
    show tClose n u D (σ.set n (some (.ref p))) (upd H1 p (.lst vs))
    rw [(s _).eq]
    refine ⟨p, vs, g p, upd_same, ?_⟩
    rw [upd_upd]
    exact k xs p vs _ hl hp (fresh_back e hq) (e.trans (Ex.new hq)) upd_same (rels_mono (Ex.new hq) rs)⟩
theorem atI_last {α : Type} {xs : List α} {d : α} (h : 1 ≤ xs.length) : atI xs (-1) = some (xs.getD (xs.length - 1) d) := by
  unfold atI
  have e : L2.ixN xs.length (-1) = some (xs.length - 1) := by
    unfold L2.ixN
    rw [if_neg (by omega), if_pos (by omega)]
    congr 1
    omega
  rw [e]
  show xs[xs.length - 1]? = _
  rw [List.getD_eq_getElem?_getD, List.getElem?_eq_getElem (by omega)]
  rfl
theorem ixN_last {α : Type} {xs : List α} (h : 1 ≤ xs.length) : L2.ixN xs.length (-1) = some (xs.length - 1) := by
  unfold L2.ixN
  rw [if_neg (by omega), if_pos (by omega)]
  congr 1
  omega
theorem getD_mem {α : Type} {xs : List α} {i : Nat} {d : α} (h : i < xs.length) : xs.getD i d ∈ xs := by
  rw [List.getD_eq_getElem?_getD, List.getElem?_eq_getElem h]
  exact List.getElem_mem h
theorem nb_t {b : Bool} (h : (!b) = true) : b = false := by
  cases b
  · rfl
  · cases h
theorem nb_f {b : Bool} (h : (!b) = false) : b = true := by
  cases b
  · cases h
  · rfl
theorem n_setL {α : Type} [Rep α] (K : PySem.W.Frag) {σ : L2.St} {H : Hp} {tA : TA} {u : TS} {D : Ends} {n m : Nat} {P : α → Prop} {s' : V → L2.St} (h : ENs K tA σ H m P) (hm : m ≤ 100000) (s : ∀ v, SetAt σ n v (s' v))
    (k : ∀ (xs : List α) v H1, xs.length = m → (∀ x ∈ xs, P x) → Ex H H1 → Rep.rel K H1 v xs → u D (s' v) H1) : tSeq (tAsg (tLst tA) (gName n)) u D σ H :=
  h H (Ex.refl H) _ fun xs vs H1 hl hp e rs => ⟨by rw [rels_len rs, hl]; exact sz_of hm, fun p hq => by
    show u D (σ.set n (some (.ref p))) (upd H1 p (.lst vs))
    rw [(s _).eq]
    exact k xs (.ref p) _ hl hp (e.trans (Ex.new hq)) ⟨p, vs, rfl, upd_same, rels_mono (Ex.new hq) rs⟩⟩
section
variable {α β γ : Type} [Rep α] [Rep β] [Rep γ] {K : PySem.W.Frag} {σ : L2.St} {H : Hp} {te tb : TE} {tl th : TO} {r : V → Option Int → Option Int → Hp → VK → Prop} {P1 : α → Prop} {P2 : β → Prop} {P : γ → Prop}
theorem en_slV (ha : EN K te σ H P1) (h : ∀ x v H1, Ex H H1 → P1 x → Rep.rel K H1 v x → EN K (tSl r (tC v) tl th) σ H1 P) : EN K (tSl r te tl th) σ H P := fun H1 e Q q =>
  ha H1 e _ fun x v H2 p1 e2 r1 => h x v H2 (e.trans e2) p1 r1 H2 (Ex.refl _) Q fun z v' H4 p e4 r4 => q z v' H4 p (e2.trans e4) r4
theorem en_slL (ha : EN K te σ H P1) (hb : EN K tb σ H P2) (h : ∀ x y v w H1, Ex H H1 → P1 x → P2 y → Rep.rel K H1 v x → Rep.rel K H1 w y → EN K (tSl r (tC v) (tPart (tC w)) th) σ H1 P) : EN K (tSl r te (tPart tb) th) σ H P := fun H1 e Q q =>
  ha H1 e _ fun x v H2 p1 e2 r1 => hb H2 (e.trans e2) _ fun y w H3 p2 e3 r2 => h x y v w H3 ((e.trans e2).trans e3) p1 p2 (Rep.mono e3 r1) r2 H3 (Ex.refl _) Q fun z v' H4 p e4 r4 => q z v' H4 p ((e2.trans e3).trans e4) r4
end
theorem cutS_mem {z : Str} {lo hi : Option Int} {c : Nat} (h : c ∈ (cutS z lo hi).cps.toList) : c ∈ z.cps.toList := by
  rw [cutS_list] at h
  exact List.mem_of_mem_drop (List.mem_of_mem_take h)
theorem tl_app {x y : Str} : (x ++ y).cps.toList = x.cps.toList ++ y.cps.toList := Array.toList_append
theorem paired_ex {α β : Type} {P : α → β → Prop} {as : List α} {bs : List β} (h : Paired P as bs) : ∀ b ∈ bs, ∃ a ∈ as, P a b := by
  induction h with
  | nil => exact fun _ h => nomatch h
  | cons r _ ih =>
    intro b hb
    rcases List.mem_cons.mp hb with z | z
    · subst z; exact ⟨_, List.mem_cons_self .., r⟩
    · obtain ⟨a, h1, h2⟩ := ih b z
      exact ⟨a, List.mem_cons_of_mem _ h1, h2⟩
theorem er_slL {α : Type} [Rep α] {K : PySem.W.Frag} {σ : L2.St} {H : Hp} {te : TE} {tl th : TO} {xs : List α} {lo hi : Option Int} (h : ER K te σ H xs) (hl : EO K tl σ H lo) (hh : EO K th σ H hi) : ER K (tSl (rSlL K) te tl th) σ H (cutL xs lo hi) := fun H1 e Q q =>
  h H1 e _ fun v H2 e2 r => hl H2 (e.trans e2) _ fun H3 e3 => hh H3 ((e.trans e2).trans e3) _ fun H4 e4 => by
    obtain ⟨a, vs, hv, hs, hr⟩ := Rep.mono (e3.trans e4) r
    exact ⟨a, vs, hv, sq_of hs, fun p hp => q (.ref p) _ (((e2.trans e3).trans e4).trans (Ex.new hp)) ⟨p, cutV vs lo hi, rfl, upd_same, rels_mono (Ex.new hp) (cutV_rels hr lo hi)⟩⟩
theorem cutL_to {α : Type} {xs : List α} {n : Nat} : cutL xs none (some (n : Int)) = xs.take n := by
  unfold cutL
  rw [sIx_some (by omega)]
  show (xs.drop 0).take (min (n : Int).toNat xs.length - 0) = _
  rw [List.drop_zero, Nat.sub_zero, show (n : Int).toNat = n by omega]
  exact List.take_eq_take_min.symm
theorem in_bls {b : Bool} {xs : List Bool} : inV (.bl b) (xs.map V.bl) = decide (b ∈ xs) := by
  unfold inV
  induction xs with
  | nil => rfl
  | cons x r ih =>
    rw [List.map_cons, List.any_cons, ih]
    show (x == b || _) = _
    rw [Bool.eq_iff_iff]
    simp only [Bool.or_eq_true, beq_iff_eq, decide_eq_true_eq, List.mem_cons]
    exact or_congr_left ⟨Eq.symm, Eq.symm⟩
theorem flat_bls {xs : List Bool} : (xs.map V.bl).all flatV = true := by
  rw [List.all_map]
  exact List.all_eq_true.mpr fun _ _ => rfl
theorem er_ninB {K : PySem.W.Frag} {σ : L2.St} {H : Hp} {ta tb : TE} {b : Bool} {xs : List Bool} (ha : ER K ta σ H b) (hb : ER K tb σ H xs) : ER K (tOp (rIn K true) ta tb) σ H (!decide (b ∈ xs)) := fun H1 e Q q =>
  ha H1 e _ fun v H2 e2 r => hb H2 (e.trans e2) _ fun w H3 e3 ⟨p, vs, hw, hs, hr⟩ => by
    cases r
    have h1 := rels_bls hr
    subst h1
    exact ⟨p, _, hw, .inl (sq_of hs), rfl, flat_bls, q _ H3 (e2.trans e3) (by rw [if_pos rfl, in_bls]; rfl)⟩
section
variable {α β : Type} [Rep α] [Rep β] {K : PySem.W.Frag} {σ : L2.St} {H : Hp} {te : TE} {tt : TT}
theorem el_lc [Imm β] [ImmX β] {wi : TI} {xs : List α} {vs : List Nat} {gt : TG} (f : α → Bool) (g : α → β) (h : Wk K wi σ H xs) (hz : xs.length ≤ 100000)
    (ht : ∀ x v H1, x ∈ xs → Ex H H1 → Rep.rel K H1 v x → ∀ Q : L2.St → Hp → Prop, (∀ σ2 H2, Ex H1 H2 → wipe σ2 vs = wipe σ vs → ET K tt σ2 H2 (f x) → (f x = true → ER K te σ2 H2 (g x)) → Q σ2 H2) → gt v (wipe σ vs) H1 Q) :
    EL K (tLc wi gt tt te vs) σ H ((xs.filter f).map g) := fun H0 e Q q => by
  refine h H0 e _ fun J H2 G Y e2 w hG hY => ?_
  intro Dl hD
  have hx0 : ∀ i x, xs[i]? = some x → xs.take (i + 1) = xs.take i ++ [x] := fun i x hx => by
    rw [List.take_add_one, hx]
    rfl
  refine lc_it w (fun i H' => Ex H2 H' ∧ ∃ ws, H' Dl = some (.lst ws) ∧ rels K H' ws (((xs.take i).filter f).map g)) ⟨Ex.new hD, [], upd_same, by rw [List.take_zero]; exact .nil⟩ (fun i H' _ p => hG H' p.1.y) (fun i v H' H'' hi p y => ?_) (fun H' p => ?_)
  · obtain ⟨p1, ws, p2, p3⟩ := p
    obtain ⟨e3, x, hx, r⟩ := hY i H' v H'' hi p1.y y
    have hm : x ∈ xs := List.mem_of_getElem? hx
    refine ht x v H'' hm ((e.trans e2).trans (p1.trans e3)) r _ fun σ2 H3 e4 hw t1 t2 => ⟨hw, ?_⟩
    refine t1 H3 (Ex.refl _) _ fun H4 e5 => ?_
    have hl : ws.length ≤ i := by
      rw [rels_len p3, List.length_map]
      exact Nat.le_trans (List.length_filter_le ..) (by rw [List.length_take]; omega)
    have p1' : Ex H2 H4 := ((p1.trans e3).trans e4).trans e5
    have p2' : H4 Dl = some (.lst ws) := e5 _ _ (e4 _ _ (e3 _ _ p2))
    cases hf : f x with
    | true =>
      show te σ2 H4 _
      refine t2 hf H4 e5 _ fun y H5 e6 ry => ⟨ws, e6 _ _ p2', sz_lt (by omega), Ex.mut (p1'.trans e6) hD, ws ++ [y], upd_same, ?_⟩
      have fin : rels K H5 (ws ++ [y]) (((xs.take (i + 1)).filter f).map g) := by
        rw [hx0 i x hx, List.filter_append, List.map_append, List.filter_cons, if_pos hf]
        exact rels_snoc (rels_mono ((((e3.trans e4).trans e5)).trans e6) p3) ry
      exact rels_imm (e6 _ _ p2') fin
    | false =>
      show Ex H2 H4 ∧ _
      refine ⟨p1', ws, p2', ?_⟩
      rw [hx0 i x hx, List.filter_append, List.map_append, List.filter_cons, if_neg (by rw [hf]; decide)]
      show rels K H4 ws (_ ++ [])
      rw [List.append_nil]
      exact rels_mono ((e3.trans e4).trans e5) p3
  · obtain ⟨p1, ws, p2, p3⟩ := p
    rw [List.take_length] at p3
    exact q Dl ws H' (fresh_back e2 hD) (e2.trans p1) p2 (Paired.mapP p3 fun _ _ => ImmX.imm p2)
theorem el_lcY [Imm β] [ImmX β] {wi : TI} {xs : List α} {vs : List Nat} {gt : TG} (g : α → β) (h : Wk K wi σ H xs) (hz : xs.length ≤ 100000)
    (ht : ∀ x v H1, x ∈ xs → Ex H H1 → Rep.rel K H1 v x → ∀ Q : L2.St → Hp → Prop, (∀ σ2 H2, Ex H1 H2 → wipe σ2 vs = wipe σ vs → ER K te σ2 H2 (g x) → Q σ2 H2) → gt v (wipe σ vs) H1 Q) :
    EL K (tLc wi gt tYes te vs) σ H (xs.map g) := by
  have z := el_lc (tt := tYes) (te := te) (vs := vs) (gt := gt) (fun _ => true) g h hz fun x v H1 hx e r Q q => ht x v H1 hx e r Q fun σ2 H2 e2 hw t2 => q σ2 H2 e2 hw (fun H3 _ Q' q' => q' H3 (Ex.refl _)) (fun _ => t2)
  have ef : xs.filter (fun _ => true) = xs := List.filter_eq_self.mpr fun _ _ => rfl
  rw [ef] at z
  exact z
end
theorem etn_isNo {α : Type} [Rep α] [NN α] {K : PySem.W.Frag} {σ : L2.St} {H : Hp} {ta : TE} {P : Option α → Prop} (h : EN K ta σ H P) (hp : ∀ x, P x → x.isNone = false) : ETN K (tTest (tOp rIsN ta (tC .non))) σ H (fun b => b = false) := fun H1 e Q q =>
  h H1 e _ fun x v H2 p e2 r => (et_t (er_isNone (er_c (x := x) r)) : ET K (tTest (tOp rIsN (tC v) (tC .non))) σ H2 x.isNone) H2 (Ex.refl _) Q fun H3 e3 => q _ H3 (hp x p) (e2.trans e3)
end Sf

namespace Sf
open PySem PySem.Spec PyProof.Rows L2 Evl
/-! ### a text backwards -/
def revS (z : Str) : Str := ⟨z.cps.toList.reverse.toArray⟩
theorem revS_tl {z : Str} : (revS z).cps.toList = z.cps.toList.reverse := by simp [revS]
theorem revS_len {z : Str} : (revS z).length = z.length := by rw [lenL, lenL, revS_tl, List.length_reverse]
def tRevS (te ts : TE) : TE := fun σ H Q => te σ H fun x H1 => ts σ H1 fun y H2 => ∃ z : Str, x = .str z ∧ y = .int (-1) ∧ z.length ≤ 100000 ∧ Q (.str (revS z)) H2
theorem picked_revS (z : Str) : (⟨((Builtin.Str.strSliceIndices none none (-1) z.length).filterMap (z.cps[·]?)).toArray⟩ : Str) = revS z := by
  rw [PyProof.Rows.picked_rev, PySem.W.krv_range, List.filterMap_reverse]
  unfold revS
  rw [show (List.range z.length).filterMap (z.cps[·]?) = z.cps.toList from PySem.W.krv_all z.cps]
theorem pe_revS {X : Cx} {e st : Expr} {te ts : TE} {p2 pos : Pos} (he : PE X e te) (hs : PE X st ts) : PE X (.Subscript e (.Slice none none (some st) p2) pos) (tRevS te ts) := by
  refine ⟨fun pins s σ H Q I h => ?_⟩
  refine Subscript_ (thn (he.run pins s σ H _ I h) fun v s1 ⟨x, H1, I1, r1, q1⟩ => ?_)
  refine wpAny_Slice ?_
  rw [evalPart_none]
  refine wpAny_pure (wpAny_pure ?_)
  rw [evalPart_some]
  refine thn (hs.run pins s1 σ H1 _ I1 q1) fun vs s3 ⟨y, H3, I3, ry, z, ex, ey, hz, q3⟩ => ?_
  subst ex
  subst ey
  obtain ⟨t, rfl⟩ := r1
  obtain ⟨tk, rfl⟩ := ry
  have I4 : Inv X pins σ H3 { s3 with heap := s3.heap.push { cls := .type "slice", data := .fields #[.none, .none, .int (-1) tk] } } := I3.kept (t' := s3.toks) fun b ob q => Heap.get?_push_of_some _ q
  refine tail_any (T := "str") (ops := [.ref s3.heap.objs.size, .str z t]) (typeIs_str _ _ _) F.slot_str_getitem.lookup ?_ (by with_unfolding_all rfl)
  refine wpAny_getItem_str_slice (l := none) (u := none) (st := some (-1, tk)) ⟨_, Heap.get?_push_size _ rfl, rfl, rfl⟩ rfl ?_
  have hz2 : (revS z).length ≤ sizeLine := by
    rw [revS_len]
    exact sz_of hz
  rw [← picked_revS] at hz2 q3
  show Made.post (Made.str ⟨((Builtin.Str.strSliceIndices none none (-1) z.length).filterMap (z.cps[·]?)).toArray⟩) (EP X pins σ Q) _
  exact ⟨hz2, .str _, H3, I4.tok _, ⟨_, rfl⟩, q3⟩
section
variable {α β : Type} [Rep α] [Rep β] {K : PySem.W.Frag} {σ : L2.St} {H : Hp} {ta tb te ts tk tv ty : TE} {trs : List (TE × TE)} {D : Ends} {u : TS} {n : Nat}
theorem er_revS {z : Str} (h : ER K te σ H z) (h2 : ER K ts σ H (-1 : Int)) (hz : z.length ≤ 100000) : ER K (tRevS te ts) σ H (revS z) := fun H1 e Q q => h H1 e _ fun v H2 e2 r => h2 H2 (e.trans e2) _ fun w H3 e3 r2 => by
  cases r
  cases r2
  exact ⟨z, rfl, rfl, hz, q _ H3 (e2.trans e3) rfl⟩
/-! ### a written dict of texts, kept in a variable -/
def EPg (K : PySem.W.Frag) (trs : List (TE × TE)) (σ : L2.St) (H : Hp) (ps : List (Str × Str)) : Prop := ∀ H1, Ex H H1 → ∀ Q : List (V × V) → Hp → Prop, (∀ H2, Ex H1 H2 → Q (ps.map fun p => (V.str p.1, V.str p.2)) H2) → tPairs trs σ H1 Q
theorem epg_nil : EPg K [] σ H [] := fun H1 _ _ q => q H1 (Ex.refl _)
theorem epg_cons {s i : Str} {ps : List (Str × Str)} (h : ER K tv σ H i) (hr : EPg K trs σ H ps) : EPg K ((tC (.str s), tv) :: trs) σ H ((s, i) :: ps) := fun H1 e Q q => by
  show tv σ H1 _
  exact h H1 e _ fun v H2 e2 r => by
    cases r
    exact hr H2 (e.trans e2) _ fun H3 e3 => q H3 (e2.trans e3)
def dOf (ps : List (Str × Str)) : List (Key × V) := mergeK [] (ps.map fun p => ((Sum.inr p.1 : Key), V.str p.2))
theorem q_dsp (K : PySem.W.Frag) {ps : List (Str × Str)} {s' : V → L2.St} (h : EPg K trs σ H ps) (hl : ps.length ≤ 15) (s : ∀ v, SetAt σ n v (s' v)) (k : ∀ l H1, H1 l = some (.dK (dOf ps)) → Ex H H1 → u D (s' (.ref l)) H1) : tSeq (tAsg (tDisp trs) (gName n)) u D σ H := by
  show ∀ p, H p = none → _
  intro p hp
  refine h _ (Ex.new hp) _ fun H2 e2 => ⟨e2 p _ upd_same, ps.map (fun p => ((Sum.inr p.1 : Key), V.str p.2)), ?_, by rw [List.length_map]; exact hl, ?_⟩
  · rw [List.map_map]
    rfl
  show u D (σ.set n (some (V.ref p))) _
  rw [(s (.ref p)).eq]
  exact k p _ upd_same (Ex.mut ((Ex.new hp).trans e2) hp)
theorem er_dgetV {l : Addr} {kvs : List (Key × V)} {s z : Str} (hs : σ[n]? = some (some (.ref l))) (m : H l = some (.dK kvs)) (hk : ER K ty σ H s) (hv : valV kvs (Sum.inr s) = some (.str z)) : ER K (tDGet (tVar n) ty) σ H z := fun H1 e Q q => by
  refine ⟨.ref l, hs, ?_⟩
  refine hk H1 e _ fun v H3 e3 r => ?_
  cases r
  exact ⟨l, .str z, rfl, hv ▸ DGet.k (k := Sum.inr s) (e3 l _ (e l _ m)), q _ H3 e3 rfl⟩
theorem er_gS {c : Nat} (h : ER K te σ H (⟨#[c]⟩ : Str)) : ER K te σ H (Sg.mk c) := fun H1 e Q q => h H1 e Q fun v H2 e2 r => q v H2 e2 r
end
/-! ### keys turned -/
def turnK (c : Nat) : Nat := if c = 117 then 100 else if c = 100 then 117 else if c = 85 then 68 else if c = 68 then 85 else if c = 104 then 101 else 104
abbrev turnD : List (Str × Str) := [("u", "d"), ("d", "u"), ("U", "D"), ("D", "U"), ("h", "e"), ("e", "h")]
theorem turn_val {c : Nat} (h : isKey c) : valV (dOf turnD) (Sum.inr (⟨#[c]⟩ : Str)) = some (.str ⟨#[turnK c]⟩) := by
  rcases h with z | z | z | z | z | z <;> (subst z; rfl)
theorem turn_key {c : Nat} (h : isKey c) : isKey (turnK c) := by
  rcases h with z | z | z | z | z | z <;> (subst z; unfold turnK isKey; decide)
def turnS (z : Str) : Str := unsg ((sgs z).map fun s => Sg.mk (turnK s.c))
theorem turnS_tl {z : Str} : (turnS z).cps.toList = z.cps.toList.map turnK := by
  unfold turnS sgs
  rw [unsg_codes, List.map_map, List.map_map]
  rfl
theorem turnS_len {z : Str} : (turnS z).length = z.length := by rw [lenL, lenL, turnS_tl, List.length_map]
theorem turnS_len2 {z : Str} : (unsg ((sgs z).map fun s => Sg.mk (turnK s.c))).length = z.length := turnS_len
theorem sgs_len {z : Str} : (sgs z).length = z.length := by
  rw [lenL]
  simp [sgs]
theorem sgs_mem {s : Sg} {z : Str} (h : s ∈ sgs z) : s.c ∈ z.cps.toList := by
  unfold sgs at h
  obtain ⟨c, hc, rfl⟩ := List.mem_map.mp h
  exact hc
theorem back_ok {z : Str} (h : rowOk z) : rowOk (revS (turnS z)) ∧ (revS (turnS z)).length = z.length := by
  refine ⟨⟨?_, ?_⟩, by rw [revS_len, turnS_len]⟩
  · rw [revS_tl, List.length_reverse, turnS_tl, List.length_map]
    exact h.1
  · intro c hc
    rw [revS_tl, List.mem_reverse, turnS_tl] at hc
    obtain ⟨d, hd, rfl⟩ := List.mem_map.mp hc
    exact turn_key (h.2 d hd)
/-! ### walking a list with drawn items -/
theorem wkn_list {α : Type} [Rep α] {K : PySem.W.Frag} {σ : L2.St} {H : Hp} {tl : TE} {P : List α → Prop} (h : EN K tl σ H P) : WkN K (iList K tl) σ H P := fun H1 e R k => h H1 e _ fun xs v H2 px e2 ⟨a, vs, hv, hs, hr⟩ => ⟨a, hv, ⟨vs, sq_of hs⟩, by
  refine k xs _ H2 _ _ px e2 (rels_len hr ▸ walk_list (xs := vs)) (fun H3 e3 => ey_l e3 (sq_of hs)) fun i Ha v Hb hi ea y => ?_
  obtain ⟨rfl, hy⟩ := y
  obtain ⟨x, h1, h2⟩ := rels_get hr hy
  exact ⟨Ex.refl _, x, h1, Rep.moY ea h2⟩⟩
end Sf

namespace Sf
open PySem PySem.Spec PyProof.Rows L2 Evl
section
variable {α β : Type} [Rep α] [Rep β] {K : PySem.W.Frag} {σ : L2.St} {H : Hp} {ta tb tc te ts : TE} {tl th : TO} {lo hi : Option Int} {i j c : Int}
theorem hu65 {k : Nat} {A : Around} (r : Room k A) : A.units + 65 < cLine := by have := r.un; omega
/-! ### data in a list of data -/
theorem any_eqv [Enc α] [DecidableEq α] [EqT α] {x : α} : ∀ {xs : List α}, ((xs.map Enc.enc).any fun z => PyData.eqv z (Enc.enc x)) = decide (x ∈ xs)
  | [] => by simp
  | y :: r => by
    rw [List.map_cons, List.any_cons, EqT.eqv, any_eqv (xs := r), Bool.eq_iff_iff]
    simp only [Bool.or_eq_true, decide_eq_true_eq, List.mem_cons]
    constructor
    · rintro (h | h)
      · exact .inl h.symm
      · exact .inr h
    · rintro (h | h)
      · exact .inl h.symm
      · exact .inr h
theorem shaped_one [Enc α] [DecidableEq α] [EqT α] {x : α} (gx : EqT.good x) (hd : EqT.dep α ≤ 63) : SeqAt.shaped (Enc.enc x) = true := by
  simp only [SeqAt.shaped, EqT.can gx, Bool.true_and, decide_eq_true_eq]
  exact Nat.le_trans (EqT.dle x) (Nat.le_trans hd (by decide))
theorem shaped_all [Enc α] [DecidableEq α] [EqT α] {xs : List α} (gy : ∀ y ∈ xs, EqT.good y) (hd : EqT.dep α ≤ 63) : SeqAt.shaped (.list (xs.map Enc.enc)) = true := by
  have h := shaped_one (α := List α) (x := xs) gy
  have h1 := EqT.can (α := List α) (x := xs) gy
  have h2 := EqT.dle (α := List α) xs
  have e : (Enc.enc xs : PyData) = .list (xs.map Enc.enc) := rfl
  rw [e] at h1 h2
  simp only [SeqAt.shaped, h1, Bool.true_and, decide_eq_true_eq]
  have e2 : EqT.dep (List α) = EqT.dep α + 1 := rfl
  omega
theorem er_inD [Enc α] [DecidableEq α] [EqT α] {x : α} {xs : List α} (ha : ER K ta σ H x) (hb : ER K tb σ H xs) (gx : EqT.good x) (gy : ∀ y ∈ xs, EqT.good y) (hd : EqT.dep α ≤ 63) : ER K (tOp (rInD K) ta tb) σ H (decide (x ∈ xs)) := fun H1 e Q q =>
  ha H1 e _ fun v H2 e2 r => hb H2 (e.trans e2) _ fun w H3 e3 r2 => ⟨Enc.enc x, xs.map Enc.enc, Enc.dp (Rep.mono e3 r), Enc.dp r2, shaped_one gx hd, shaped_all gy hd, q _ H3 (e2.trans e3) (by rw [any_eqv]; rfl)⟩
theorem er_notInD [Enc α] [DecidableEq α] [EqT α] {x : α} {xs : List α} (ha : ER K ta σ H x) (hb : ER K tb σ H xs) (gx : EqT.good x) (gy : ∀ y ∈ xs, EqT.good y) (hd : EqT.dep α ≤ 63) : ER K (tOp (rNotInD K) ta tb) σ H (!decide (x ∈ xs)) := fun H1 e Q q =>
  ha H1 e _ fun v H2 e2 r => hb H2 (e.trans e2) _ fun w H3 e3 r2 => ⟨Enc.enc x, xs.map Enc.enc, Enc.dp (Rep.mono e3 r), Enc.dp r2, shaped_one gx hd, shaped_all gy hd, q _ H3 (e2.trans e3) (by rw [any_eqv]; rfl)⟩
/-! ### range with a step, walked -/
theorem rgC_get {lo c : Int} {n k : Nat} (h : k < n) : (rgC lo c n)[k]? = some (lo + (k : Int) * c) := by
  unfold rgC
  rw [List.getElem?_map, List.getElem?_range h]
  rfl
theorem rgC_len {lo c : Int} {n : Nat} : (rgC lo c n).length = n := by simp [rgC]
theorem wk_rng3 (h : ER K ta σ H i) (h2 : ER K tb σ H j) (h3 : ER K tc σ H c) (hi : -(2 ^ 60) ≤ i ∧ i < 2 ^ 60) (hj : -(2 ^ 60) ≤ j ∧ j < 2 ^ 60) (hc : 0 < c) (hc2 : c < 1073741824) :
    Wk K (iRng3 (tCons ta (tCons tb (tCons tc tNil)))) σ H (rgC i c (if i < j then ((j - i - 1) / c + 1).toNat else 0)) := fun H1 e R k => h H1 e _ fun v H2 e2 r => h2 H2 (e.trans e2) _ fun v3 H3 e3 r3 => h3 H3 ((e.trans e2).trans e3) _ fun v4 H4 e4 r4 => by
  cases r
  cases r3
  cases r4
  refine ⟨i, j, c, _, rfl, rgC_ok hi hj hc hc2, k _ H4 _ _ ((e2.trans e3).trans e4) (by rw [rgC_len]; exact walk_rangeC) (fun _ _ => trivial) fun m Ha v Hb hm ea y => ?_⟩
  obtain ⟨rfl, rfl⟩ := y
  rw [rgC_len] at hm
  exact ⟨Ex.refl _, _, rgC_get hm, rfl⟩
/-! ### parts of tuples -/
theorem er_slTE {xs : Tpl α} (h : ER K te σ H xs) (hl : EO K tl σ H lo) (hh : EO K th σ H hi) (hn : ¬ (HT.sIx xs.l.length 0 lo = 0 ∧ HT.sIx xs.l.length xs.l.length hi = xs.l.length)) : ER K (tSl (rSlT K) te tl th) σ H (Tpl.mk (cutL xs.l lo hi)) := fun H1 e Q q =>
  h H1 e _ fun v H2 e2 ⟨a, vs, hv, hs, hr⟩ => hl H2 (e.trans e2) _ fun H3 e3 => hh H3 ((e.trans e2).trans e3) _ fun H4 e4 => ⟨a, vs, hv, ex_t (e3.trans e4) hs, by rw [rels_len hr]; exact hn, fun p hp => by
    have n := Ex.new (o := .tup (cutV vs lo hi)) hp
    exact q _ _ (((e2.trans e3).trans e4).trans n) ⟨p, _, rfl, st_of upd_same, rels_mono ((e3.trans e4).trans n) (cutV_rels hr lo hi)⟩⟩
theorem cutL_mem {xs : List α} {lo hi : Option Int} {x : α} (h : x ∈ cutL xs lo hi) : x ∈ xs := List.mem_of_mem_drop (List.mem_of_mem_take h)
theorem cutL_le {xs : List α} {lo hi : Option Int} : (cutL xs lo hi).length ≤ xs.length := by
  unfold cutL
  rw [List.length_take, List.length_drop]
  omega
theorem init_part {n : Nat} (h : 1 ≤ n) : ¬ (HT.sIx n 0 none = 0 ∧ HT.sIx n n (some (-1)) = n) := by
  unfold HT.sIx
  simp only [true_and]
  split <;> omega
end
end Sf

namespace Sf
open PySem PySem.Spec PyProof.Rows L2 Evl
/-! ### a text many times -/
def repS (z : Str) (k : Int) : Str := ⟨(List.replicate k.toNat z.cps.toList).flatten.toArray⟩
theorem repS_tl {z : Str} {k : Int} : (repS z k).cps.toList = (List.replicate k.toNat z.cps.toList).flatten := by simp [repS]
theorem repS_len {z : Str} {k : Int} : (repS z k).length = k.toNat * z.length := by
  rw [lenL, lenL, repS_tl, List.length_flatten, List.map_replicate, List.sum_replicate_nat]
theorem foldl_repS (l : List Nat) : ∀ (k : Nat) (acc : List Nat), List.foldl (fun x1 x2 => x1 ++ x2) acc.toArray (List.replicate k l.toArray) = (acc ++ (List.replicate k l).flatten).toArray
  | 0, acc => by simp
  | k + 1, acc => by
    have e : acc.toArray ++ l.toArray = (acc ++ l).toArray := by simp
    have e2 : (acc ++ l) ++ (List.replicate k l).flatten = acc ++ (List.replicate (k + 1) l).flatten := by
      rw [List.replicate_succ, List.flatten_cons, List.append_assoc]
    rw [List.replicate_succ, List.foldl_cons, e, foldl_repS l k (acc ++ l), e2]
def rRepS : R2 := fun x y H Q => ∃ (z : Str) (k : Int), x = .str z ∧ y = .int k ∧ -100000 ≤ k ∧ k ≤ 100000 ∧ z.length ≤ 100000 ∧ k.toNat * z.length ≤ 100000 ∧ Q (.str (repS z k)) H
theorem str_ext {a b : Str} (h : a.cps.toList = b.cps.toList) : a = b := by
  obtain ⟨⟨a⟩⟩ := a
  obtain ⟨⟨b⟩⟩ := b
  have h' : a = b := h
  rw [h']
theorem repS_arr {z : Str} {k : Int} : (⟨(List.replicate k.toNat z.cps).foldl (· ++ ·) #[]⟩ : Str) = repS z k := by
  have h := foldl_repS z.cps.toList k.toNat []
  rw [List.nil_append] at h
  obtain ⟨⟨l⟩⟩ := z
  unfold repS
  exact congrArg Str.mk h
theorem op_repS {X : Cx} : OpR X (binaryOp .Mult) rRepS := by
  intro pins s σ H x y v u Q I rx ry h
  obtain ⟨z, k, rfl, rfl, k0, k1, hz, hl, q⟩ := h
  obtain ⟨t, rfl⟩ := rx
  obtain ⟨t', rfl⟩ := ry
  have hsz : (repS z k).length ≤ sizeLine := by
    rw [repS_len]
    exact sz_of hl
  refine PySem.P.mul_str (by
    have h1 : ¬ k < -(2 ^ 63 : Int) := by omega
    have h2 : ¬ k ≥ 2 ^ 63 := by omega
    rw [decide_eq_false h1, decide_eq_false h2]
    rfl) (fun h1 _ => ?_) (fun _ _ => ?_) ?_
  · have h3 : (100000 : Int) ≤ (2 ^ 63 - 1) / k := (Int.le_ediv_iff_mul_le (by omega)).mpr (by omega)
    omega
  · show decide (z.length * k.toNat > sizeLine) = false
    rw [decide_eq_false_iff_not, Nat.mul_comm]
    have : k.toNat * z.length ≤ sizeLine := sz_of hl
    omega
  · by_cases h1 : k < 1
    · rw [if_pos h1]
      have e : repS z k = Str.empty := by
        refine str_ext ?_
        rw [repS_tl, show k.toNat = 0 by omega]
        rfl
      rw [e] at q
      exact ⟨by decide, .str Str.empty, H, I.tok _, ⟨_, rfl⟩, q⟩
    · rw [if_neg h1]
      by_cases h2 : (k == 1 || z.length == 0) = true
      · rw [if_pos h2]
        have e : repS z k = z := by
          refine str_ext ?_
          rw [repS_tl]
          rw [Bool.or_eq_true, beq_iff_eq, beq_iff_eq] at h2
          rcases h2 with h2 | h2
          · rw [h2]
            simp
          · have h3 : z.cps.toList = [] := by
              rw [lenL] at h2
              exact List.length_eq_zero_iff.mp h2
            rw [h3]
            simp
        rw [e] at q
        exact ⟨.str z, H, I, ⟨t, rfl⟩, q⟩
      · rw [if_neg h2]
        rw [← repS_arr] at q hsz
        exact ⟨hsz, .str _, H, I.tok _, ⟨_, rfl⟩, q⟩
section
variable {α β : Type} [Rep α] [Rep β] {K : PySem.W.Frag} {σ : L2.St} {H : Hp} {te tl ta tb : TE} {tt : TT} {i : Int}
theorem er_repS {z : Str} (h : ER K ta σ H z) (h2 : ER K tb σ H i) (hi : -100000 ≤ i ∧ i ≤ 100000) (hz : z.length ≤ 100000) (hl : i.toNat * z.length ≤ 100000) : ER K (tOp rRepS ta tb) σ H (repS z i) := fun H1 e Q q => h H1 e _ fun v H2 e2 r => h2 H2 (e.trans e2) _ fun w H3 e3 r2 => by
  cases r
  cases r2
  exact ⟨z, i, rfl, rfl, hi.1, hi.2, hz, hl, q _ H3 (e2.trans e3) rfl⟩
/-! ### ''.join of texts -/
def joinS (xs : List Str) : Str := ⟨((xs.map fun z => z.cps.toList).flatten).toArray⟩
theorem joinS_tl {xs : List Str} : (joinS xs).cps.toList = (xs.map fun z => z.cps.toList).flatten := by simp [joinS]
theorem str_vs {vs : List V} {xs : List Str} (h : rels K H vs xs) : vs = xs.map V.str := by
  induction h with
  | nil => rfl
  | cons r _ ih =>
    cases r
    rw [ih]
    rfl
theorem er_joinS {xs : List Str} (h : ER K te σ H xs) (hl : (xs.map (·.length)).sum ≤ 100000) : ER K (tM1 (rJoinQ K) (tC (.str "")) te) σ H (joinS xs) := fun H1 e Q q => ⟨⟨_, rfl⟩, h H1 e _ fun v H2 e2 ⟨a, vs, hv, hs, hr⟩ => by
  subst hv
  have hvs := str_vs hr
  subst hvs
  refine ⟨_, a, _, rfl, rfl, .inl (sq_of hs), ?_, q _ H2 e2 ?_⟩
  · show _ + xs.length * 0 ≤ _
    omega
  · show V.str _ = V.str _
    congr 1
    exact str_ext ((tl_joinE xs).trans joinS_tl.symm)⟩
/-! ### lists in lists: what a change of another list keeps -/
class ImmN (α : Type) [Rep α] : Prop where
  imm : ∀ {K : PySem.W.Frag} {H : Hp} {v : V} {x : α} {l : Addr} {o : HO} {ws : List V}, H l = some (.lst ws) → v ≠ .ref l → Rep.rel K H v x → Rep.rel K (upd H l o) v x
  frs : ∀ {K : PySem.W.Frag} {H : Hp} {v : V} {x : α} {l : Addr}, H l = none → Rep.rel K H v x → v ≠ .ref l
instance [ImmX α] : ImmN (List α) := ⟨fun {K H v x l o ws} hl hn ⟨a, vs, hv, hs, hr⟩ => by
  subst hv
  have ha : a ≠ l := fun z => hn (by rw [z])
  refine ⟨a, vs, rfl, by rw [upd_ne ha]; exact hs, ?_⟩
  exact Paired.mapP hr fun _ _ h => ImmX.imm hl h, fun {K H v x l} hl ⟨a, vs, hv, hs, hr⟩ z => by
  subst hv
  cases z
  rw [hl] at hs
  cases hs⟩
instance [ImmN α] : ImmN (Option α) := ⟨fun {K H v x l o ws} hl hn h => by
  cases x with
  | none => exact h
  | some y => exact ImmN.imm (x := y) hl hn h, fun {K H v x l} hl h => by
  cases x with
  | none =>
    have h' : v = .non := h
    rw [h']
    intro z
    cases z
  | some y => exact ImmN.frs (x := y) hl h⟩
def relsN (K : PySem.W.Frag) (H : Hp) (D : Addr) : List V → List α → Prop := Paired (fun v x => Rep.rel K H v x ∧ v ≠ .ref D)
theorem relsN_rels {D : Addr} {vs : List V} {xs : List α} (h : relsN K H D vs xs) : rels K H vs xs := Paired.mapP h fun _ _ h => h.1
theorem relsN_mono {H' : Hp} {D : Addr} {vs : List V} {xs : List α} (e : Ex H H') (h : relsN K H D vs xs) : relsN K H' D vs xs := Paired.mapP h fun _ _ h => ⟨Rep.mono e h.1, h.2⟩
theorem relsN_upd [ImmN α] {D : Addr} {ws ws2 : List V} {vs : List V} {xs : List α} (hl : H D = some (.lst ws)) (h : relsN K H D vs xs) : relsN K (upd H D (.lst ws2)) D vs xs := Paired.mapP h fun _ _ h => ⟨ImmN.imm hl h.2 h.1, h.2⟩
theorem relsN_snoc {D : Addr} {vs : List V} {xs : List α} {v : V} {x : α} (h : relsN K H D vs xs) (r : Rep.rel K H v x) (hn : v ≠ .ref D) : relsN K H D (vs ++ [v]) (xs ++ [x]) := Paired.snoc h ⟨r, hn⟩
/-- new lists in a new list -/
theorem er_lcL [ImmX β] {wi : TI} {xs : List α} {vs : List Nat} {gt : TG} (g : α → List β) (h : Wk K wi σ H xs) (hz : xs.length ≤ 100000)
    (ht : ∀ x v H1, x ∈ xs → Ex H H1 → Rep.rel K H1 v x → ∀ Q : L2.St → Hp → Prop, (∀ σ2 H2, Ex H1 H2 → wipe σ2 vs = wipe σ vs → EL K te σ2 H2 (g x) → Q σ2 H2) → gt v (wipe σ vs) H1 Q) :
    ER K (tLc wi gt tYes te vs) σ H (xs.map g) := fun H0 e Q q => by
  refine h H0 e _ fun J H2 G Y e2 w hG hY => ?_
  intro Dl hD
  have hx0 : ∀ i x, xs[i]? = some x → xs.take (i + 1) = xs.take i ++ [x] := fun i x hx => by
    rw [List.take_add_one, hx]
    rfl
  refine lc_it w (fun i H' => Ex H2 H' ∧ ∃ ws, H' Dl = some (.lst ws) ∧ relsN K H' Dl ws ((xs.take i).map g)) ⟨Ex.new hD, [], upd_same, by rw [List.take_zero]; exact .nil⟩ (fun i H' _ p => hG H' p.1.y) (fun i v H' H'' hi p y => ?_) (fun H' p => ?_)
  · obtain ⟨p1, ws, p2, p3⟩ := p
    obtain ⟨e3, x, hx, r⟩ := hY i H' v H'' hi p1.y y
    have hm : x ∈ xs := List.mem_of_getElem? hx
    refine ht x v H'' hm ((e.trans e2).trans (p1.trans e3)) r _ fun σ2 H3 e4 hw t1 => ⟨hw, ?_⟩
    show te σ2 H3 _
    have hl : ws.length ≤ i := by
      rw [rels_len (relsN_rels p3), List.length_map, List.length_take]
      omega
    refine t1 H3 (Ex.refl _) _ fun l ws2 H5 hn e6 hls rs => ?_
    have p2' : H3 Dl = some (.lst ws) := e4 _ _ (e3 _ _ p2)
    have hne : l ≠ Dl := fun z => by
      rw [z, p2'] at hn
      cases hn
    have rs2 : rels K H5 ws2 (g x) := by
      have y1 : Ey (upd H5 l (MutO l ws2)) H5 := fun a o h => by
        by_cases ha : a = l
        · subst ha
          rw [upd_same] at h
          cases h
          exact .inl (.m _)
        · rw [upd_ne ha] at h
          exact .inr h
      exact rels_moY y1 rs
    refine ⟨ws, e6 _ _ p2', sz_lt (by omega), Ex.mut (((p1.trans e3).trans e4).trans e6) hD, ws ++ [V.ref l], upd_same, ?_⟩
    have fin : relsN K H5 Dl (ws ++ [V.ref l]) ((xs.take (i + 1)).map g) := by
      rw [hx0 i x hx, List.map_append]
      exact relsN_snoc (relsN_mono ((e3.trans e4).trans e6) p3) ⟨l, ws2, rfl, hls, rs2⟩ (fun z => hne (by cases z; rfl))
    exact relsN_upd (e6 _ _ p2') fin
  · obtain ⟨p1, ws, p2, p3⟩ := p
    rw [List.take_length] at p3
    exact q (.ref Dl) H' (e2.trans p1) ⟨Dl, ws, rfl, p2, relsN_rels p3⟩
/-- those items of a list that a test picks, themselves -/
theorem er_lcF [ImmN α] {xs : List α} {vs : List Nat} {gt : TG} (f : α → Bool) (h : ER K tl σ H xs) (hz : xs.length ≤ 100000)
    (ht : ∀ x v H1, x ∈ xs → Ex H H1 → Rep.rel K H1 v x → ∀ Q : L2.St → Hp → Prop, (∀ σ2 H2, Ex H1 H2 → wipe σ2 vs = wipe σ vs → ET K tt σ2 H2 (f x) → (∀ H3, Ex H2 H3 → ∀ Q' : VK, Q' v H3 → te σ2 H3 Q') → Q σ2 H2) → gt v (wipe σ vs) H1 Q) :
    ER K (tLc (iList K tl) gt tt te vs) σ H (xs.filter f) := fun H0 e Q q => by
  refine h H0 e _ fun v0 H2 e2 ⟨a, vs0, hv0, hs0, hr0⟩ => ⟨a, hv0, ⟨vs0, sq_of hs0⟩, ?_⟩
  intro Dl hD
  have hx0 : ∀ i x, xs[i]? = some x → xs.take (i + 1) = xs.take i ++ [x] := fun i x hx => by
    rw [List.take_add_one, hx]
    rfl
  have hlen := rels_len hr0
  refine lc_it (rels_len hr0 ▸ walk_list (xs := vs0)) (fun i H' => Ex H2 H' ∧ ∃ ws, H' Dl = some (.lst ws) ∧ relsN K H' Dl ws ((xs.take i).filter f)) ⟨Ex.new hD, [], upd_same, by rw [List.take_zero]; exact .nil⟩ (fun i H' _ p => ex_l p.1 (sq_of hs0)) (fun i v H' H'' hi p y => ?_) (fun H' p => ?_)
  · obtain ⟨p1, ws, p2, p3⟩ := p
    obtain ⟨rfl, hy⟩ := y
    obtain ⟨x, hx, r0⟩ := rels_get hr0 hy
    have hm : x ∈ xs := List.mem_of_getElem? hx
    have hvn : v ≠ .ref Dl := ImmN.frs hD r0
    refine ht x v H'' hm ((e.trans e2).trans p1) (Rep.mono p1 r0) _ fun σ2 H3 e4 hw t1 t2 => ⟨hw, ?_⟩
    refine t1 H3 (Ex.refl _) _ fun H4 e5 => ?_
    have hl : ws.length ≤ i := by
      rw [rels_len (relsN_rels p3)]
      exact Nat.le_trans (List.length_filter_le ..) (by rw [List.length_take]; omega)
    have p1' : Ex H2 H4 := (p1.trans e4).trans e5
    have p2' : H4 Dl = some (.lst ws) := e5 _ _ (e4 _ _ p2)
    cases hf : f x with
    | true =>
      show te σ2 H4 _
      refine t2 H4 e5 _ ⟨ws, p2', sz_lt (by omega), Ex.mut p1' hD, ws ++ [v], upd_same, ?_⟩
      have fin : relsN K H4 Dl (ws ++ [v]) ((xs.take (i + 1)).filter f) := by
        rw [hx0 i x hx, List.filter_append, List.filter_cons, if_pos hf]
        exact relsN_snoc (relsN_mono (e4.trans e5) p3) (Rep.mono p1' r0) hvn
      exact relsN_upd p2' fin
    | false =>
      show Ex H2 H4 ∧ _
      refine ⟨p1', ws, p2', ?_⟩
      rw [hx0 i x hx, List.filter_append, List.filter_cons, if_neg (by rw [hf]; decide)]
      show relsN K H4 Dl ws (_ ++ [])
      rw [List.append_nil]
      exact relsN_mono (e4.trans e5) p3
  · obtain ⟨p1, ws, p2, p3⟩ := p
    rw [List.take_length] at p3
    exact q (.ref Dl) H' (e2.trans p1) ⟨Dl, ws, rfl, p2, relsN_rels p3⟩
theorem rels_somes {d : α} : ∀ {ws : List V} {xs : List (Option α)}, rels K H ws xs → (∀ x ∈ xs, x.isNone = false) → rels K H ws (xs.map fun x => x.getD d)
  | _, [], h, _ => by cases h; exact .nil
  | _, none :: xs, h, hs => nomatch (hs none (List.mem_cons_self ..))
  | _, some y :: xs, h, hs => by
    cases h with
    | cons r t => exact .cons r (rels_somes t fun z hz => hs z (List.mem_cons_of_mem _ hz))
/-- a list of options that are all something -/
theorem er_somes {xs : List (Option α)} {d : α} (h : ER K te σ H xs) (hs : ∀ x ∈ xs, x.isNone = false) : ER K te σ H (xs.map fun x => x.getD d) := fun H1 e Q q => h H1 e Q fun v H2 e2 ⟨a, vs, hv, hl, hr⟩ => q v H2 e2 ⟨a, vs, hv, hl, rels_somes hr hs⟩
end
end Sf

/-! ### isinstance of whatever the suite holds -/
namespace L2
open PySem PySem.Spec PyProof.Rows
def rIsG (K : PySem.W.Frag) (a : Addr) (cls : Value) (d : Option Addr) : List V → Hp → VK → Prop := fun xs H Q => ∃ (c : V) (cv : Value) (b : Bool) (D : Addr), xs = [.ref a, c] ∧ cls = .ref D ∧ ExcC K D ∧ (d = none ∨ ∃ dd fs, d = some dd ∧ H dd = some (.xd fs)) ∧ (∀ u, RelV c u → u = cv) ∧ PySem.W.kitOne K (.ref D) cv = some b ∧ Q (.bl b) H
theorem call_isG {X : Cx} {a : Addr} {oe : Obj} {pn : List (Addr × Obj)} {cls : Value} {d : Option Addr} (hz : Zc cls d oe) (hf : ∃ vs, oe.data = .fields vs) : CallR (X.suite a ((a, oe) :: pn)) (.builtin "isinstance") (rIsG X.K a cls d) := by
  intro pins s σ H xs us Q I r h
  obtain ⟨c, cv, b, D, rfl, rfl, C, hd, hcv, e, q⟩ := h
  rcases hd with rfl | ⟨dd, fs, rfl, hd⟩
  · exact call_isE C hz hf pins s σ H _ us Q I r ⟨c, cv, b, rfl, hcv, e, q⟩
  · cases r with
    | cons rx rr =>
      cases rr with
      | cons rt rr =>
        cases rr
        cases rx
        have ec := hcv _ rt
        subst ec
        obtain ⟨there, _⟩ := I.pin (a, oe) (List.mem_append.mpr (.inl List.mem_cons_self))
        obtain ⟨vs, hv⟩ := hf
        obtain ⟨mA, hns, hr⟩ := (show ObjOk X.prog X.w H s.heap dd (.xd fs) from I.hok dd _ hd)
        obtain ⟨od, ho, hl⟩ := lookIn_ns hns
        have J : PySem.W.InstAt s.heap a oe D (some od) := ⟨there, hz.1, by unfold PySem.W.notCls; rw [hv] <;> rfl, by rw [hz.2]; exact ho⟩
        obtain ⟨cd, hcd, _⟩ := PySem.W.any_some C.hd
        exact PySem.W.kia_one (PySem.W.kitx_exc (od := some od) (by rw [hcd]; rfl) C.hg C.hk C.hs C.ha C.hn C.ht C.hm) I.kIn J e (fun z => nomatch z) fun tk => ⟨.bl b, H, I.kept (t' := tk) fun _ _ z => z, rfl, q⟩
end L2
namespace Sf
open PySem PySem.Spec PyProof.Rows L2 Evl
open LamX (CodeO TabS Tabs ExtN TabB LamS lamEnv lamCx)
/-- what comes of a call: a value, an own error, TooMany -/
inductive Out
  | ret
  | own (c : Str)
  | many (n : Int)
/-- TooMany(n), any fresh dict -/
abbrev XMany (n : Int) (K : PySem.W.Frag) (E : XK) (H : Hp) : Prop := ∀ d H', Ex H H' → H' d = none → E (.ref (He.ga K "TooMany")) (some d) (upd H' d (.xd [(("limit" : Str), .int n)]))
def OutSays (K : PySem.W.Frag) (tl : XK → Hp → VK → Prop) (H : Hp) : Out → Prop
  | .ret => ∀ H1, Ex H H1 → ∀ E Q, (∀ v H2, Ex H1 H2 → Q v H2) → tl E H1 Q
  | .own c => ∀ H1, Ex H H1 → ∀ E, XE1 K E c H1 → ∀ Q, tl E H1 Q
  | .many n => ∀ H1, Ex H H1 → ∀ E, XMany n K E H1 → ∀ Q, tl E H1 Q
theorem OutSays.ex {K : PySem.W.Frag} {tl : XK → Hp → VK → Prop} {H H1 : Hp} {o : Out} (h : OutSays K tl H o) (e : Ex H H1) : OutSays K tl H1 o := by
  cases o with
  | ret => exact fun H2 e2 => h H2 (e.trans e2)
  | own c => exact fun H2 e2 => h H2 (e.trans e2)
  | many n => exact fun H2 e2 => h H2 (e.trans e2)
/-- is it of the class named x? -/
def isO : Out → Str → Bool
  | .ret, _ => false
  | .own c, x => decide (c = x)
  | .many _, x => decide (("TooMany" : Str) = x)
/-- what the top tells of the errors' classes -/
structure ErrTop (K : PySem.W.Frag) (mg : Str → Option Value) (al cs : List Str) : Prop where
  sub : ∀ x ∈ al, x ∈ ("TooMany" : Str) :: cs
  e : ∀ c ∈ cs, ExcT K mg c
  c : ∀ c ∈ cs, ExcC K (He.ga K c)
  k : ∀ c ∈ cs, ∀ x ∈ al, PySem.W.kitOne K (.ref (He.ga K c)) (.ref (He.ga K x)) = some (decide (c = x))
  v : ∀ c ∈ cs, PySem.W.kitOne K (.ref (He.ga K c)) (.type "ValueError") = some true
  s : ∀ c ∈ cs, PySem.W.exmOne K (.ref (He.ga K c)) (.ref (He.ga K "StepError")) = some true
  gS : mg "StepError" = some (.ref (He.ga K "StepError"))
  gV : mg "ValueError" = none
/-- .. and of TooMany, asked by isinstance -/
structure ManyIs (K : PySem.W.Frag) (cs : List Str) : Prop where
  c : ExcC K (He.ga K "TooMany")
  k : ∀ x ∈ ("TooMany" : Str) :: cs, PySem.W.kitOne K (.ref (He.ga K "TooMany")) (.ref (He.ga K x)) = some (decide (("TooMany" : Str) = x))
  v : PySem.W.kitOne K (.ref (He.ga K "TooMany")) (.type "ValueError") = some true
  s : PySem.W.exmOne K (.ref (He.ga K "TooMany")) (.ref (He.ga K "StepError")) = some true
/-- what the suite knows of the error that it holds: its class, its dict -/
def Held (K : PySem.W.Frag) (cs : List Str) (H : Hp) (cls : Value) (d : Option Addr) : Out → Prop
  | .ret => False
  | .own c => c ∈ cs ∧ cls = .ref (He.ga K c) ∧ d = none
  | .many n => ManyIs K cs ∧ cls = .ref (He.ga K "TooMany") ∧ ∃ dd, d = some dd ∧ H dd = some (.xd [(("limit" : Str), .int n)])
theorem Held.ey {K : PySem.W.Frag} {cs : List Str} {H H' : Hp} {cls : Value} {d : Option Addr} {o : Out} (e : Ey H H') (h : Held K cs H cls d o) : Held K cs H' cls d o := by
  cases o with
  | ret => exact h
  | own c => exact h
  | many n =>
    obtain ⟨h1, h2, dd, h3, h4⟩ := h
    refine ⟨h1, h2, dd, h3, ?_⟩
    rcases e _ _ h4 with z | z
    · cases z
    · exact z
section
variable {K : PySem.W.Frag} {mg : Str → Option Value} {al cs : List Str} {σ : L2.St} {H : Hp} {a : Addr} {cls : Value} {d : Option Addr} {o : Out} {j : Nat} {x : Str}
theorem er_isO (T : ErrTop K mg al cs) (hj : σ[j]? = some (some (.ref a))) (hh : Held K cs H cls d o) (hx : x ∈ al) : ER K (tCB (rIsG K a cls d) (tCons (tVar j) (tCons (tC (.ref (He.ga K x))) tNil))) σ H (isO o x) := fun H1 e Q q => by
  refine ⟨.ref a, hj, ?_⟩
  have hh := Held.ey e.y hh
  cases o with
  | ret => exact hh.elim
  | own c =>
    obtain ⟨hc, rfl, rfl⟩ := hh
    exact ⟨.ref (He.ga K x), .ref (He.ga K x), _, He.ga K c, rfl, rfl, T.c c hc, .inl rfl, fun u r => r, T.k c hc x hx, q _ H1 (Ex.refl _) rfl⟩
  | many n =>
    obtain ⟨M, rfl, dd, rfl, hd⟩ := hh
    exact ⟨.ref (He.ga K x), .ref (He.ga K x), _, He.ga K "TooMany", rfl, rfl, M.c, .inr ⟨dd, _, rfl, hd⟩, fun u r => r, M.k x (T.sub x hx), q _ H1 (Ex.refl _) rfl⟩
end
/-- a lambda and its reading, for what the caller wishes of its errors -/
structure LamR where
  L : LamC
  t : XK → TE
/-- x(e), x a def that calls what it gets -/
def tNm (q : Str) (cells : List (Str × Addr)) (Ls : List LamR) (TT : (XK → Hp → VK → Prop) → Hp → VK → Prop) (te : TE) : TE := fun σ H Q => te σ H fun v H1 => ∃ R ∈ Ls, ∃ f d, v = .ref f ∧ H1 f = some (LamO q (cloFrom cells R.L.sc.names []) R.L f d) ∧ H1 d = some (CodeO d q) ∧ TT (fun E H' Q' => R.t E σ H' Q') H1 Q
/-- the promise of such a def, in whatever context it is called -/
def GivesN (P : Program) (w : World) (K : PySem.W.Frag) (mg : Str → Option Value) (base : Heap) (B : Around) (st : List Env) (k : Nat) (x a : Str) (Ng : List Str) (sg : Scope) (g : Addr) (bg : List Stmt) (TT : (XK → Hp → VK → Prop) → Hp → VK → Prop) : Prop :=
  ∀ (cdg : Value) (f : Addr) (okH : Hp → Prop) (s : Shared) (H : Hp) (Q : VK) (tl : XK → Hp → VK → Prop),
    (∀ (W : WX) (pn : List (Addr × Obj)) (xe : Value → Shared → Prop) (p1 p2 : Pos), L2N.Takes ((cxOf C8.CX0 P w K mg base Ng x sg g cdg B st s H C8.E0).tr pn xe) W →
      PE ((cxOf C8.CX0 P w K mg base Ng x sg g cdg B st s H C8.E0).tr pn xe) (.Call (.Name a p1) [] [] p2) (fun τ HZ Q => τ[0]? = some (some (.ref f)) ∧ okH HZ ∧ tl (WE W τ) HZ Q)) →
    okH H → Room (k + 1) (B.deeper (envOfC x sg s.heap.objs.size g cdg)) → TT tl H Q →
    ∃ t, PSs (cxOf C8.CX0 P w K mg base Ng x sg g cdg B st s H C8.E0) bg t ∧ t { nx := fun _ H' => Q .non H', rt := Q } (L2.start Ng [.ref f]) H
theorem pe_named {X : Cx} {x a : Str} {params : Arguments} {body : List Stmt} {scope : Scope} {g : Addr} {fd : FuncData} {k : Nat} {Ng : List Str} {Ls : List LamR} {TT : (XK → Hp → VK → Prop) → Hp → VK → Prop} {e : Expr} {te : TE} {p pos : Pos}
    (F : FunD X.K x x params body scope [] [] g fd) (S : FnScope Ng [a] scope) (bd : Binds X.K fd [a] []) (hg : Gl X x) (hm : X.mg x = some (.ref g)) (hr : Room (k + 2) X.A)
    (lams : ∀ R ∈ Ls, LamS X.env.scope R.L.sc ∧ (∀ (cl : List (Str × Addr)) (pm cv ctv : Value), bindArgs (PySem.W.kla_fn "<lambda>" (X.env.qual ++ "<lambda>") R.L.pa R.L.bd R.L.sc cl pm cv ctv) ⟨[], []⟩ = pure []) ∧
      ∀ (E : XK) (A : Around) (outer : List Env) (s : Shared) (H : Hp) (f d : Addr), Room k (A.deeper (lamEnv X R.L.sc s.heap.objs.size f d)) → PE (lamN X A outer s H E R.L.sc f d) R.L.bd (R.t E))
    (hG : GivesN X.prog X.w X.K X.mg X.base X.A X.stack k x a Ng scope g body TT) (he : PE X e te) (h0 : Ng[0]? = some a) (hv : Vis scope a) (hdb : (x == ("__debug__" : Str)) = false := by decide) (nd : (a == ("__debug__" : Str)) = false := by decide) (nc : (a == ("__classdict__" : Str)) = false := by decide)
    (hst : starEach (e :: []) X.env = (false, eval e X.env) :: starEach [] X.env := by rfl) (hpl : (backTo pos (starEach [] X.env)).any (·.1) = false := by rfl) :
    PE X (.Call (.Name x p) [e] [] pos) (tNm (X.env.qual ++ "<lambda>") X.env.cells Ls TT te) := by
  refine ⟨fun pins s σ H Q I h => ?_⟩
  obtain ⟨oc, od, dV, kV, doc, pm, an, cdv, ct, osl, rfl, lk, hcd, _, _⟩ := F.ex
  refine wpAny_Call_Name_kw (ld_glob I hg hm ?_ hdb)
  have args := (pa_cons (hs := hst) he pa_nil).run pos pins s σ H (fun vs H1 => match vs with
    | [v] => ∃ R ∈ Ls, ∃ f d, v = .ref f ∧ H1 f = some (LamO (X.env.qual ++ "<lambda>") (cloFrom X.env.cells R.L.sc.names []) R.L f d) ∧ H1 d = some (CodeO d (X.env.qual ++ "<lambda>")) ∧ TT (fun E H' Q' => R.t E σ H' Q') H1 Q
    | _ => False) I h
  refine PySem.W.callWith_K (h₀ := X.base) I.ok.mod.kin F.kp (thn args fun us s1 hh => ?_) hst hpl
  obtain ⟨vs, H1, I1, r1, q1⟩ := hh
  match vs, q1, r1 with
  | [v], q1, r1 =>
  obtain ⟨R, hR, f, d, rfl, lamf, coded, told⟩ := q1
  refine ⟨I1.kIn, ?_⟩
  obtain ⟨names, nobind, run⟩ := lams R hR
  have done_ : codeAny (model X.prog X.w) X.A (.call (.ref g) ⟨us, []⟩) (CR C8.CX0 X.stack X.prog X.w H1 s1 Q C8.E0) s1 := by
    refine LamX.run_ofS (N := Ng) (ps := [a]) (us := us) (vs := [.ref f]) lk hcd S hr I1.env0 ?_ r1 rfl fun hr' => ?_
    · have b2 := bd s1 us I1.kIn (by have := r1.length; simpa using this.symm)
      simpa using b2
    · exact hG cdv f (fun HZ => HZ f = some (LamO (X.env.qual ++ "<lambda>") (cloFrom X.env.cells R.L.sc.names []) R.L f d) ∧ HZ d = some (CodeO d (X.env.qual ++ "<lambda>"))) s1 H1 Q _
        (fun W pn xe p1 p2 tk => ⟨fun pz sz τ HZ Q IZ z => (pe_lamact (i := 0) (p1 := p1) (p2 := p2) I1 names nobind tk hr' (fun E A outer s H hr2 => run E A outer s H f d hr2) h0 hv nd nc).run pz sz τ HZ Q IZ ⟨z.1, z.2.1.1, z.2.1.2, z.2.2⟩⟩) ⟨lamf, coded⟩ hr' told
  refine wpAny_call (codeAny_mono done_ fun r s2 hq => ?_)
  cases r with
  | error e => exact (show False from hq).elim
  | ok fl =>
    cases fl with
    | ret u => exact I1.after hq
    | next => exact False.elim hq
    | brk => exact False.elim hq
    | cont => exact False.elim hq
def OkO (K : PySem.W.Frag) (cs : List Str) : Out → Prop
  | .ret => True
  | .own c => c ∈ cs
  | .many n => ManyIs K cs ∧ 0 ≤ n ∧ n ≤ 1000000
/-- the told word -/
def NameT (K : PySem.W.Frag) (cs : List Str) (nm : Out → Str) : (XK → Hp → VK → Prop) → Hp → VK → Prop := fun tl H Q => ∃ o, OutSays K tl H o ∧ OkO K cs o ∧ ∀ H2, Ex H H2 → Q (.str (nm o)) H2
theorem map_at {α β : Type} {g : α → β} {l : List α} {i : Nat} {y : β} (h : (l.map g)[i]? = some y) : ∃ x, l[i]? = some x ∧ g x = y := by
  rw [List.getElem?_map] at h
  cases e : l[i]? with
  | none =>
    rw [e] at h
    cases h
  | some x =>
    rw [e] at h
    exact ⟨x, rfl, Option.some.inj h⟩
section
variable {K : PySem.W.Frag} {al cs : List Str} {nm : Out → Str} {σ : L2.St} {H : Hp} {te : TE} {mg : Str → Option Value} {a : Addr} {cls : Value} {d : Option Addr} {o : Out} {j : Nat}
theorem er_nm {q : Str} {cells : List (Str × Addr)} {Ls : List LamR} {x : LamI q cells (Ls.map LamR.L)} (h : ER K te σ H x) (hs : ∀ R, Ls[x.i]? = some R → OutSays K (fun E H' Q' => R.t E σ H' Q') H o) (ok : OkO K cs o) : ER K (tNm q cells Ls (NameT K cs nm) te) σ H (nm o) := fun H1 e Q k => h H1 e _ fun v H2 e2 r => by
  obtain ⟨f, c, L, rfl, hL, h3, h4⟩ := r
  obtain ⟨R, hR, rfl⟩ := map_at hL
  exact ⟨R, List.mem_of_getElem? hR, f, c, rfl, h3, h4, o, (hs R hR).ex (e.trans e2), ok, fun H3 e3 => k _ H3 (e2.trans e3) rfl⟩
/-- is it a ValueError? -/
def isV : Out → Bool
  | .ret => false
  | _ => true
theorem er_isV (T : ErrTop K mg al cs) (hj : σ[j]? = some (some (.ref a))) (hh : Held K cs H cls d o) : ER K (tCB (rIsG K a cls d) (tCons (tVar j) (tCons (tC (.ty "ValueError")) tNil))) σ H (isV o) := fun H1 e Q q => by
  refine ⟨.ref a, hj, ?_⟩
  have hh := Held.ey e.y hh
  cases o with
  | ret => exact hh.elim
  | own c =>
    obtain ⟨hc, rfl, rfl⟩ := hh
    exact ⟨.ty "ValueError", .type "ValueError", _, He.ga K c, rfl, rfl, T.c c hc, .inl rfl, fun u r => r, T.v c hc, q _ H1 (Ex.refl _) rfl⟩
  | many n =>
    obtain ⟨M, rfl, dd, rfl, hd⟩ := hh
    exact ⟨.ty "ValueError", .type "ValueError", _, He.ga K "TooMany", rfl, rfl, M.c, .inr ⟨dd, _, rfl, hd⟩, fun u r => r, M.v, q _ H1 (Ex.refl _) rfl⟩
theorem zipF_sum (p : Str × Bool → Bool) : ∀ (ws : List Str) (bs : List Bool), ((((ws.zip bs).filter p).map fun it => it.1).map (·.length)).sum ≤ (ws.map (·.length)).sum
  | [], _ => Nat.zero_le _
  | w :: ws, [] => Nat.zero_le _
  | w :: ws, b :: bs => by
    have ih := zipF_sum p ws bs
    rw [List.zip_cons_cons, List.filter_cons]
    split
    · rw [List.map_cons, List.map_cons, List.sum_cons, List.map_cons, List.sum_cons]
      exact Nat.add_le_add_left ih _
    · rw [List.map_cons, List.sum_cons]
      omega
theorem joinS_len {xs : List Str} : (joinS xs).length = (xs.map (·.length)).sum := by
  rw [lenL, joinS_tl, List.length_flatten, List.map_map]
  rfl
theorem nm_add {ws : List Str} {bs : List Bool} {p : Str × Bool → Bool} {found : Str} {b : Bool} (d : found = joinS ((((ws.zip bs).filter p).map fun it => it.1))) (h : (ws.map (·.length)).sum ≤ 1000) : found.length + (if b = true then ("+" : Str) else ("" : Str)).length ≤ 100000 := by
  have h1 := zipF_sum p ws bs
  rw [← joinS_len, ← d] at h1
  have h2 : (if b = true then ("+" : Str) else ("" : Str)).length ≤ 1 := by cases b <;> decide
  omega
/-- the reading of the try, by what the call does: s the suite's reading -/
theorem try_name {u : TS} {tl : XK → Hp → VK → Prop} {CS : Addr} {i : Nat} {ts : Addr → Value → Option Addr → TS} {Wout : WX} {D : Ends} {f : Addr} {okH : Hp → Prop} {τ : L2.St} (h0 : τ[0]? = some (some (.ref f))) (hk : okH H) (hs : OutSays K tl H o) (hok : OkO K cs o) (T : ErrTop K mg al cs)
    (hc : CS = He.ga K "StepError") (hr : o = .ret → ∀ H2, Ex H H2 → u D τ H2)
    (hsu : ∀ a cls d H', Ex H H' → Held K cs H' cls d o → H' a = none → ts a cls d { nx := fun σ' H' => u D (σ'.set i none) H', rt := D.rt, bk := fun σ' H' => D.bk (σ'.set i none) H', ct := fun σ' H' => D.ct (σ'.set i none) H' } (τ.set i (some (.ref a))) H') :
    tSeq (fun D τ H => tDrop (fun τ HZ Q => τ[0]? = some (some (.ref f)) ∧ okH HZ ∧ tl (WE (wAs K (.ref CS) i ts Wout D) τ) HZ Q) D τ H) u D τ H := by
  subst hc
  refine ⟨h0, hk, ?_⟩
  cases o with
  | ret => exact hs H (Ex.refl _) _ _ fun v H2 e => hr rfl H2 e
  | own c => exact hs H (Ex.refl _) _ (fun H' e => ⟨true, T.s c hok, fun _ a ha => hsu a _ _ H' e ⟨hok, rfl, rfl⟩ ha, fun z => Bool.noConfusion z⟩) _
  | many n =>
    refine hs H (Ex.refl _) _ (fun dd H' e hd => ⟨true, hok.1.s, fun _ a ha => hsu a _ _ _ (e.trans (Ex.new hd)) ⟨hok.1, rfl, dd, rfl, upd_same⟩ ha, fun z => Bool.noConfusion z⟩) _
end
end Sf
namespace Sf
open PySem PySem.Spec PyProof.Rows L2 Evl
theorem takes0N {X : Cx} : L2N.Takes X (fun _ _ _ _ => False) := fun _ _ x => by
  obtain ⟨_, _, _, _, _, _, _, _, _, _, _, _, _, _, _, _, z⟩ := x
  exact z.elim
/-- of an exception that the suite holds: no context -/
theorem ctx_of {cls : Value} {d : Option Addr} {oe : Obj} (hz : L2N.Zn cls d oe) (hf : ∃ vs, oe.data = .fields vs) : ∃ v1 : Array Value, oe.data = .fields v1 ∧ v1[2]? = some .none := by
  obtain ⟨vs, hv⟩ := hf
  exact ⟨vs, hv, hz.2.2 vs hv⟩
end Sf

namespace Sf
open PySem PySem.Spec PyProof.Rows L2 Evl
open LamX (CodeO TabS Tabs ExtN TabB LamS lamEnv lamCx)
/-! ### lists of lambdas -/
def argE : Stmt → Expr
  | .Expr (.Call _ (e :: _) _ _) _ => e
  | .Assign _ (.List (e :: _) _) _ => e
  | _ => .Constant .none 0 ⟨0, 0, 0, 0⟩
def lamE : Expr → LamC
  | .Lambda pa bd sc _ => ⟨pa, bd, sc⟩
  | _ => ⟨{ posonlyargs := [], args := [], vararg := none, kwonlyargs := [], kw_defaults := [], kwarg := none, defaults := [] }, .Constant .none 0 ⟨0, 0, 0, 0⟩, { kind := .function, names := [], isGenerator := false, isCoroutine := false, more := [] }⟩
def sndE : Expr → Expr
  | .Tuple (_ :: e :: _) _ _ => e
  | e => e
abbrev lamAt (ss : List Stmt) (j : Nat) : LamC := lamE (sndE (argE (ss.getD j (.Pass ⟨0, 0, 0, 0⟩))))
instance {q : Str} {cs : List (Str × Addr)} {Ls : List LamC} : Imm (LamI q cs Ls) := ⟨fun hl ⟨f, c, L, h1, h2, h3, h4⟩ => ⟨f, c, L, h1, h2, by
  rw [upd_ne (ne_of h3 hl (fun z => by unfold LamO at z; cases z))]
  exact h3, by
  rw [upd_ne (ne_of h4 hl (fun z => by unfold CodeO at z; cases z))]
  exact h4⟩⟩
instance {q : Str} {cs : List (Str × Addr)} {Ls : List LamC} : ImmX (LamI q cs Ls) := ⟨fun hl ⟨f, c, L, h1, h2, h3, h4⟩ => ⟨f, c, L, h1, h2, by
  rw [upd_ne (ne_of h3 hl (fun z => by unfold LamO at z; cases z))]
  exact h3, by
  rw [upd_ne (ne_of h4 hl (fun z => by unfold CodeO at z; cases z))]
  exact h4⟩⟩
/-- te gives x; all but the tables is kept -/
def EY {α : Type} [Rep α] (K : PySem.W.Frag) (T : List (Addr × Str)) (te : TE) (σ : L2.St) (H : Hp) (x : α) : Prop := ∀ Q : VK, (∀ v H1, ExtT H H1 → Tabs T H1 → Rep.rel K H1 v x → Q v H1) → te σ H Q
/-- all but l and the tables -/
def Em (l : Addr) (H0 H : Hp) : Prop := ∀ a o, a ≠ l → H0 a = some o → (∀ ps, o ≠ .tbl ps) → H a = some o
theorem Em.ey {l : Addr} {H0 H : Hp} (e : Em l H0 H) (hn : H0 l = none) : Ey H0 H := fun a o h => by
  have ne : a ≠ l := ne_of_none h hn
  by_cases hz : ∃ ps, o = .tbl ps
  · obtain ⟨ps, rfl⟩ := hz
    exact .inl (.tbl ps)
  · exact .inr (e a o ne h fun ps z => hz ⟨ps, z⟩)
/-- the list at l while lambdas are put into it -/
structure LamSt {α : Type} [Rep α] (K : PySem.W.Frag) (T : List (Addr × Str)) (l : Addr) (H0 H : Hp) (xs : List α) : Prop where
  em : Em l H0 H
  dom : ∀ b, H b = none → H0 b = none
  no : H0 l = none
  tb : Tabs T H
  ws : ∃ ws, H l = some (MutO l ws) ∧ rels K H ws xs
section
variable {α : Type} [Rep α] {K : PySem.W.Frag} {T : List (Addr × Str)} {σ : L2.St} {H H0 : Hp} {te : TE} {x : α} {xs : List α} {l : Addr} {n : Nat} {u : TS} {D : Ends}
theorem tabs_upd {f : Addr} {o : HO} (t : Tabs T H) (hn : H f = none) : Tabs T (upd H f o) := t.ext fun b u h => by
  rw [upd_ne (ne_of_none h hn)]
  exact h
theorem tabs_mut {f : Addr} {ws : List V} {o : HO} (t : Tabs T H) (hm : H f = some (MutO f ws)) : Tabs T (upd H f o) := fun p hp => by
  obtain ⟨ps, a, b, c⟩ := t p hp
  refine ⟨ps, by rw [upd_ne (ne_of a hm (fun z => by unfold MutO at z; cases z))]; exact a, b, fun pos cv h => ?_⟩
  obtain ⟨d, e1, e2⟩ := c pos cv h
  refine ⟨d, e1, ?_⟩
  rw [upd_ne (fun z => by
    rw [z, hm] at e2
    have e3 := Option.some.inj e2
    rw [← z] at e3
    exact code_ne e3.symm)]
  exact e2
theorem ey_lamI {q : Str} {cells : List (Str × Addr)} {Ls : List LamC} {L : LamC} {i : Nat} (tb : Tabs T H) (hL : Ls[i]? = some L) : EY K T (tLamM T q (cloFrom cells L.sc.names []) L) σ H (LamI.mk i : LamI q cells Ls) := fun Q k => by
  refine ⟨tb, fun f d H1 e t hn hd => ?_⟩
  have nf : f ≠ d := (ne_of_none hd hn).symm
  exact k _ _ (e.trans (.new hn)) (tabs_upd t hn) ⟨f, d, L, rfl, hL, upd_same, by rw [upd_ne nf.symm]; exact hd⟩
theorem ey_pair {β : Type} [Rep β] {y : β} {w : Str} (h : EY K T te σ H y) : EY K T (tTup (tCons (tC (.str w)) (tCons te tNil))) σ H ((w, y) : Str × β) := fun Q k => h _ fun v H1 e t r => ⟨sz_of (by show 2 ≤ 100000; decide), fun p hp =>
  k _ _ (e.trans (.new hp)) (tabs_upd t hp) ⟨p, .str w, v, rfl, st_of upd_same, rfl, Rep.mono (Ex.new hp) r⟩⟩
theorem q_newLam (K : PySem.W.Frag) {s' : V → L2.St} (h : EY K T te σ H x) (s : ∀ v, SetAt σ n v (s' v)) (g : ∀ l, (s' (.ref l))[n]? = some (some (.ref l))) (k : ∀ l H1, LamSt K T l H H1 [x] → u D (s' (.ref l)) H1) : tSeq (tAsg (tLst (tCons te tNil)) (gName n)) (tClose n u) D σ H :=
  h _ fun v H1 e t r => ⟨sz_of (by show 1 ≤ 100000; decide), fun p hp => by
    show tClose n u D (σ.set n (some (.ref p))) _
    rw [(s _).eq]
    refine ⟨p, [v], g p, upd_same, k p _ ⟨fun a o ne h nt => ?_, fun b z => ?_, e.2 p hp, ?_, [v], upd_same, ?_⟩⟩
    · rw [upd_ne ne, upd_ne ne]
      exact e.1 a o h nt
    · have n1 : b ≠ p := fun q => by rw [q, upd_same] at z; cases z
      rw [upd_ne n1, upd_ne n1] at z
      exact e.2 b z
    · rw [upd_upd]
      exact tabs_upd t hp
    · rw [upd_upd]
      exact .cons (Rep.mono (Ex.new hp) r) .nil⟩
theorem q_appLam (K : PySem.W.Frag) (st : LamSt K T l H0 H xs) (hn : σ[n]? = some (some (.ref l))) (h : EY K T te σ H x) (hz : xs.length < 100000) (k : ∀ H1, LamSt K T l H0 H1 (xs ++ [x]) → u D σ H1) : tSeq (tDrop (tApp n (tCons te tNil))) u D σ H := by
  obtain ⟨ws, hm, hr⟩ := st.ws
  refine ⟨l, ws, hn, hm, h _ fun v H1 e t r => ?_⟩
  have hm1 : H1 l = some (MutO l ws) := e.1 _ _ hm fun ps z => by unfold MutO at z; cases z
  have o1 : Eo l H1 (upd H1 l (MutO l (ws ++ [v]))) := Eo.upd (Ex.refl _)
  refine ⟨ws, v, rfl, hm1, by rw [rels_len hr]; exact sz_lt hz, k _ ⟨fun a o ne ho nt => ?_, fun b z => ?_, st.no, tabs_mut t hm1, ws ++ [v], upd_same, ?_⟩⟩
  · rw [upd_ne ne]
    exact e.1 a o (st.em a o ne ho nt) nt
  · have n1 : b ≠ l := fun q => by rw [q, upd_same] at z; cases z
    rw [upd_ne n1] at z
    exact st.dom b (e.2 b z)
  · exact rels_moY (o1.y hm1) (rels_snoc (rels_moY e.y hr) r)
/-- from now on a list like others -/
theorem q_thawLam (K : PySem.W.Frag) (st : LamSt K T l H0 H xs) (hn : σ[n]? = some (some (.ref l))) (k : ∀ H1, ExtT H0 H1 → Tabs T H1 → Rep.rel K H1 (.ref l) xs → u D σ H1) : tThaw n u D σ H := by
  obtain ⟨ws, hm, hr⟩ := st.ws
  have o1 : Eo l H (upd H l (.lst ws)) := Eo.upd (Ex.refl _)
  refine ⟨l, ws, hn, hm, k _ ⟨fun a o ho nt => ?_, fun b z => ?_⟩ (tabs_mut st.tb hm) ⟨l, ws, rfl, upd_same, rels_moY (o1.y hm) hr⟩⟩
  · have ne : a ≠ l := ne_of_none ho st.no
    rw [upd_ne ne]
    exact st.em a o ne ho nt
  · have n1 : b ≠ l := fun q => by rw [q, upd_same] at z; cases z
    rw [upd_ne n1] at z
    exact st.dom b z
end
/-- what each lambda comes to -/
def AllSays (K : PySem.W.Frag) (σ : L2.St) (H : Hp) : List LamR → List Out → Prop
  | R :: Rs, o :: os => OutSays K (fun E H' Q' => R.t E σ H' Q') H o ∧ AllSays K σ H Rs os
  | _, _ => True
theorem AllSays.at {K : PySem.W.Frag} {σ : L2.St} {H : Hp} : ∀ {Rs : List LamR} {os : List Out} {i : Nat} {R : LamR} {o : Out}, AllSays K σ H Rs os → Rs[i]? = some R → os[i]? = some o → OutSays K (fun E H' Q' => R.t E σ H' Q') H o
  | R0 :: Rs, o0 :: os, 0, R, o, h, hR, ho => by
    cases hR
    cases ho
    exact h.1
  | R0 :: Rs, o0 :: os, i + 1, R, o, h, hR, ho => AllSays.at (Rs := Rs) (os := os) (i := i) h.2 hR ho
  | [], _, _, _, _, _, hR, _ => by cases hR
  | _ :: _, [], _, _, _, _, _, ho => by cases ho
theorem er_nil {α β : Type} [Rep α] [Rep β] {K : PySem.W.Frag} {te : TE} {σ : L2.St} {H : Hp} (h : ER K te σ H ([] : List α)) : ER K te σ H ([] : List β) := fun H1 e Q q => h H1 e Q fun v H2 e2 ⟨a, vs, r1, r2, r3⟩ => by
  cases r3
  exact q v H2 e2 ⟨a, [], r1, r2, .nil⟩
theorem rx_out {K : PySem.W.Frag} {t : XK → TE} {σ : L2.St} {H : Hp} {c : Str} (h : ∀ E, RX K (t E) σ H E c) : OutSays K (fun E H' Q' => t E σ H' Q') H (.own c) := fun H1 e E x Q => h E H1 e x Q
theorem er_out {K : PySem.W.Frag} {α : Type} [Rep α] {t : XK → TE} {σ : L2.St} {H : Hp} {x : α} (h : ∀ E, ER K (t E) σ H x) : OutSays K (fun E H' Q' => t E σ H' Q') H .ret := fun H1 e E Q q => h E H1 e Q fun v H2 e2 _ => q v H2 e2
/-- a def that makes lambdas: it hands back True -/
def spY (K : PySem.W.Frag) (T : List (Addr × Str)) (n : Nat) (pre : List PyData → Prop) : Sp := fun vs H Q _ => vs.length = n ∧ ∃ ds, rels K H vs ds ∧ pre ds ∧ Tabs T H ∧ ∀ H', ExtT H H' → Tabs T H' → Q (.bl true) H'
theorem AllSays.getD {K : PySem.W.Frag} {σ : L2.St} {H : Hp} {Rs : List LamR} {os : List Out} {i : Nat} {R : LamR} (h : AllSays K σ H Rs os) (hl : Rs.length = os.length) (hR : Rs[i]? = some R) : OutSays K (fun E H' Q' => R.t E σ H' Q') H (os.getD i .ret) := by
  have lt : i < os.length := by
    rw [← hl]
    exact (List.getElem?_eq_some_iff.mp hR).1
  exact h.at hR (by rw [List.getElem?_eq_getElem lt, List.getD_eq_getElem?_getD, List.getElem?_eq_getElem lt]; rfl)
theorem okO_getD {K : PySem.W.Frag} {cs : List Str} {os : List Out} {i : Nat} (h : ∀ o ∈ os, OkO K cs o) : OkO K cs (os.getD i .ret) := by
  rw [List.getD_eq_getElem?_getD]
  cases e : os[i]? with
  | none => trivial
  | some o => exact h o (List.mem_of_getElem? e)
theorem fil_i {q : Str} {cs : List (Str × Addr)} {Ls : List LamC} {n : Nat} {f : Nat → Bool} (h : ∀ i < n, f i = false) : (((List.range n).map LamI.mk : List (LamI q cs Ls)).filter (fun x => f x.i)).map (fun x => x) = [] := by
  rw [List.map_eq_nil_iff, List.filter_eq_nil_iff]
  intro x hx
  obtain ⟨i, hi, rfl⟩ := List.mem_map.mp hx
  rw [h i (List.mem_range.mp hi)]
  exact Bool.false_ne_true
theorem fil_p {q : Str} {cs : List (Str × Addr)} {Ls : List LamC} {idx : List (Str × Nat)} {f : Str → Nat → Bool} (h : ∀ p ∈ idx, f p.1 p.2 = false) : (((idx.map fun p => (p.1, LamI.mk p.2)) : List (Str × LamI q cs Ls)).filter (fun x => f x.1 x.2.i)).map (fun x => x.1) = [] := by
  rw [List.map_eq_nil_iff, List.filter_eq_nil_iff]
  intro x hx
  obtain ⟨p, hp, rfl⟩ := List.mem_map.mp hx
  rw [h p hp]
  exact Bool.false_ne_true
theorem mem_own {K : PySem.W.Frag} {cs : List Str} {os : List Out} (h : (os.all fun o => match o with
  | .ret => true
  | .own c => decide (c ∈ cs)
  | .many _ => false) = true) : ∀ o ∈ os, OkO K cs o := fun o ho => by
  have h1 := List.all_eq_true.mp h o ho
  cases o with
  | ret => trivial
  | own c => exact (show c ∈ cs from of_decide_eq_true h1)
  | many n => cases h1
theorem bd_of {K : PySem.W.Frag} {x qual : Str} {params : Arguments} {body : List Stmt} {scope : Scope} {kws : List (Str × V)} {fd : FuncData} {ps : List Str} {N : List Str} {P : Program} {w : World} {mg : Str → Option Value} {base : Heap} {k n : Nat} {Ts : List (Addr × Str)} {pre : List PyData → Prop} {st : Str × Option Str}
    (F : FunD K x qual params body scope [] kws (He.fAd K st) fd) (S : FnScope N ps scope) (hl : ps.length = n)
    (h : ∀ (A : Around) (outer : List Env) (s : Shared) (H : Hp) (Q : VK) (E : XK) (vs : List V) (ds : List PyData), vs.length = n → rels K H vs ds → pre ds → Tabs Ts H → (∀ H', ExtT H H' → Tabs Ts H' → Q (.bl true) H') →
      Room k (A.deeper (envOfC qual scope s.heap.objs.size (He.fAd K st) (.ref (He.codeOf K st)))) →
      ∃ t, PSs (cxOf C8.CX0 P w K mg base N qual scope (He.fAd K st) (.ref (He.codeOf K st)) A outer s H E) body t ∧ t { nx := fun _ H' => Q .non H', rt := Q } (start N vs) H) : FnOk P w K mg base C8.CX0 (k + 1) (He.fAd K st) fd ps (spY K Ts n pre) := by
  obtain ⟨oc, od, dV, kV, doc, pm, an, cdv, ct, osl, rfl, lk, hcd, _, _⟩ := F.ex
  obtain ⟨c, rfl⟩ := He.codeIn_ref hcd
  have ec : He.codeOf K st = c := He.codeOf_eq lk rfl
  subst ec
  refine fn_of lk hcd S (fun vs H Q E hs => hs.1.trans hl.symm) fun A outer s H vs Q E hr hs => ?_
  obtain ⟨hv, ds, hd, hp, tb, q⟩ := hs
  exact h A outer s H Q E vs ds hv hd hp tb q hr
end Sf

/-! ### a comprehension whose tests call lambdas of the maker -/
namespace L2
open PySem PySem.Spec PyProof.Rows
section
variable {X : Cx}
theorem lc_coreM {pins : List (Addr × Obj)} {s : Shared} {σ : St} {H : Hp} {Q : VK} {elt tg iter : Expr} {ifs : List Expr} {scope : Scope} {own : List (Str × Nat)} {pos pos' : Pos} {wi : TI} {g : TG} {te : TE} {use : Option (Value → Sem Unit)} {Qf : Value → Shared → Prop} {ttf : St → TT}
    (hc : X.calm = true) (hN : X.N.Nodup) (I : Inv X pins σ H s) (hi : PI X tg iter wi) (ok : BlkOk X.N X.env.scope scope own)
    (hg : ∀ (s : Shared) (H : Hp) (C : Addr) (cl : List (Str × Addr)) (fp : List Addr), PG (X.blk s H scope (compEnvC scope cl C X.env) fp) tg g) (ht : ∀ (s : Shared) (H : Hp) (C : Addr) (cl : List (Str × Addr)) (fp : List Addr) (σ : St), (∃ pins, Inv X pins σ H s ∧ ∀ b ∈ fp, FpOk X pins H b) → PTs (X.blk s H scope (compEnvC scope cl C X.env) fp) ifs (ttf σ))
    (he : ∀ (s : Shared) (H : Hp) (C : Addr) (cl : List (Str × Addr)) (fp : List Addr), PE (X.blk s H scope (compEnvC scope cl C X.env) fp) elt te) (hs : ∀ x, foldedSetIterable iter X.env x = pure x) (h : tLc wi g (ttf σ) te (own.map (·.2)) σ H Q)
    (back : ∀ D C s' m H', Inv X pins σ H' s' → Q (.ref D) H' → s'.heap.Ns C m → FpOk X pins H' C → compPost (model X.prog X.w) X.A X.xe use Qf (.ref D) C (.ok .next) s') :
    wpAny (model X.prog X.w) X.A (comprehension (.ListComp elt [⟨tg, iter, ifs, 0⟩] scope pos) scope X.env pos' (newList []) false (eval iter X.env) use) Qf X.xe s := by
  have frees : ∀ y ∈ scope.names, y.2 = .free → ∃ c, X.env.cells.lookup y.1 = some c := fun y hy e => (ok.free y hy e).elim (fun k => I.ok.has _ (.inl k)) (fun k => I.ok.has _ (.inr k))
  refine wpAny_comprehension_free (use := use) rfl hs (closure_ok frees) ok.kind (fun y hy e => by rw [ok.uniq y hy, e]) (thn (hi.run pins s σ H _ I h) fun xv sa za => thn za fun iv sb zb => ?_)
  obtain ⟨it, fp, tn, J, Hb, rfl, Ib, T, stb, fb, q⟩ := zb
  refine wpAny_newObj_type (newEnv_comp ?_) (by show 0 ≤ sizeLine; decide)
  obtain ⟨D, eD⟩ : ∃ D, sb.heap.objs.size = D := ⟨_, rfl⟩
  have noD : Hb D = none := Ib.hok.fresh (Nat.le_of_eq eD)
  obtain ⟨W, ⟨m0, w0⟩, turn⟩ := q D noD
  obtain ⟨sc, esc⟩ : ∃ sc : Shared, ({ sb with heap := sb.heap.push { cls := .type "list", data := .seq ([] : List Value).toArray } } : Shared) = sc := ⟨_, rfl⟩
  have Ic : Inv X pins σ (upd Hb D (.lst [])) sc := by
    subst esc
    subst eD
    exact Ib.laid (t' := sb.toks) (fun b o e => Heap.get?_push_of_some _ e) (Nat.le_refl _) ⟨Nat.zero_le _, [], 0, .nil, Heap.get?_push_size _ rfl⟩
  have hpc : sc.heap = sb.heap.push { cls := .type "list", data := .seq ([] : List Value).toArray } := by rw [← esc]
  have lts : ∀ b ∈ fp, b < sb.heap.objs.size := fun b hb => by
    obtain ⟨o, e, _⟩ := T.obj _ _ stb b hb
    exact Heap.lt_size e
  have fc : ∀ b ∈ fp, FpOk X pins (upd Hb D (.lst [])) b ∧ b < sc.heap.objs.size := fun b hb => by
    have lt := lts b hb
    refine ⟨⟨?_, (fb b hb).2⟩, ?_⟩
    · rw [upd_ne (by rw [← eD]; exact Nat.ne_of_lt lt)]
      exact (fb b hb).1
    · rw [hpc, Heap.size_push]
      exact Nat.lt_succ_of_lt lt
  have stc : tn 0 sc.heap := T.keep _ _ _ stb fun b _ o e => by
    rw [hpc]
    exact Heap.get?_push_of_some _ e
  have Id := block_start Ic ok hN fc
  have pg := hg sc (upd Hb D (.lst [])) sc.heap.objs.size (cellsFrom (sc.heap.objs.size + 1) scope.names (cloFrom X.env.cells scope.names [])) fp
  have pt := ht sc (upd Hb D (.lst [])) sc.heap.objs.size (cellsFrom (sc.heap.objs.size + 1) scope.names (cloFrom X.env.cells scope.names [])) fp σ ⟨pins, Ic, fun b hb => (fc b hb).1⟩
  have pe := he sc (upd Hb D (.lst [])) sc.heap.objs.size (cellsFrom (sc.heap.objs.size + 1) scope.names (cloFrom X.env.cells scope.names [])) fp
  subst eD
  rw [esc]
  show codeAny _ _ (.compStart (.ListComp elt [⟨tg, iter, ifs, 0⟩] scope pos) 0 (.ref it) (.ref sb.heap.objs.size) (compEnvC scope (cellsFrom (sc.heap.objs.size + 1) scope.names (cloFrom X.env.cells scope.names [])) sc.heap.objs.size X.env)) (compPost (model X.prog X.w) X.A X.xe use Qf (.ref sb.heap.objs.size) sc.heap.objs.size) { sc with heap := pushCells (sc.heap.push { cls := .type "dict", data := .dict #[] }) scope.names }
  have nofp : ∀ b ∈ fp, (upd Hb sb.heap.objs.size (.lst [])) b = none := fun b hb => (fc b hb).1.1
  obtain ⟨ce, ece⟩ : ∃ ce, compEnvC scope (cellsFrom (sc.heap.objs.size + 1) scope.names (cloFrom X.env.cells scope.names [])) sc.heap.objs.size X.env = ce := ⟨_, rfl⟩
  have atL : ce.locals = sc.heap.objs.size := by
    subst ece
    rfl
  rw [ece] at Id pg pt pe ⊢
  obtain ⟨Hc, eHc⟩ : ∃ Hc, upd Hb sb.heap.objs.size (.lst []) = Hc := ⟨_, rfl⟩
  rw [eHc] at Ic Id pg pt pe w0 nofp fc
  obtain ⟨sd, esd⟩ : ∃ sd : Shared, ({ sc with heap := pushCells (sc.heap.push { cls := .type "dict", data := .dict #[] }) scope.names } : Shared) = sd := ⟨_, rfl⟩
  rw [esd] at Id ⊢
  have std : tn 0 sd.heap := T.keep _ _ _ stc fun b _ o e => by
    rw [← esd]
    exact pushCells_keeps _ _ _ _ (Heap.get?_push_of_some _ e)
  have stays : ∀ {τ : St} {H' : Hp} {s' : Shared}, Inv (X.blk sc Hc scope ce fp) [] τ H' s' → (∀ b ∈ fp, H' b = none) → ∀ b ∈ fp, FpOk (X.blk sc Hc scope ce fp) [] H' b := fun {τ H' s'} I' hn b hb =>
    ⟨hn b hb, (I'.ok.exf b hb).1, I'.ok.exfs b hb, .inl hb, fun x c e => (I'.ok.exf b hb).2 x c e, fun p hp => absurd (show p ∈ ([] : List (Addr × Obj)) ++ [] from hp) (by simp)⟩
  have loop : codeAny (model X.prog X.w) X.A (.compLoop (.ListComp elt [⟨tg, iter, ifs, 0⟩] scope pos) 0 (.ref it) (.ref sb.heap.objs.size) ce) (compPost (model X.prog X.w) X.A X.xe use Qf (.ref sb.heap.objs.size) sc.heap.objs.size) sd := by
    refine compLoop_any (fun n s' => ∃ i H', Inv (X.blk sc Hc scope ce fp) [] (wipe σ (own.map (·.2))) H' s' ∧ tn i s'.heap ∧ (∀ b ∈ fp, H' b = none) ∧ W i n H') ?_ m0 ⟨0, Hc, Id, std, nofp, w0⟩
    rintro n se ⟨i, He, Ie, ste, ne, we⟩
    rcases turn i n He we with ⟨stop, qq⟩ | ⟨go, Nx, next_, step⟩
    · refine thnF (T.done (X.blk sc Hc scope ce fp) rfl rfl rfl hc i [] se _ He (fun _ _ => False) Ie (stays Ie ne) ste stop) fun r sf zf => ?_
      obtain ⟨rfl, If⟩ := zf
      have Ig : Inv X pins σ He sf := Ic.call' (ch := fp) If.os If.base If.hok If.bare fun b hb => ⟨(fc b hb).1.2.2.2.1, (fc b hb).1.2.1, (fc b hb).1.2.2.2.2.1, (fc b hb).1.2.2.2.2.2⟩
      have noC : He sc.heap.objs.size = none := by
        have z : He ce.locals = none := If.free
        rw [atL] at z
        exact z
      obtain ⟨m, nsm, _⟩ := If.loc
      have nsm : sf.heap.Ns ce.locals m := nsm
      rw [atL] at nsm
      exact back sb.heap.objs.size sc.heap.objs.size sf m He Ig qq nsm (Ic.fpOk (Nat.le_refl _) noC)
    · refine thnF (T.item (X.blk sc Hc scope ce fp) rfl rfl rfl hc i [] se _ He (fun _ _ => False) Ie (stays Ie ne) ste go) fun r sf zf => ?_
      obtain ⟨u, rfl, zf⟩ := zf
      refine thnF zf fun _ sg ⟨x, Hg, Ig, rg, yg, stg, ng⟩ => ?_
      have Ig' := Ig.pinned (stays Ig ng) (T.obj _ _ stg)
      refine thnF (pg.run _ sg _ Hg x u _ Ig' rg (step x Hg yg)) fun _ sh ⟨τ, Hh, Ih, wh, qh⟩ => ?_
      refine thnF (pt.run _ sh τ Hh _ Ih qh) fun b si ⟨Hi, Ii, qi⟩ => ?_
      have fin : ∀ {s' : Shared} {H' : Hp}, Inv (X.blk sc Hc scope ce fp) ([] ++ pinsAt fp sg.heap) τ H' s' → Nx H' → ∃ m, m < n ∧ ∃ i H', Inv (X.blk sc Hc scope ce fp) [] (wipe σ (own.map (·.2))) H' s' ∧ tn i s'.heap ∧ (∀ b ∈ fp, H' b = none) ∧ W i m H' := fun {s' H'} I' nx => by
        obtain ⟨m', lt, w'⟩ := next_ H' nx
        have pinned_ : ∀ b ∈ fp, ∀ o, sg.heap.get? b = some o → s'.heap.get? b = some o ∧ H' b = none := fun b hb o e =>
          ⟨(I'.pin (b, o) (List.mem_append_right _ (List.mem_append_right _ (mem_pinsAt hb e)))).1, (I'.pin (b, o) (List.mem_append_right _ (List.mem_append_right _ (mem_pinsAt hb e)))).2.1⟩
        have len_ : (wipe σ (own.map (·.2))).length = τ.length := by rw [← wh, wipe_length]
        refine ⟨m', lt, i + 1, H', (I'.unpinned (pins := [])).weak len_ (fun j v e => ?_), T.keep _ _ _ stg fun b hb o e => (pinned_ b hb o e).1, fun b hb => ?_, w'⟩
        · rw [← wh] at e
          exact (wipe_some e).1
        · obtain ⟨o, e, _⟩ := T.obj _ _ stg b hb
          exact (pinned_ b hb o e).2
      cases b with
      | false =>
        simp only [Bool.false_eq_true, if_false] at qi ⊢
        exact fin Ii qi
      | true =>
        simp only [if_true] at qi ⊢
        refine thnF (pe.run _ si τ Hi _ Ii qi) fun z sj ⟨yv, Hj, Ij, rj, acc, atD, lz, nx⟩ => ?_
        exact app_ok (X := X.blk sc Hc scope ce fp) Ij atD lz rj fun sk Ik => fin Ik nx
  exact codeAny_compStart_list loop (T.self X.A 0 _ _ _ std loop)
def tLcM (wi : TI) (g : TG) (ttf : St → TT) (te : TE) (vs : List Nat) : TE := fun σ H Q => tLc wi g (ttf σ) te vs σ H Q
theorem pe_lcM {elt tg iter : Expr} {ifs : List Expr} {scope : Scope} {own : List (Str × Nat)} {pos : Pos} {wi : TI} {g : TG} {ttf : St → TT} {te : TE} (hc : X.calm = true) (hN : X.N.Nodup) (hi : PI X tg iter wi) (ok : BlkOk X.N X.env.scope scope own)
    (hg : ∀ (s : Shared) (H : Hp) (C : Addr) (cl : List (Str × Addr)) (fp : List Addr), PG (X.blk s H scope (compEnvC scope cl C X.env) fp) tg g) (ht : ∀ (s : Shared) (H : Hp) (C : Addr) (cl : List (Str × Addr)) (fp : List Addr) (σ : St), (∃ pins, Inv X pins σ H s ∧ ∀ b ∈ fp, FpOk X pins H b) → PTs (X.blk s H scope (compEnvC scope cl C X.env) fp) ifs (ttf σ))
    (he : ∀ (s : Shared) (H : Hp) (C : Addr) (cl : List (Str × Addr)) (fp : List Addr), PE (X.blk s H scope (compEnvC scope cl C X.env) fp) elt te) (hs : ∀ x, foldedSetIterable iter X.env x = pure x := by intro _; rfl) :
    PE X (.ListComp elt [⟨tg, iter, ifs, 0⟩] scope pos) (tLcM wi g ttf te (own.map (·.2))) := by
  refine ⟨fun pins s σ H Q I h => ?_⟩
  rw [eval_ListComp]
  refine lc_coreM hc hN I hi ok hg ht he hs h fun D C s' m H' J q ns f => ⟨m, ns, fun h2 sb => ?_⟩
  exact ⟨.ref D, H', J.turned (t' := s'.toks) (fun b o hb e => (sb.2 b hb).trans e) f.1 f.2.1 f.2.2.2.1 f.2.2.2.2.1 f.2.2.2.2.2, rfl, q⟩
end
end L2
namespace Sf
open PySem PySem.Spec PyProof.Rows L2 Evl
open LamX (CodeO TabS Tabs ExtN TabB LamS lamEnv lamCx)
/-- x(e) in a comprehension's block: τ0 the maker's slots -/
def tNmB (q : Str) (cells : List (Str × Addr)) (Ls : List LamR) (TT : (XK → Hp → VK → Prop) → Hp → VK → Prop) (te : TE) (τ0 : L2.St) : TE := fun σ H Q => te σ H fun v H1 => ∃ R ∈ Ls, ∃ f d, v = .ref f ∧ H1 f = some (LamO q (cloFrom cells R.L.sc.names []) R.L f d) ∧ H1 d = some (CodeO d q) ∧ TT (fun E H' Q' => R.t E τ0 H' Q') H1 Q
theorem pe_namedB {X : Cx} {s0 : Shared} {H0 : Hp} {sc0 : Scope} {cl0 : List (Str × Addr)} {C0 : Addr} {fp : List Addr} {τ0 : L2.St} (mk : ∃ pins, Inv X pins τ0 H0 s0 ∧ ∀ b ∈ fp, FpOk X pins H0 b) {x a : Str} {params : Arguments} {body : List Stmt} {scope : Scope} {g : Addr} {fd : FuncData} {k : Nat} {Ng : List Str} {Ls : List LamR} {TT : (XK → Hp → VK → Prop) → Hp → VK → Prop} {e : Expr} {te : TE} {p pos : Pos}
    (F : FunD X.K x x params body scope [] [] g fd) (S : FnScope Ng [a] scope) (bd : Binds X.K fd [a] []) (hg : Gl (X.blk s0 H0 sc0 (compEnvC sc0 cl0 C0 X.env) fp) x) (hm : X.mg x = some (.ref g)) (hr : Room (k + 2) X.A)
    (lams : ∀ R ∈ Ls, LamS X.env.scope R.L.sc ∧ (∀ (cl : List (Str × Addr)) (pm cv ctv : Value), bindArgs (PySem.W.kla_fn "<lambda>" (X.env.qual ++ "<lambda>") R.L.pa R.L.bd R.L.sc cl pm cv ctv) ⟨[], []⟩ = pure []) ∧
      ∀ (E : XK) (A : Around) (outer : List Env) (s : Shared) (H : Hp) (f d : Addr), Room k (A.deeper (lamEnv X R.L.sc s.heap.objs.size f d)) → PE (lamN X A outer s H E R.L.sc f d) R.L.bd (R.t E))
    (hG : GivesN X.prog X.w X.K X.mg X.base X.A X.stack k x a Ng scope g body TT) (he : PE (X.blk s0 H0 sc0 (compEnvC sc0 cl0 C0 X.env) fp) e te) (h0 : Ng[0]? = some a) (hv : Vis scope a) (hdb : (x == ("__debug__" : Str)) = false := by decide) (nd : (a == ("__debug__" : Str)) = false := by decide) (nc : (a == ("__classdict__" : Str)) = false := by decide)
    (hst : starEach (e :: []) (compEnvC sc0 cl0 C0 X.env) = (false, eval e (compEnvC sc0 cl0 C0 X.env)) :: starEach [] (compEnvC sc0 cl0 C0 X.env) := by rfl) (hpl : (backTo pos (starEach [] (compEnvC sc0 cl0 C0 X.env))).any (·.1) = false := by rfl) :
    PE (X.blk s0 H0 sc0 (compEnvC sc0 cl0 C0 X.env) fp) (.Call (.Name x p) [e] [] pos) (tNmB (X.env.qual ++ "<lambda>") X.env.cells Ls TT te τ0) := by
  obtain ⟨pins0, I0, ff⟩ := mk
  refine ⟨fun pins s σ H Q I h => ?_⟩
  obtain ⟨oc, od, dV, kV, doc, pm, an, cdv, ct, osl, rfl, lk, hcd, _, _⟩ := F.ex
  refine wpAny_Call_Name_kw (ld_glob I hg hm ?_ hdb)
  have args := (pa_cons (hs := hst) he pa_nil).run pos pins s σ H (fun vs H1 => match vs with
    | [v] => ∃ R ∈ Ls, ∃ f d, v = .ref f ∧ H1 f = some (LamO (X.env.qual ++ "<lambda>") (cloFrom X.env.cells R.L.sc.names []) R.L f d) ∧ H1 d = some (CodeO d (X.env.qual ++ "<lambda>")) ∧ TT (fun E H' Q' => R.t E τ0 H' Q') H1 Q
    | _ => False) I h
  refine PySem.W.callWith_K (h₀ := X.base) I.ok.mod.kin F.kp (thn args fun us s1 hh => ?_) hst hpl
  obtain ⟨vs, H1, I1, r1, q1⟩ := hh
  match vs, q1, r1 with
  | [v], q1, r1 =>
  obtain ⟨R, hR, f, d, rfl, lamf, coded, told⟩ := q1
  refine ⟨I1.kIn, ?_⟩
  obtain ⟨names, nobind, run⟩ := lams R hR
  have IM : Inv X pins0 τ0 H1 s1 := I0.call' (ch := fp) I1.os I1.base I1.hok I1.bare fun b hb => ⟨(ff b hb).2.2.2.1, (ff b hb).2.1, (ff b hb).2.2.2.2.1, (ff b hb).2.2.2.2.2⟩
  have done_ : codeAny (model X.prog X.w) X.A (.call (.ref g) ⟨us, []⟩) (CR C8.CX0 X.stack X.prog X.w H1 s1 Q C8.E0) s1 := by
    refine LamX.run_ofS (N := Ng) (ps := [a]) (us := us) (vs := [.ref f]) lk hcd S hr I1.env0 ?_ r1 rfl fun hr' => ?_
    · have b2 := bd s1 us I1.kIn (by have := r1.length; simpa using this.symm)
      simpa using b2
    · exact hG cdv f (fun HZ => HZ f = some (LamO (X.env.qual ++ "<lambda>") (cloFrom X.env.cells R.L.sc.names []) R.L f d) ∧ HZ d = some (CodeO d (X.env.qual ++ "<lambda>"))) s1 H1 Q _
        (fun W pn xe p1 p2 tk => ⟨fun pz sz τ HZ Q IZ z => (pe_lamact (i := 0) (p1 := p1) (p2 := p2) IM names nobind tk hr' (fun E A outer s H hr2 => run E A outer s H f d hr2) h0 hv nd nc).run pz sz τ HZ Q IZ ⟨z.1, z.2.1.1, z.2.1.2, z.2.2⟩⟩) ⟨lamf, coded⟩ hr' told
  refine wpAny_call (codeAny_mono done_ fun r s2 hq => ?_)
  cases r with
  | error e => exact (show False from hq).elim
  | ok fl =>
    cases fl with
    | ret u => exact I1.after hq
    | next => exact False.elim hq
    | brk => exact False.elim hq
    | cont => exact False.elim hq
theorem er_nmB {K : PySem.W.Frag} {cs : List Str} {nm : Out → Str} {σ τ0 : L2.St} {H : Hp} {te : TE} {o : Out} {q : Str} {cells : List (Str × Addr)} {Ls : List LamR} {x : LamI q cells (Ls.map LamR.L)} (h : ER K te σ H x) (hs : ∀ R, Ls[x.i]? = some R → OutSays K (fun E H' Q' => R.t E τ0 H' Q') H o) (ok : OkO K cs o) : ER K (tNmB q cells Ls (NameT K cs nm) te τ0) σ H (nm o) := fun H1 e Q k => h H1 e _ fun v H2 e2 r => by
  obtain ⟨f, c, L, rfl, hL, h3, h4⟩ := r
  obtain ⟨R, hR, rfl⟩ := map_at hL
  exact ⟨R, List.mem_of_getElem? hR, f, c, rfl, h3, h4, o, (hs R hR).ex (e.trans e2), ok, fun H3 e3 => k _ H3 (e2.trans e3) rfl⟩
theorem er_lcM {α : Type} [Rep α] {K : PySem.W.Frag} {σ : L2.St} {H : Hp} {wi : TI} {g : TG} {ttf : L2.St → TT} {te : TE} {vs : List Nat} {x : α} (h : ER K (tLc wi g (ttf σ) te vs) σ H x) : ER K (tLcM wi g ttf te vs) σ H x := h
end Sf

namespace Sf
open PySem PySem.Spec PyProof.Rows L2 Evl
open LamX (CodeO TabS Tabs ExtN TabB LamS lamEnv lamCx)
/-! ### the law's own text: makers called, lambdas made on the spot -/
def ETY (Ts : List (Addr × Str)) (tt : TT) (σ : L2.St) (H : Hp) (b : Bool) : Prop := ∀ Q : Bool → Hp → Prop, (∀ H1, ExtT H H1 → Tabs Ts H1 → Q b H1) → tt σ H Q
section
variable {K : PySem.W.Frag} {Ts : List (Addr × Str)} {σ : L2.St} {H : Hp} {te ta tb : TE} {tt tu : TT} {tA : TA} {E : XK} {b : Bool} {ds : List PyData} {n : Nat} {pre : List PyData → Prop} {t1 t2 u : TS} {D : Ends}
theorem ety_of (hT : Tabs Ts H) (h : ET K tt σ H b) : ETY Ts tt σ H b := fun Q k => h H (Ex.refl _) Q fun H1 e => k H1 (.of e) (hT.ext e)
theorem ety_mk (hT : Tabs Ts H) (ha : EAs K tA σ H ds) (hn : ds.length = n) (hp : pre ds) : ETY Ts (tB (tCall (spY K Ts n pre) [] E tA)) σ H true := fun Q k => ha H (Ex.refl _) _ fun vs H1 e r => by
  rw [List.append_nil]
  exact ⟨(rels_len r).trans hn, ds, r, hp, hT.ext e, fun H2 e2 t2 => ⟨true, rfl, k H2 (.trans (.of e) e2) t2⟩⟩
theorem ety_is {c : Bool} (h : ETY Ts tt σ H c) (e : c = b) : ETY Ts tt σ H b := e ▸ h
theorem ety_not (h : ETY Ts tt σ H b) : ETY Ts (tNot tt) σ H (!b) := fun Q k => h _ fun H1 e t => k H1 e t
theorem ety_or (h1 : ETY Ts tt σ H false) (h2 : ∀ H1, ExtT H H1 → Tabs Ts H1 → ETY Ts tu σ H1 false) : ETY Ts (tOr tt tu) σ H false := fun Q k => h1 _ fun H1 e t => by
  rw [if_neg Bool.false_ne_true]
  exact h2 H1 e t Q fun H2 e2 t2 => k H2 (e.trans e2) t2
theorem q_noY (K : PySem.W.Frag) (h : ETY Ts tt σ H false) (k : ∀ H1, ExtT H H1 → Tabs Ts H1 → u D σ H1) : tSeq (tIfS tt t1 tNext) u D σ H := h _ fun H1 e t => by
  rw [if_neg Bool.false_ne_true]
  exact k H1 e t
theorem l_noY (K : PySem.W.Frag) (h : ETY Ts tt σ H false) (k : ∀ H1, ExtT H H1 → Tabs Ts H1 → D.nx σ H1) : tIfS tt t1 tNext D σ H := h _ fun H1 e t => by
  rw [if_neg Bool.false_ne_true]
  exact k H1 e t
theorem ey_nm {cs : List Str} {nm : Out → Str} {q : Str} {cells : List (Str × Addr)} {Ls : List LamR} {R : LamR} {o : Out} (hT : Tabs Ts H) (hR : R ∈ Ls) (says : ∀ H1, ExtT H H1 → OutSays K (fun E H' Q' => R.t E σ H' Q') H1 o) (ok : OkO K cs o) : EY K Ts (tNm q cells Ls (NameT K cs nm) (tLamM Ts q (cloFrom cells R.L.sc.names []) R.L)) σ H (nm o) := fun Q k => by
  refine ⟨hT, fun f d H1 e t hn hd => ⟨R, hR, f, d, rfl, upd_same, ?_, o, says _ (e.trans (.new hn)), ok, fun H2 e2 => k _ H2 ((e.trans (.new hn)).trans (.of e2)) ((tabs_upd t hn).ext e2) rfl⟩⟩
  rw [upd_ne (ne_of_none hd hn)]
  exact hd
theorem ety_neS {x w : Str} (h : EY K Ts te σ H x) : ETY Ts (tTest (tOp rNe te (tC (.str w)))) σ H (!decide (x = w)) := fun Q k => h _ fun v H1 e t r => by
  cases r
  refine ⟨rfl, _, rfl, ?_⟩
  have e2 : (!decide (V.str x = V.str w)) = !decide (x = w) := by simp only [V.str.injEq]
  rw [e2]
  exact k H1 e t
/-- return x(lambda: ..) == w and .. -/
theorem l_retY {x w : Str} {Q : VK} {nx bk ct} (h : EY K Ts te σ H x) (hx : x = w) (h2 : ∀ H1, ExtT H H1 → Tabs Ts H1 → ER K tb σ H1 true) (k : ∀ H1, Q (.bl true) H1) : tRet (tAndV (tOp rEq te (tC (.str w))) tb) ⟨nx, Q, bk, ct⟩ σ H := h _ fun v H1 e t r => by
  cases r
  subst hx
  refine ⟨rfl, true, ?_, ?_⟩
  · simp only [decide_true]
  · rw [if_pos rfl]
    exact h2 H1 e t H1 (Ex.refl _) _ fun v H2 e2 r => by
      cases r
      exact k H2
/-- return x(lambda: ..) == w -/
theorem l_retY1 {x w : Str} {Q : VK} {nx bk ct} (h : EY K Ts te σ H x) (hx : x = w) (k : ∀ H1, Q (.bl true) H1) : tRet (tOp rEq te (tC (.str w))) ⟨nx, Q, bk, ct⟩ σ H := h _ fun v H1 e t r => by
  cases r
  subst hx
  refine ⟨rfl, ?_⟩
  simp only [decide_true]
  exact k H1
end
/-- a list as the caller handed it: kept by all that keeps what is never changed -/
theorem eyL {K : PySem.W.Frag} {H H' : Hp} {a : Addr} {xs : List V} (e : Ey H H') (h : SqL K H a xs) : SqL K H' a xs := by
  rcases h with (h | ⟨ob, h⟩) | h
  · rcases e _ _ h with z | z
    · cases z
    · exact .inl (.inl z)
  · exact .inl (.inr ⟨ob, ey_frz e h⟩)
  · exact .inr h
theorem exL {K : PySem.W.Frag} {H H' : Hp} {a : Addr} {xs : List V} (e : Ex H H') (h : SqL K H a xs) : SqL K H' a xs := eyL e.y h
section
variable {K : PySem.W.Frag} {σ : L2.St} {H : Hp} {tb : TE} {E : XK}
theorem er_sourceL {a : Addr} {ns : List Int} {n : Int} {i : Nat} (h : σ[i]? = some (some (.ref a))) (hs : SqL K H a (ns.map V.int)) (hb : ER K tb σ H n) (h0 : 0 ≤ n) (h1 : n ≤ 1000000) : ER K (tCall (SP_source K) [] E (tCons (tVar i) (tCons tb tNil))) σ H Src.mk := fun H1 e Q q =>
  ⟨.ref a, h, hb H1 e _ fun v H2 e2 r => by
    cases r
    exact ⟨a, ns, n, rfl, exL (e.trans e2) hs, h0, h1, fun v H' e3 r => q v H' (e2.trans e3) r⟩⟩
theorem er_lenScriptL {a : Addr} {ns : List Int} {i : Nat} (h : σ[i]? = some (some (.ref a))) (hs : SqL K H a (ns.map V.int)) : ER K (tCB (rLenQ K) (tCons (tVar i) tNil)) σ H (ns.length : Int) := fun H2 e2 Q q => ⟨.ref a, h, a, ns.map V.int, rfl, .inl (exL e2 hs), by
  rw [List.length_map]
  exact q _ H2 (Ex.refl _) rfl⟩
end
/-- the law's promise, tables told -/
def SP_lawT (K : PySem.W.Frag) (Ts : List (Addr × Str)) : Sp := fun vs H Q _ => ∃ (a : Addr) (ns : List Int), vs = [.ref a] ∧ SqL K H a (ns.map V.int) ∧ ns.length ≤ 63 ∧ Tabs Ts H ∧ ∀ H', Q (.bl true) H'
theorem bd_law {K : PySem.W.Frag} {x qual : Str} {params : Arguments} {body : List Stmt} {scope : Scope} {kws : List (Str × V)} {fd : FuncData} {ps : List Str} {N : List Str} {P : Program} {w : World} {mg : Str → Option Value} {base : Heap} {k : Nat} {Ts : List (Addr × Str)} {st : Str × Option Str}
    (F : FunD K x qual params body scope [] kws (He.fAd K st) fd) (S : FnScope N ps scope) (hl : ps.length = 1)
    (h : ∀ (A : Around) (outer : List Env) (s : Shared) (H : Hp) (Q : VK) (E : XK) (a : Addr) (ns : List Int), SqL K H a (ns.map V.int) → ns.length ≤ 63 → Tabs Ts H → (∀ H', Q (.bl true) H') →
      Room k (A.deeper (envOfC qual scope s.heap.objs.size (He.fAd K st) (.ref (He.codeOf K st)))) →
      ∃ t, PSs (cxOf C8.CX0 P w K mg base N qual scope (He.fAd K st) (.ref (He.codeOf K st)) A outer s H E) body t ∧ t { nx := fun _ H' => Q .non H', rt := Q } (start N [.ref a]) H) : FnOk P w K mg base C8.CX0 (k + 1) (He.fAd K st) fd ps (SP_lawT K Ts) := by
  obtain ⟨oc, od, dV, kV, doc, pm, an, cdv, ct, osl, rfl, lk, hcd, _, _⟩ := F.ex
  obtain ⟨c, rfl⟩ := He.codeIn_ref hcd
  have ec : He.codeOf K st = c := He.codeOf_eq lk rfl
  subst ec
  refine fn_of lk hcd S (fun vs H Q E hs => ?_) fun A outer s H vs Q E hr hs => ?_
  · obtain ⟨a, ns, rfl, _⟩ := hs
    exact hl.symm
  · obtain ⟨a, ns, rfl, h1, h2, h3, q⟩ := hs
    exact h A outer s H Q E a ns h1 h2 h3 q hr
/-- the lambda of x(lambda: ..) == w or .. -/
def cmpE : Expr → Expr
  | .BoolOp _ (.Compare (.Call _ (e :: _) _ _) _ _ _ :: _) _ => e
  | .Compare (.Call _ (e :: _) _ _) _ _ _ => e
  | .Compare (.List (.Call _ (e :: _) _ _ :: _) _) _ _ _ => e
  | e => e
def testE : Stmt → Expr
  | .If t _ _ _ => cmpE t
  | .Return (some t) _ => cmpE t
  | _ => .Constant .none 0 ⟨0, 0, 0, 0⟩
abbrev lamT (ss : List Stmt) (j : Nat) : LamC := lamE (testE (ss.getD j (.Pass ⟨0, 0, 0, 0⟩)))
/-- the suite of a for -/
def forB (ss : List Stmt) (i : Nat) : List Stmt := match ss.getD i (.Pass ⟨0, 0, 0, 0⟩) with
  | .For _ _ b _ _ => b
  | _ => []
/-! ### what is drawn, as data -/
theorem er_ofDs {K : PySem.W.Frag} {te : TE} {σ : L2.St} {H : Hp} {ys : List V} {ds : List PyData} (h : EV K te σ H ys) (hd : ∀ H, DpAll K H ys ds) : ER K te σ H (PyData.tuple ds) :=
  fun H1 e Q q => h H1 e Q fun p H2 e2 hs => q (.ref p) H2 e2 (.tup hs (hd H2))
theorem evs_N {K : PySem.W.Frag} {te : TE} {tA : TA} {σ : L2.St} {H : Hp} {vs : List V} (h : ∀ H1 (Q : VK), Q .non H1 → te σ H1 Q) (hr : EVs tA σ H vs) : EVs (tCons te tA) σ H (.non :: vs) := fun H1 e Q q => h H1 _ (hr H1 e _ fun H3 e3 => q H3 e3)
end Sf

/-! ### TooMany made where nothing is handled -/
namespace L2
open PySem PySem.Spec PyProof.Rows
section
variable {X : Cx} {C fI cc cda : Addr}
theorem pmk_manyN {x : Str} {a : Expr} {ta : TA} {p pos : Pos} {k : Nat} (T : ManyTop X x C fI cc cda) (hr : Room k X.A) (hk : 2 ≤ k) (ha : PA X [a] ta) (hg : Gl X x := by rfl) (hdb : (x == ("__debug__" : Str)) = false := by decide)
    (he : starEach (a :: []) X.env = (false, eval a X.env) :: starEach [] X.env := by rfl) (hpl : (backTo pos (starEach [] X.env)).any (·.1) = false := by rfl) :
    L2N.PMk X (.Call (.Name x p) [a] [] pos) (tMkMany C ta) := by
  intro pins s σ H Q I h
  refine wpAny_Call_Name_kw (ld_glob I hg T.gC ?_ hdb)
  refine PySem.W.callWith_K (h₀ := X.base) I.ok.mod.kin T.txt.kC (thn (ha.run pos pins s σ H _ I h) fun us s1 hh => ?_) he hpl
  obtain ⟨vs, H1, I1, r1, v, ev, q1⟩ := hh
  subst ev
  refine ⟨I1.kIn, ?_⟩
  cases r1 with
  | cons rv rn =>
    rename_i v' us'
    cases rn
    show wpAny _ _ (call (.ref C) [v']) _ _ _
    have hlim := I1.nolimit
    obtain ⟨mb, hb1, hb2⟩ := I1.mod.blt
    have hg1 := I1.mod.glob.keeps I1.bk
    have hb1 := hb1.keeps I1.bk
    obtain ⟨hp, g, dr, tk, os⟩ := s1
    refine wpAny_call (PySem.ManyX.many_made T.txt I1.kIn hlim (by have := hr.dp; omega) hg1 T.su hb1 ((hb2 "super" (by decide)).trans (by first | boot_by_name | rfl | kernel_rfl)) T.top fun h' tk' e d M => ?_)
    show L2N.MkP X pins σ Q (.ref e) ⟨h', g, dr, tk', os⟩
    obtain ⟨oe, fv, hoe, hc, hd, hdat, h1, h2⟩ := M.obj
    have hns := M.ns
    obtain ⟨G', g1, g2⟩ := restrict h' fun b => decide (b ≠ e)
    have gk : ∀ b, b ≠ e → G'.get? b = h'.get? b := fun b hb => g1 b (decide_eq_true hb)
    have ge : G'.get? e = none := g2 e (by simp)
    have old : ∀ b o, hp.get? b = some o → G'.get? b = some o := fun b o q => (gk b (Nat.ne_of_lt (Nat.lt_of_lt_of_le (Heap.lt_size q) M.new))).trans (M.keep b o q)
    have ob : ObjOk X.prog X.w (upd H1 d (.xd [(("limit" : Str), v)])) G' d (.xd [(("limit" : Str), v)]) :=
      ⟨_, hns.at (fun o q => (gk d M.dne).trans q), fun f => relO_lim rv f⟩
    have J : Inv X pins σ (upd H1 d (.xd [(("limit" : Str), v)])) ⟨G', g, dr, tk', os⟩ := I1.laid (t' := tk') old M.dbig ob
    refine ⟨e, oe, fv, ⟨G', g, dr, tk', os⟩, _, .ref C, some d, rfl, J, fun b o q => ?_, ge, hoe, ⟨hc, hd, fun vs q => by
      have q' := hdat.symm.trans q
      cases q'
      exact h2⟩, hdat, h1, ?_, rfl, I1.bare, raises_own T.txt.exC T.txt.tyC, q1 d (I1.hok.fresh M.dbig)⟩
    · by_cases hb : b = e
      · have q' : G'.get? b = some o := q
        rw [hb, ge] at q'; cases q'
      · exact (gk b hb).symm.trans q
    · rw [upd_ne (Ne.symm M.dne)]
      exact I1.hok.fresh M.new
end
end L2
namespace Sf
open PySem PySem.Spec PyProof.Rows L2 Evl
/-- the def raises TooMany(m) where bad says so -/
def spEM (K : PySem.W.Frag) (n : Nat) (m : Int) (bad : List PyData → Prop) : Sp := fun vs H _ E => vs.length = n ∧ ∃ ds, rels K H vs ds ∧ bad ds ∧ XMany m K E H
theorem rx_many {K : PySem.W.Frag} {tA : TA} {σ : L2.St} {H : Hp} {ds : List PyData} {n : Nat} {m : Int} {bad : List PyData → Prop} (h : ∀ E : XK, EAs K tA σ H ds) (hn : ds.length = n) (hb : bad ds) : OutSays K (fun E H' Q' => tCall (spEM K n m bad) [] E tA σ H' Q') H (.many m) := fun H1 e E x Q => h E H1 e _ fun vs H2 e2 r => by
  rw [List.append_nil]
  exact ⟨(rels_len r).trans hn, ds, r, hb, fun d H' e3 hd => x d H' (e2.trans e3) hd⟩
section
variable {P : Program} {w : World} {K : PySem.W.Frag} {mg : Str → Option Value} {base : Heap} {x qual : Str} {params : Arguments} {body : List Stmt} {scope : Scope} {dvs : List V} {kws : List (Str × V)} {f : Addr} {fd : FuncData} {N ps : List Str} {k n : Nat} {m : Int} {bad : List PyData → Prop}
theorem okEM (F : FunD K x qual params body scope dvs kws f fd) (S : FnScope N ps scope) (hl : ps.length = n)
    (h : ∀ (H : Hp) (Q : VK) (E : XK) (vs : List V) (ds : List PyData), vs.length = n → rels K H vs ds → bad ds → XMany m K E H → ∀ (cdv : Value) (A : Around) (outer : List Env) (s : Shared), Room k (A.deeper (envOfC qual scope s.heap.objs.size f cdv)) →
      ∃ t, PSs (cxOf (L2N.CX P w) P w K mg base N qual scope f cdv A outer s H E) body t ∧ t { nx := fun _ H' => Q .non H', rt := Q } (start N vs) H) : FnOk P w K mg base (L2N.CX P w) (k + 1) f fd ps (spEM K n m bad) := by
  refine F.ok S (fun vs H Q E hs => ?_) (fun cdv A outer s H vs Q E hr hs => ?_)
  · exact hs.1.trans hl.symm
  · obtain ⟨hv, ds, hd, hb, hx⟩ := hs
    exact h H Q E vs ds hv hd hb hx cdv A outer s hr
end
end Sf

namespace Sf
open PySem PySem.Spec PyProof.Rows L2 Evl
open LamX (CodeO TabS Tabs ExtN TabB LamS lamEnv lamCx)
/-! ### what the head of such a law says -/
theorem isx_of {K : PySem.W.Frag} {C : Addr} (m : isxB K C = true) : ExcC K C := by
  unfold isxB at m
  obtain ⟨i1, m⟩ := He.ba m
  obtain ⟨i2, m⟩ := He.ba m
  obtain ⟨i3, m⟩ := He.ba m
  obtain ⟨i4, m⟩ := He.ba m
  obtain ⟨i5, m⟩ := He.ba m
  obtain ⟨i6, m⟩ := He.ba m
  obtain ⟨i7, i8⟩ := He.ba m
  exact ⟨He.eqO_ok i1, He.eqO_ok i2, of_decide_eq_true i3, i4, He.eqO_ok i5, He.eqO_ok i6, of_decide_eq_true i7, of_decide_eq_true i8⟩
theorem kind_of {K : PySem.W.Frag} {cs : List Str} {x : Str} (h : kindB K cs x = true) : ExcC K (He.ga K x) ∧ (∀ y ∈ cs, PySem.W.kitOne K (.ref (He.ga K x)) (.ref (He.ga K y)) = some (decide (x = y))) ∧ PySem.W.kitOne K (.ref (He.ga K x)) (.type "ValueError") = some true ∧ PySem.W.exmOne K (.ref (He.ga K x)) (.ref (He.ga K "StepError")) = some true := by
  unfold kindB at h
  obtain ⟨h1, h⟩ := He.ba h
  obtain ⟨h2, h⟩ := He.ba h
  obtain ⟨h3, h4⟩ := He.ba h
  exact ⟨isx_of h1, fun y hy => of_decide_eq_true (List.all_eq_true.mp h2 y hy), of_decide_eq_true h3, of_decide_eq_true h4⟩
theorem exc_of {K : PySem.W.Frag} {h : Heap} {mg : Str → Option Value} {c : Str} (X : K.In h) (G : h.Ns mainGlobals mg) (g : (He.Fa.glo c).ok K = true) (m : (He.Fa.exc c).ok K = true) : ExcT K mg c := by
  have m2 : (PySem.W.excIn K (He.ga K c) He.veBase "ValueError.__new__" && (PySem.W.keepIn K (.ref (He.ga K c)) && (decide (PySem.W.subIn K (.ref (He.ga K c)) (.type "BaseException") = some true) && decide (PySem.W.typeIn K (.ref (He.ga K c)) = some (.type "type"))))) = true := m
  obtain ⟨h1, m2⟩ := He.ba m2
  obtain ⟨h2, m2⟩ := He.ba m2
  obtain ⟨h3, h4⟩ := He.ba m2
  exact ⟨He.glo_ok X G g, h1, h2, of_decide_eq_true h3, of_decide_eq_true h4⟩
theorem err_all {K : PySem.W.Frag} {all cs : List Str} (m : errB K all cs = true) {c : Str} (hc : c ∈ cs) : (He.Fa.glo c).ok K = true ∧ (He.Fa.exc c).ok K = true ∧ kindB K all c = true := by
  unfold errB at m
  obtain ⟨h1, _⟩ := He.ba m
  obtain ⟨h2, h3⟩ := He.ba (List.all_eq_true.mp h1 c hc)
  obtain ⟨h4, h5⟩ := He.ba h3
  exact ⟨h2, h4, h5⟩
theorem err_exc {K : PySem.W.Frag} {h : Heap} {mg : Str → Option Value} {all cs : List Str} (X : K.In h) (G : h.Ns mainGlobals mg) (m : errB K all cs = true) {c : Str} (hc : c ∈ cs) : ExcT K mg c := exc_of X G (err_all m hc).1 (err_all m hc).2.1
theorem err_of {K : PySem.W.Frag} {h : Heap} {mg : Str → Option Value} {al cs : List Str} (X : K.In h) (G : h.Ns mainGlobals mg) (hs : ∀ x ∈ al, x ∈ ("TooMany" : Str) :: cs) (m : errB K al cs = true) : ErrTop K mg al cs := by
  have m2 := m
  unfold errB at m2
  obtain ⟨_, h2⟩ := He.ba m2
  obtain ⟨h3, h4⟩ := He.ba h2
  exact ⟨hs, fun c hc => err_exc X G m hc, fun c hc => (kind_of (err_all m hc).2.2).1, fun c hc x hx => (kind_of (err_all m hc).2.2).2.1 x hx, fun c hc => (kind_of (err_all m hc).2.2).2.2.1, fun c hc => (kind_of (err_all m hc).2.2).2.2.2, He.glo_ok X G h3, He.free_ok X G h4⟩
theorem many_is {K : PySem.W.Frag} {cs : List Str} (m : kindB K (("TooMany" : Str) :: cs) "TooMany" = true) : ManyIs K cs := ⟨(kind_of m).1, fun x hx => (kind_of m).2.1 x hx, (kind_of m).2.2.1, (kind_of m).2.2.2⟩
theorem tabs_nil {K : PySem.W.Frag} {tf : List He.Defn} {H : Hp} (h : ∀ p ∈ tf.map (He.cT K), H p.2 = some (.tbl #[])) : Tabs (tabsL K tf) H := fun z hz => by
  obtain ⟨r, hr, rfl⟩ := List.mem_map.mp hz
  exact TabS.nil (h _ (List.mem_map.mpr ⟨r, hr, rfl⟩))
end Sf

namespace Sf
open PySem PySem.Spec PyProof.Rows L2 Evl
/-- the pair behind a new value at a side -/
def settle (tie : Str) (p : Int × Int) (side : Str) (new : Int) : Int × Int :=
  if (if side = "left" then new else p.1) ≤ (if side = "left" then p.2 else new) then ((if side = "left" then new else p.1), (if side = "left" then p.2 else new))
  else if tie = "push" then (new, new) else if tie = "refuse" then p else if side = "left" then (p.2, p.2) else (p.1, p.1)
def sideOf (p : Int × Int) (side : Str) : Int := if side = "left" then p.1 else p.2
/-- the pair behind a press -/
def pressTied (f : Fld) (tie : Str) (p : Int × Int) (side : Str) (c : Nat) : Int × Int := settle tie p side (pressKey f (sideOf p side) c)
abbrev Trip := Tri (Int × Int) Str Sg
def partTies (f : Fld) (a b : Str) : Option Trip :=
  if a = b then none else if a = "push" ∨ b = "push" then some (Tri.mk (f.low, f.low) "left" (Sg.mk 101)) else if f.high - f.low > 1 then some (Tri.mk (f.low, f.low + 1) "left" (Sg.mk 101)) else none
def isTie (t : Str) : Prop := t = "push" ∨ t = "refuse" ∨ t = "stop"
theorem tie_word {t : Str} (h : isTie t) : isWord (Enc.enc t) (Tpl.mk ["push", "refuse", "stop"]) = true := by
  show decide (t ∈ (["push", "refuse", "stop"] : List Str)) = true
  rw [decide_eq_true_eq]
  simp only [List.mem_cons, List.not_mem_nil, or_false]
  exact h
theorem tie_of {t : Str} (h : t ∈ (["push", "refuse", "stop"] : List Str)) : isTie t := by
  simp only [List.mem_cons, List.not_mem_nil, or_false] at h
  exact h
theorem opt_some {α : Type} {x : Option α} (d : α) (h : (!x.isNone) = true) : x = some (x.getD d) := by
  cases x with
  | none => cases h
  | some y => rfl
def lawUnlike (f : Fld) (a b : Str) (t : Trip) : Bool :=
  if (!decide (t.b ∈ (["left", "right"] : List Str)) || !(decide (f.low ≤ t.a.1) && (decide (t.a.1 ≤ t.a.2) && decide (t.a.2 ≤ f.high)))) = true then false
  else !decide (pressTied f a t.a t.b t.c.c = pressTied f b t.a t.b t.c.c)
section
variable {f : Fld} {t side : Str} {p : Int × Int} {k : Sg} {n left right : Int}
theorem st_ok (dn : n = pressKey f (sideOf p side) k.c) : pressTied f t p side k.c = settle t p side n := by
  rw [dn]
  rfl
theorem st1 (dn : n = pressKey f (sideOf p side) k.c) (hl : left = if side = "left" then n else p.1) (hr : right = if side = "left" then p.2 else n) (h : decide (left ≤ right) = true) : (left, right) = pressTied f t p side k.c := by
  rw [st_ok dn]
  unfold settle
  rw [← hl, ← hr, if_pos (of_decide_eq_true h)]
theorem st2 (dn : n = pressKey f (sideOf p side) k.c) (hl : left = if side = "left" then n else p.1) (hr : right = if side = "left" then p.2 else n) (h : decide (left ≤ right) = false) (h2 : decide (t = "refuse") = true) : p = pressTied f t p side k.c := by
  rw [st_ok dn]
  unfold settle
  have e := of_decide_eq_true h2
  subst e
  rw [← hl, ← hr, if_neg (of_decide_eq_false h), if_neg (by decide), if_pos rfl]
theorem st3 (dn : n = pressKey f (sideOf p side) k.c) (hl : left = if side = "left" then n else p.1) (hr : right = if side = "left" then p.2 else n) (h : decide (left ≤ right) = false) (h2 : decide (t = "push") = true) : (if (decide (side = ("left" : Str))) = true then (left, left) else (right, right)) = pressTied f t p side k.c := by
  rw [st_ok dn]
  unfold settle
  have e := of_decide_eq_true h2
  rw [← hl, ← hr, if_neg (of_decide_eq_false h), if_pos e]
  by_cases z : side = "left"
  · rw [if_pos (decide_eq_true z), hl, if_pos z]
  · rw [if_neg (by rw [decide_eq_true_eq]; exact z), hr, if_neg z]
theorem st4 (dn : n = pressKey f (sideOf p side) k.c) (hl : left = if side = "left" then n else p.1) (hr : right = if side = "left" then p.2 else n) (h : decide (left ≤ right) = false) (h2 : decide (t = "push") = false) (h3 : decide (t = "refuse") = false) : (if (decide (side = ("left" : Str))) = true then (p.2, p.2) else (p.1, p.1)) = pressTied f t p side k.c := by
  rw [st_ok dn]
  unfold settle
  rw [← hl, ← hr, if_neg (of_decide_eq_false h), if_neg (of_decide_eq_false h2), if_neg (of_decide_eq_false h3)]
  by_cases z : side = "left"
  · rw [if_pos (decide_eq_true z), if_pos z]
  · rw [if_neg (by rw [decide_eq_true_eq]; exact z), if_neg z]
end
theorem pt2 {f : Fld} {a b : Str} (h : decide (a = b) = false) (h2 : decide (("push" : Str) ∈ (Tpl.mk ([a, b] : List Str)).l) = true) : some (Tri.mk (f.low, f.low) ("left" : Str) (Sg.mk 101)) = partTies f a b := by
  unfold partTies
  have h3 : ("push" : Str) ∈ ([a, b] : List Str) := of_decide_eq_true h2
  simp only [List.mem_cons, List.not_mem_nil, or_false] at h3
  rw [if_neg (of_decide_eq_false h), if_pos (h3.elim (fun z => .inl z.symm) (fun z => .inr z.symm))]
theorem pt3 {f : Fld} {a b : Str} (h : decide (a = b) = false) (h2 : decide (("push" : Str) ∈ (Tpl.mk ([a, b] : List Str)).l) = false) :
    (if decide (1 < f.high - f.low) = true then some (Tri.mk (f.low, f.low + 1) ("left" : Str) (Sg.mk 101)) else (none : Option Trip)) = partTies f a b := by
  unfold partTies
  have h3 : ¬ ("push" : Str) ∈ ([a, b] : List Str) := of_decide_eq_false h2
  simp only [List.mem_cons, List.not_mem_nil, or_false] at h3
  have h4 : ¬ (a = "push" ∨ b = "push") := fun z => h3 (z.elim (fun z => .inl z.symm) (fun z => .inr z.symm))
  rw [if_neg (of_decide_eq_false h), if_neg h4]
  by_cases z : 1 < f.high - f.low
  · have z2 : f.high - f.low > 1 := z
    rw [if_pos (decide_eq_true z), if_pos z2]
  · have z2 : ¬ f.high - f.low > 1 := z
    rw [if_neg (by rw [decide_eq_true_eq]; exact z), if_neg z2]
instance (t : Str) : Decidable (isTie t) := by
  unfold isTie
  infer_instance
theorem press_he {f : Fld} {v : Int} : pressKey f v 101 = f.high := rfl
theorem unlike_of {f : Fld} {a b : Str} {p : Int × Int} {s : Str} {k : Sg} (h1 : s ∈ (["left", "right"] : List Str)) (h2 : f.low ≤ p.1 ∧ p.1 ≤ p.2 ∧ p.2 ≤ f.high) (h3 : pressTied f a p s k.c ≠ pressTied f b p s k.c) : lawUnlike f a b (Tri.mk p s k) = true := by
  unfold lawUnlike
  rw [if_neg]
  · rw [decide_eq_false h3]
    rfl
  · simp only [decide_eq_true h1, decide_eq_true h2.1, decide_eq_true h2.2.1, decide_eq_true h2.2.2]
    decide
theorem like_of {f : Fld} {a b : Str} {p : Int × Int} {s : Str} {k : Sg} (h3 : pressTied f a p s k.c = pressTied f b p s k.c) : lawUnlike f a b (Tri.mk p s k) = false := by
  unfold lawUnlike
  split
  · rfl
  · rw [decide_eq_true h3]
    rfl
theorem part_key {f : Fld} {a b : Str} {d : Trip} (h : (!(partTies f a b).isNone) = true) : isKey ((partTies f a b).getD d).c.c := by
  unfold partTies at h ⊢
  split
  · next e =>
    rw [if_pos e] at h
    cases h
  · next e =>
    rw [if_neg e] at h
    split
    · exact .inr (.inr (.inr (.inr (.inr rfl))))
    · next e2 =>
      rw [if_neg e2] at h
      split
      · exact .inr (.inr (.inr (.inr (.inr rfl))))
      · next e3 =>
        rw [if_neg e3] at h
        cases h
/-- left, home to the end, from a pair not above -/
theorem left_end {f : Fld} {t : Str} {x y : Int} (h : y < f.high) : pressTied f t (x, y) "left" 101 = if t = "push" then (f.high, f.high) else if t = "refuse" then (x, y) else (y, y) := by
  unfold pressTied settle
  have e : sideOf (x, y) "left" = x := rfl
  rw [press_he]
  have n1 : ¬ (if ("left" : Str) = "left" then f.high else x) ≤ (if ("left" : Str) = "left" then y else f.high) := by
    rw [if_pos rfl, if_pos rfl]
    omega
  rw [if_neg n1, if_pos (show ("left" : Str) = "left" from rfl)]
theorem part_unlike {f : Fld} {a b : Str} {t : Trip} (hf : FL f) (ha : isTie a) (hb : isTie b) (h : partTies f a b = some t) : lawUnlike f a b t = true := by
  obtain ⟨l0, lh, h1, _⟩ := hf
  unfold partTies at h
  split at h
  · cases h
  · next e =>
    split at h
    · next e2 =>
      cases h
      refine unlike_of (by decide) ⟨Int.le_refl _, Int.le_refl _, by show f.low ≤ f.high; omega⟩ ?_
      show pressTied f a (f.low, f.low) "left" 101 ≠ pressTied f b (f.low, f.low) "left" 101
      rw [left_end lh, left_end lh]
      have q : ∀ c : Str, c ≠ "push" → (if c = "push" then (f.high, f.high) else if c = "refuse" then (f.low, f.low) else (f.low, f.low)) = (f.low, f.low) := by
        intro c hc
        rw [if_neg hc]
        split <;> rfl
      rcases e2 with z | z
      · rw [if_pos z, q b (fun y => e (z.trans y.symm))]
        intro y
        have := congrArg Prod.fst y
        dsimp only at this
        omega
      · rw [if_pos z, q a (fun y => e (y.trans z.symm))]
        intro y
        have := congrArg Prod.fst y
        dsimp only at this
        omega
    · next e2 =>
      split at h
      · next e3 =>
        cases h
        refine unlike_of (by decide) ⟨Int.le_refl _, by show f.low ≤ f.low + 1; omega, by show f.low + 1 ≤ f.high; omega⟩ ?_
        show pressTied f a (f.low, f.low + 1) "left" 101 ≠ pressTied f b (f.low, f.low + 1) "left" 101
        have n1 : ¬ a = "push" := fun z => e2 (.inl z)
        have n2 : ¬ b = "push" := fun z => e2 (.inr z)
        rw [left_end (by omega), left_end (by omega), if_neg n1, if_neg n2]
        intro y
        by_cases za : a = "refuse"
        · have zb : ¬ b = "refuse" := fun z => e (za.trans z.symm)
          rw [if_pos za, if_neg zb] at y
          have := congrArg Prod.fst y
          dsimp only at this
          omega
        · have za2 : a = "stop" := by
            rcases ha with z | z | z
            · exact absurd z n1
            · exact absurd z za
            · exact z
          have zb : b = "refuse" := by
            rcases hb with z | z | z
            · exact absurd z n2
            · exact z
            · exact absurd (za2.trans z.symm) e
          rw [if_neg za, if_pos zb] at y
          have := congrArg Prod.fst y
          dsimp only at this
          omega
      · cases h
theorem part_like {f : Fld} {a b s : Str} {l r : Int} {k : Sg} (hf : FL f) (ha : isTie a) (hb : isTie b) (h : (partTies f a b).isNone = true) (hs : s = "left" ∨ s = "right") (hk : isKey k.c) (h1 : f.low ≤ l) (h2 : l ≤ r) (h3 : r ≤ f.high) : lawUnlike f a b (Tri.mk (l, r) s k) = false := by
  apply like_of
  unfold partTies at h
  split at h
  · next e => rw [e]
  · next e =>
    split at h
    · cases h
    · next e2 =>
      split at h
      · cases h
      · next e3 =>
        have n1 : ¬ a = "push" := fun z => e2 (.inl z)
        have n2 : ¬ b = "push" := fun z => e2 (.inr z)
        unfold pressTied
        have hp : f.low ≤ sideOf (l, r) s ∧ sideOf (l, r) s ≤ f.high := by
          rcases hs with z | z <;> subst z
          · show f.low ≤ l ∧ l ≤ f.high
            omega
          · show f.low ≤ r ∧ r ≤ f.high
            omega
        have hn := pressKey_in hf hp hk
        generalize pressKey f (sideOf (l, r) s) k.c = n at hn
        unfold settle
        rcases hs with z | z
        · subst z
          simp only [if_true]
          by_cases q : n ≤ r
          · rw [if_pos q, if_pos q]
          · rw [if_neg q, if_neg q, if_neg n1, if_neg n2]
            have e4 : (r, r) = (l, r) := by
              have : l = r := by omega
              rw [this]
            simp only [e4]
            split <;> split <;> rfl
        · subst z
          have d : ¬ ("right" : Str) = "left" := by decide
          simp only [if_neg d]
          by_cases q : l ≤ n
          · rw [if_pos q, if_pos q]
          · rw [if_neg q, if_neg q, if_neg n1, if_neg n2]
            have e4 : (l, l) = (l, r) := by
              have : l = r := by omega
              rw [this]
            simp only [e4]
            split <;> split <;> rfl
theorem k16_fok {f : Fld} (h : FOk f) : FOk (Fld.mk f.low (f.low + 1) 1 f.base f.off f.ends f.big) := by
  obtain ⟨l0, lh, h1, s0, s1, b0, b1, off, ends, g0, g1, on⟩ := h
  refine ⟨l0, by show f.low < f.low + 1; omega, by show f.low + 1 ≤ _; omega, by show (1 : Int) ≤ 1; omega, by show (1 : Int) ≤ _; omega, b0, b1, off, ends, g0, g1, ?_⟩
  show f.base - (f.base - f.low) / 1 * 1 ≤ f.base + (f.low + 1 - f.base) / 1 * 1
  rw [Int.ediv_one, Int.ediv_one]
  omega
theorem part_wide {f : Fld} (hf : FL f) : (partTies f "stop" "refuse").isNone = decide (f.high - f.low = 1) := by
  obtain ⟨l0, lh, h1, _⟩ := hf
  unfold partTies
  rw [if_neg (by decide), if_neg (by decide)]
  by_cases z : f.high - f.low > 1
  · rw [if_pos z, decide_eq_false (by omega)]
    rfl
  · rw [if_neg z, decide_eq_true (by omega)]
    rfl
theorem part_push {f : Fld} : (partTies f "push" "stop").isNone = false := by
  unfold partTies
  rw [if_neg (by decide), if_pos (by decide)]
  rfl
def tiedRow (f : Fld) (t : Str) (p : Int × Int) (ds : List (Str × Sg)) : Int × Int := ds.foldl (fun q d => pressTied f t q d.1 d.2.c) p
theorem tiedRow_snoc {f : Fld} {t : Str} {p : Int × Int} {ds : List (Str × Sg)} {d : Str × Sg} : tiedRow f t p (ds ++ [d]) = pressTied f t (tiedRow f t p ds) d.1 d.2.c := by
  unfold tiedRow
  rw [List.foldl_append]
  rfl
theorem side_word {s : Str} (h : s = "left" ∨ s = "right") : isWord (Enc.enc s) (Tpl.mk ["left", "right"]) = true := by
  show decide (s ∈ (["left", "right"] : List Str)) = true
  rw [decide_eq_true_eq]
  simp only [List.mem_cons, List.not_mem_nil, or_false]
  exact h
theorem side_at {s : Str} {p : Int × Int} (h : s = "left" ∨ s = "right") : atI [p.1, p.2] (if decide (s = ("right" : Str)) = true then (1 : Int) else 0) = some (sideOf p s) := by
  rcases h with z | z <;> (subst z; rfl)
section
variable {t side : Str} {p one : Int × Int} {n : Int}
theorem sd0 (d : one = if decide (side = ("left" : Str)) = true then (n, p.2) else (p.1, n)) : one.1 = (if side = "left" then n else p.1) ∧ one.2 = (if side = "left" then p.2 else n) := by
  subst d
  by_cases z : side = "left"
  · rw [if_pos (decide_eq_true z), if_pos z, if_pos z]
    exact ⟨rfl, rfl⟩
  · rw [if_neg (by rw [decide_eq_true_eq]; exact z), if_neg z, if_neg z]
    exact ⟨rfl, rfl⟩
theorem sd1 (d : one = if decide (side = ("left" : Str)) = true then (n, p.2) else (p.1, n)) (h : decide (one.1 ≤ one.2) = true) : (one.1, one.2) = settle t p side n := by
  unfold settle
  rw [← (sd0 d).1, ← (sd0 d).2, if_pos (of_decide_eq_true h)]
theorem sd2 (d : one = if decide (side = ("left" : Str)) = true then (n, p.2) else (p.1, n)) (h : decide (one.1 ≤ one.2) = false) (h2 : decide (t = ("push" : Str)) = true) : (n, n) = settle t p side n := by
  unfold settle
  rw [← (sd0 d).1, ← (sd0 d).2, if_neg (of_decide_eq_false h), if_pos (of_decide_eq_true h2)]
theorem sd3 (d : one = if decide (side = ("left" : Str)) = true then (n, p.2) else (p.1, n)) (h : decide (one.1 ≤ one.2) = false) (h2 : decide (t = ("push" : Str)) = false) (h3 : decide (t = ("refuse" : Str)) = true) : p = settle t p side n := by
  unfold settle
  rw [← (sd0 d).1, ← (sd0 d).2, if_neg (of_decide_eq_false h), if_neg (of_decide_eq_false h2), if_pos (of_decide_eq_true h3)]
theorem sd4 (d : one = if decide (side = ("left" : Str)) = true then (n, p.2) else (p.1, n)) (h : decide (one.1 ≤ one.2) = false) (h2 : decide (t = ("push" : Str)) = false) (h3 : decide (t = ("refuse" : Str)) = false) :
    (if decide (side = ("left" : Str)) = true then (p.2, p.2) else (p.1, p.1)) = settle t p side n := by
  unfold settle
  rw [← (sd0 d).1, ← (sd0 d).2, if_neg (of_decide_eq_false h), if_neg (of_decide_eq_false h2), if_neg (of_decide_eq_false h3)]
  by_cases z : side = "left"
  · rw [if_pos (decide_eq_true z), if_pos z]
  · rw [if_neg (by rw [decide_eq_true_eq]; exact z), if_neg z]
end
theorem pressTied_in {f : Fld} {t s : Str} {p : Int × Int} {c : Nat} (hf : FL f) (hp : f.low ≤ p.1 ∧ p.1 ≤ p.2 ∧ p.2 ≤ f.high) (hs : s = "left" ∨ s = "right") (hk : isKey c) :
    f.low ≤ (pressTied f t p s c).1 ∧ (pressTied f t p s c).1 ≤ (pressTied f t p s c).2 ∧ (pressTied f t p s c).2 ≤ f.high := by
  unfold pressTied
  have hv : f.low ≤ sideOf p s ∧ sideOf p s ≤ f.high := by
    rcases hs with z | z <;> subst z
    · show f.low ≤ p.1 ∧ p.1 ≤ f.high
      omega
    · show f.low ≤ p.2 ∧ p.2 ≤ f.high
      omega
  have hn := pressKey_in hf hv hk
  generalize pressKey f (sideOf p s) c = n at hn
  unfold settle
  rcases hs with z | z
  · subst z
    simp only [if_true]
    repeat' split
    all_goals first | omega | (dsimp only; omega)
  · subst z
    have d : ¬ ("right" : Str) = "left" := by decide
    simp only [if_neg d]
    repeat' split
    all_goals first | omega | (dsimp only; omega)
/-- nothing meets: the left side -/
theorem tie_left {f : Fld} {t : Str} {x y : Int} {c : Nat} (h : pressKey f x c ≤ y) : pressTied f t (x, y) "left" c = (pressKey f x c, y) := by
  unfold pressTied settle
  have e : sideOf (x, y) "left" = x := rfl
  rw [e]
  simp only [if_true]
  rw [if_pos h]
theorem tie_right {f : Fld} {t : Str} {x y : Int} {c : Nat} (h : x ≤ pressKey f y c) : pressTied f t (x, y) "right" c = (x, pressKey f y c) := by
  have d : ¬ ("right" : Str) = "left" := by decide
  unfold pressTied settle
  have e : sideOf (x, y) "right" = y := by
    unfold sideOf
    rw [if_neg d]
  rw [e]
  simp only [if_neg d]
  rw [if_pos h]
/-- how far a key moves if it does not go round -/
theorem key_far {f : Fld} {v : Int} {c : Nat} (hs : 1 ≤ f.step) (hb : 2 ≤ f.big) (hv : f.low ≤ v ∧ v ≤ f.high) (hm : isMove c) (hr : ¬ f.ends = "round") :
    (v + f.step * (f.big + 1) ≤ f.high → pressKey f v c ≤ v + f.step * (f.big + 1)) ∧ (f.low ≤ v - f.step * (f.big + 1) → v - f.step * (f.big + 1) ≤ pressKey f v c) := by
  have fa := aim_far (v := v) hs hb hm
  have hp : 0 ≤ f.step * (f.big + 1) := Int.mul_nonneg (by omega) (by omega)
  rcases press_ways hs hb hv hm with ⟨a1, a2, e⟩ | ⟨u, a2, e⟩ | ⟨u, a2, e⟩
  · by_cases u : isUp c
    · have := fa.1 u
      omega
    · have := fa.2 u
      omega
  · have := fa.1 u
    rw [if_neg hr] at e
    split at e <;> omega
  · have := fa.2 u
    rw [if_neg hr] at e
    split at e <;> omega
theorem k36_apart {f : Fld} {t : Str} {l r : Int} {one two : Sg} (hs : 1 ≤ f.step) (hb : 2 ≤ f.big) (hl : f.low ≤ l ∧ l ≤ f.high) (hr : f.low ≤ r ∧ r ≤ f.high) (h1 : isMove one.c) (h2 : isMove two.c) (hd : ¬ r - l ≤ 2 * f.step * (f.big + 2)) (ho : ¬ f.ends = "round") :
    tiedRow f t (l, r) [("left", one), ("right", two)] = (pressKey f l one.c, pressKey f r two.c) ∧ tiedRow f t (l, r) [("right", two), ("left", one)] = (pressKey f l one.c, pressKey f r two.c) := by
  have e : 2 * f.step * (f.big + 2) = 2 * (f.step * (f.big + 1)) + 2 * f.step := by
    rw [Int.mul_assoc, Int.mul_add, Int.mul_add, Int.mul_add, Int.mul_add]
    omega
  have hp : 0 ≤ f.step * (f.big + 1) := Int.mul_nonneg (by omega) (by omega)
  have k1 := (key_far hs hb hl h1 ho).1 (by omega)
  have k2 := (key_far hs hb hr h2 ho).2 (by omega)
  constructor
  · show pressTied f t (pressTied f t (l, r) "left" one.c) "right" two.c = _
    rw [tie_left (by omega), tie_right (by omega)]
  · show pressTied f t (pressTied f t (l, r) "right" two.c) "left" one.c = _
    rw [tie_right (by omega), tie_left (by omega)]
theorem k36_key {s : Str} {x : Str × Sg} (h : s = "left" ∨ s = "right") (p : x.1 = s ∧ x.2 ∈ sgs "udUDhe") : (x.1 = "left" ∨ x.1 = "right") ∧ isKey x.2.c := by
  rw [p.1]
  exact ⟨h, sgs_keys.mp p.2⟩
theorem k36_in {f : Fld} {t : Str} {p q : Int × Int} {x : Str × Sg} (d : q = tiedRow f t p [x]) (hf : FL f) (hp : f.low ≤ p.1 ∧ p.1 ≤ p.2 ∧ p.2 ≤ f.high) (k : (x.1 = "left" ∨ x.1 = "right") ∧ isKey x.2.c) : f.low ≤ q.1 ∧ q.1 ≤ q.2 ∧ q.2 ≤ f.high := by
  rw [d]
  exact pressTied_in hf hp k.1 k.2
theorem press_ho {f : Fld} {v : Int} : pressKey f v 104 = f.low := rfl
theorem side_l {x y : Int} : sideOf (x, y) "left" = x := rfl
theorem side_r {x y : Int} : sideOf (x, y) "right" = y := by
  unfold sideOf
  rw [if_neg (by decide)]
theorem settle_l {t : Str} {x y n : Int} : settle t (x, y) "left" n = if n ≤ y then (n, y) else if t = "push" then (n, n) else if t = "refuse" then (x, y) else (y, y) := by
  unfold settle
  simp only [if_true]
theorem settle_r {t : Str} {x y n : Int} : settle t (x, y) "right" n = if x ≤ n then (x, n) else if t = "push" then (n, n) else if t = "refuse" then (x, y) else (x, x) := by
  unfold settle
  have d : ¬ ("right" : Str) = "left" := by decide
  simp only [if_neg d]
theorem k36_push {f : Fld} {v : Int} (hl : f.low < f.high) (hv : f.low ≤ v ∧ v ≤ f.high) : tiedRow f "push" (v, v) [("left", Sg.mk 101), ("right", Sg.mk 104)] = (f.low, f.low) := by
  show pressTied f "push" (pressTied f "push" (v, v) "left" 101) "right" 104 = _
  have e : pressTied f "push" (v, v) "left" 101 = (f.high, f.high) := by
    unfold pressTied
    rw [press_he, settle_l]
    split
    · have : v = f.high := by omega
      rw [this]
    · rw [if_pos rfl]
  rw [e]
  unfold pressTied
  rw [press_ho, settle_r, if_neg (by omega), if_pos rfl]
theorem k36_stop {f : Fld} {v : Int} (hl : f.low < f.high) (hv : f.low ≤ v ∧ v ≤ f.high) : tiedRow f "stop" (v, v) [("left", Sg.mk 101), ("right", Sg.mk 104)] = (v, v) := by
  show pressTied f "stop" (pressTied f "stop" (v, v) "left" 101) "right" 104 = _
  have e : pressTied f "stop" (v, v) "left" 101 = (v, v) := by
    unfold pressTied
    rw [press_he, settle_l]
    split
    · have : v = f.high := by omega
      rw [this]
    · rw [if_neg (by decide), if_neg (by decide)]
  rw [e]
  unfold pressTied
  rw [press_ho, settle_r]
  split
  · have : v = f.low := by omega
    rw [this]
  · rw [if_neg (by decide), if_neg (by decide)]
theorem k36_refuse {f : Fld} {v : Int} (hl : f.low < f.high) (hv : f.low ≤ v ∧ v ≤ f.high) : tiedRow f "refuse" (v, v) [("left", Sg.mk 104), ("right", Sg.mk 101)] = (f.low, f.high) := by
  show pressTied f "refuse" (pressTied f "refuse" (v, v) "left" 104) "right" 101 = _
  have e : pressTied f "refuse" (v, v) "left" 104 = (f.low, v) := by
    unfold pressTied
    rw [press_ho, settle_l, if_pos hv.1]
  rw [e]
  unfold pressTied
  rw [press_he, settle_r, if_pos (by omega)]
end Sf
namespace Sf
open PySem PySem.Spec PyProof.Rows L2 Evl
theorem two_getD {α : Type} {l : List α} {d : α} (h : (l.length : Int) = 2) : l = [l.getD 0 d, l.getD 1 d] := by
  match l, h with
  | [a, b], _ => rfl
  | [], h => cases h
  | [_], h => cases h
  | _ :: _ :: _ :: _, h =>
    simp only [List.length_cons] at h
    omega
theorem k15_tie {t : Str} (h : t ∈ (["push", "stop", "refuse"] : List Str)) : isTie t := by
  simp only [List.mem_cons, List.not_mem_nil, or_false] at h
  rcases h with z | z | z
  · exact .inl z
  · exact .inr (.inr z)
  · exact .inr (.inl z)
end Sf

namespace Sf
open PySem PySem.Spec PyProof.Rows L2 Evl
def isOn (f : Fld) (v : Int) : Bool := decide ((v - f.base) % f.step = 0)
/-- the last place up to which all hold -/
def lastT (p : Nat → Bool) : Nat → Nat
  | 0 => 0
  | n + 1 => if p n = true then n + 1 else lastT p n
theorem lastT_le {p : Nat → Bool} : ∀ n, lastT p n ≤ n
  | 0 => Nat.le_refl _
  | n + 1 => by
    unfold lastT
    split
    · omega
    · have := lastT_le (p := p) n
      omega
theorem lastT_hi {p : Nat → Bool} : ∀ n i, lastT p n ≤ i → i < n → p i = false
  | 0, i, _, h => by omega
  | n + 1, i, h1, h2 => by
    unfold lastT at h1
    split at h1
    · omega
    · next h =>
      by_cases e : i = n
      · subst e
        exact no_of h
      · exact lastT_hi n i h1 (by omega)
theorem lastT_lo {p : Nat → Bool} (hp : ∀ i, p (i + 1) = true → p i = true) : ∀ n i, i < lastT p n → p i = true
  | 0, i, h => by
    unfold lastT at h
    omega
  | n + 1, i, h => by
    unfold lastT at h
    split at h
    · next h1 =>
      have g : ∀ k, k ≤ n → p (n - k) = true := by
        intro k
        induction k with
        | zero => exact fun _ => h1
        | succ k ih =>
          intro hk
          apply hp
          have := ih (by omega)
          rw [show n - (k + 1) + 1 = n - k by omega]
          exact this
      have := g (n - i) (by omega)
      rw [show n - (n - i) = i by omega] at this
      exact this
    · exact lastT_lo hp n i h
theorem slide_div {s p : Int} (s0 : 1 ≤ s) (s1 : s ≤ 1000000000000) (p0 : 1 ≤ p) (p1 : p ≤ 4000000000000) : 0 < 2 * s * p ∧ 2 * s * p < 1267650600228229401496703205376 := by
  have h1 : 0 < 2 * s * p := Int.mul_pos (by omega) (by omega)
  have h2 : 2 * s * p ≤ 2 * s * 4000000000000 := Int.mul_le_mul_of_nonneg_left p1 (by omega)
  omega
def rawAt (f : Fld) (w d : Int) : Int := f.base + (2 * ((f.low - f.base) * (w - 1) + (f.high - f.low) * d) + f.step * (w - 1)) / (2 * f.step * (w - 1)) * f.step
def valueAt (f : Fld) (w d : Int) : Int := max (gridOf f).1 (min (gridOf f).2 (rawAt f w d))
theorem raw_mono {f : Fld} {w d d' : Int} (hf : FL f) (hw : 2 ≤ w) (h : d ≤ d') : rawAt f w d ≤ rawAt f w d' := by
  obtain ⟨l0, lh, h1, s0, s1, b0, b1⟩ := hf
  unfold rawAt
  have h2 : (f.high - f.low) * d ≤ (f.high - f.low) * d' := Int.mul_le_mul_of_nonneg_left h (by omega)
  have hp : 0 < 2 * f.step * (w - 1) := Int.mul_pos (by omega) (by omega)
  have h3 := Int.ediv_le_ediv hp (show 2 * ((f.low - f.base) * (w - 1) + (f.high - f.low) * d) + f.step * (w - 1) ≤ 2 * ((f.low - f.base) * (w - 1) + (f.high - f.low) * d') + f.step * (w - 1) by omega)
  have h4 := Int.mul_le_mul_of_nonneg_right h3 (show 0 ≤ f.step by omega)
  omega
theorem value_mono {f : Fld} {w d d' : Int} (hf : FL f) (hw : 2 ≤ w) (h : d ≤ d') : valueAt f w d ≤ valueAt f w d' := by
  have := raw_mono (d := d) (d' := d') hf hw h
  unfold valueAt
  omega
def firstDot (f : Fld) (w v : Int) : Int := (lastT (fun i => decide (valueAt f w (i : Nat) < v)) w.toNat : Nat)
theorem firstDot_le {f : Fld} {w v : Int} (hw : 0 ≤ w) : 0 ≤ firstDot f w v ∧ firstDot f w v ≤ w := by
  have := lastT_le (p := fun i => decide (valueAt f w (i : Nat) < v)) w.toNat
  unfold firstDot
  omega
theorem firstDot_lo {f : Fld} {w v : Int} (hf : FL f) (hw : 2 ≤ w) : ∀ d, 0 ≤ d → d < firstDot f w v → valueAt f w d < v := by
  intro d h0 h1
  have h2 := lastT_lo (p := fun i => decide (valueAt f w (i : Nat) < v)) (fun i hi => by
    simp only [decide_eq_true_eq] at hi ⊢
    have := value_mono (d := ((i : Nat) : Int)) (d' := ((i + 1 : Nat) : Int)) hf hw (by omega)
    omega) w.toNat d.toNat (by
    unfold firstDot at h1
    omega)
  simp only [decide_eq_true_eq] at h2
  rw [show ((d.toNat : Nat) : Int) = d by omega] at h2
  exact h2
theorem firstDot_hi {f : Fld} {w v : Int} : ∀ d, firstDot f w v ≤ d → d < w → v ≤ valueAt f w d := by
  intro d h0 h1
  have hd : 0 ≤ d := by
    unfold firstDot at h0
    omega
  have h2 := lastT_hi (p := fun i => decide (valueAt f w (i : Nat) < v)) w.toNat d.toNat (by
    unfold firstDot at h0
    omega) (by omega)
  simp only [decide_eq_false_iff_not] at h2
  rw [show ((d.toNat : Nat) : Int) = d by omega] at h2
  omega
theorem firstDot_eq {f : Fld} {w v D : Int} (hf : FL f) (hw : 2 ≤ w) (h0 : 0 ≤ D) (h1 : D ≤ w) (hlo : ∀ d, 0 ≤ d → d < D → valueAt f w d < v) (hhi : ∀ d, D ≤ d → d < w → v ≤ valueAt f w d) : firstDot f w v = D := by
  have a := firstDot_le (f := f) (w := w) (v := v) (by omega)
  by_cases h : firstDot f w v < D
  · have b := hlo _ a.1 h
    have c := firstDot_hi (f := f) (w := w) (v := v) _ (Int.le_refl _) (by omega)
    omega
  · by_cases h2 : D < firstDot f w v
    · have b := firstDot_lo (v := v) hf hw D h0 h2
      have c := hhi D (Int.le_refl _) (by omega)
      omega
    · omega
def rangeOf (f : Fld) (w v : Int) : Option (Int × Int) :=
  if (decide (firstDot f w v = w) || !decide (valueAt f w (firstDot f w v) = v)) = true then none else some (firstDot f w v, firstDot f w (v + 1) - 1)
def dotsFor (f : Fld) (w v : Int) : Option (Int × Int) := if isOn f v = true then rangeOf f w v else none
def everyOf (f : Fld) : Int := ((gridOf f).2 - (gridOf f).1) / f.step + 1
def countOf (f : Fld) (w : Int) : Int :=
  if (decide (everyOf f = 1) || decide (f.high - f.low ≤ f.step * (w - 1))) = true then everyOf f else firstDot f w (gridOf f).2 - firstDot f w ((gridOf f).1 + 1) + 2
abbrev WOk (w : Int) : Prop := 2 ≤ w ∧ w ≤ 1000000
abbrev WOx (w : Int) : Prop := 2 ≤ w ∧ w ≤ 4000000000000
theorem wok_x {w : Int} (h : WOk w) : WOx w := ⟨h.1, Int.le_trans h.2 (by decide)⟩
/-- the first value that is missed, by halving -/
def missGo (f : Fld) (w first start : Int) : Nat → Int → Int → Int
  | 0, lo, _ => lo
  | n + 1, lo, hi => if lo < hi then (if first + ((lo + hi) / 2 + 1) * f.step < valueAt f w (start + (lo + hi) / 2) then missGo f w first start n lo ((lo + hi) / 2) else missGo f w first start n ((lo + hi) / 2 + 1) hi) else lo
def enoughGo (f : Fld) : Nat → Int → Int
  | 0, w => w
  | n + 1, w => if countOf f w < everyOf f then enoughGo f n (w + 1) else w
end Sf

namespace Sf
open PySem PySem.Spec PyProof.Rows L2 Evl
theorem dpAll_dec {α : Type} [Rep α] [Enc α] [Dec α] {K : PySem.W.Frag} {H : Hp} : ∀ {xs : List α} {vs : List V}, DpAll K H vs (xs.map Enc.enc) → rels K H vs xs
  | [], _, h => by
    cases h
    exact .nil
  | x :: xs, _, h => by
    rw [List.map_cons] at h
    cases h with
    | cons h0 h1 => exact .cons (Dec.dec h0) (dpAll_dec h1)
instance {α : Type} [Rep α] [Enc α] [Dec α] : Dec (Tpl α) := ⟨fun h => by
  cases h with
  | tup hs hr => exact ⟨_, _, rfl, hs, dpAll_dec hr⟩⟩
theorem rels5 {α : Type} [Rep α] {K : PySem.W.Frag} {H : Hp} {vs : List V} {a b c d e : α} (h : rels K H vs [a, b, c, d, e]) : ∃ x y z u w, vs = [x, y, z, u, w] ∧ Rep.rel K H x a ∧ Rep.rel K H y b ∧ Rep.rel K H z c ∧ Rep.rel K H u d ∧ Rep.rel K H w e := by
  obtain ⟨x, ws, rfl, h0, h⟩ := relsC h
  obtain ⟨y, z, u, w, rfl, h1, h2, h3, h4⟩ := rels4 h
  exact ⟨x, y, z, u, w, rfl, h0, h1, h2, h3, h4⟩
end Sf

namespace Sf
open PySem PySem.Spec PyProof.Rows L2 Evl
/-! ### a def with a star that raises -/
theorem cxUpN {P : Program} {w : World} : StX.CXUp (L2N.CX P w) := by
  rintro outer s H s2 H2 E e s' un kp ho ⟨a, B, H', cls, d, ea, fl, hok, ub, na, os, ag, he⟩
  refine ⟨a, B, H', cls, d, ea, fl, hok, ⟨fun b o q n hb => ub.keep b o (kp b o q) (un.free b o q n (by simp)) hb, fun b o q hb => ub.slot b o (kp b o q) hb, fun b o q n => ub.free b o (kp b o q) (un.free b o q n (by simp)),
    fun b o q hb => ub.there b o (kp b o q) hb, fun b xs q => ub.tups b xs (un.tups b xs q), fun b o xs q => ub.frzs b o xs (un.frzs b o xs q), fun b ps q => ?_⟩, na, os.trans ho, ag, he⟩
  obtain ⟨m1, e1⟩ := un.tbls b ps q
  obtain ⟨m2, e2⟩ := ub.tbls b _ e1
  exact ⟨m1 ++ m2, by rw [e2, Array.append_assoc]⟩
theorem rels_dpE {K : PySem.W.Frag} {H : Hp} : ∀ {vs : List V} {ds : List PyData}, rels K H vs ds → DpAll K H vs ds := fun {vs} => by
  induction vs with
  | nil =>
    intro ds h
    cases h
    exact .nil
  | cons v vs ih =>
    intro ds h
    cases h with
    | cons h0 h1 => exact .cons h0 (ih h1)
def spEV (K : PySem.W.Frag) (bad : List PyData → Str → Prop) : Sp := fun vs H _ E => ∃ x y z us d0 d1 d2 ds c, vs = x :: y :: z :: us ∧ Rep.rel K H x (d0 : PyData) ∧ Rep.rel K H y (d1 : PyData) ∧ Rep.rel K H z (d2 : PyData) ∧ rels K H us (ds : List PyData) ∧ ds.length ≤ 1000 ∧ bad [d0, d1, d2, PyData.tuple ds] c ∧ XE1 K E c H
section
variable {K : PySem.W.Frag} {σ : L2.St} {H : Hp} {te ta tb : TE} {tA : TA} {E : XK} {c : Str} {ds : List PyData} {d0 d1 d2 : PyData} {bad : List PyData → Str → Prop}
theorem rx_callV (h : EAs K tA σ H (d0 :: d1 :: d2 :: ds)) (hl : ds.length ≤ 1000) (hb : bad [d0, d1, d2, PyData.tuple ds] c) : RX K (tCallR (spEV K bad) E tA) σ H E c := fun H1 e x Q => h H1 e _ fun vs H2 e2 r => by
  obtain ⟨v0, w0, rfl, r0, r⟩ := relsC r
  obtain ⟨v1, w1, rfl, r1, r⟩ := relsC r
  obtain ⟨v2, w2, rfl, r2, r⟩ := relsC r
  exact ⟨v0, v1, v2, w2, d0, d1, d2, ds, c, rfl, r0, r1, r2, r, hl, hb, x.ex e2⟩
theorem er_repT {α : Type} [Rep α] {xs : Tpl α} {i : Int} (ha : ER K ta σ H xs) (hb : ER K tb σ H i) (hne : xs.l ≠ []) (h2 : 2 ≤ i) (hk : i ≤ 1000) (hl : xs.l.length ≤ 1000) : ER K (tOp (rRepT K) ta tb) σ H (Tpl.mk (List.replicate i.toNat xs.l).flatten) := fun H1 e Q q => ha H1 e _ fun v H2 e2 ⟨l, vs, hv, hs, hr⟩ => hb H2 (e.trans e2) _ fun w H3 e3 r2 => by
  cases r2
  refine ⟨l, i, vs, hv, rfl, ex_t e3 hs, fun z => hne ?_, h2, hk, by rw [rels_len hr]; exact hl, fun p hp => ?_⟩
  · have e := rels_len hr
    rw [z] at e
    exact List.eq_nil_of_length_eq_zero e.symm
  · exact q _ _ ((e2.trans e3).trans (Ex.new hp)) ⟨p, _, rfl, st_of upd_same, flat_rep (rels_mono (e3.trans (Ex.new hp)) hr)⟩
end
section
variable {P : Program} {w : World} {K : PySem.W.Frag} {mg : Str → Option Value} {base : Heap} {xn qual : Str} {params : Arguments} {body : List Stmt} {scope : Scope} {f : Addr} {fd : FuncData} {N : List Str} {k : Nat} {p1 p2 p3 pv : Str} {bad : List PyData → Str → Prop}
theorem okEV (F : FunD K xn qual params body scope [] [] f fd) (S : FnScope N [p1, p2, p3, pv] scope)
    (hbind : ∀ (kV doc pm : Value) (an : Option Addr) (cdv ct : Value) (us rest : List Value), us.length = 3 → bindArgs (PySem.W.fnOf xn qual params body scope .none kV doc pm an cdv ct) ⟨us ++ rest, []⟩ = (newTuple rest >>= fun t => pure ([p1, p2, p3].zip us ++ [(pv, t)])))
    (h : ∀ (H : Hp) (Q : VK) (E : XK) (vs : List V) (ds : List PyData) (c : Str), vs.length = 4 → rels K H vs ds → bad ds c → XE1 K E c H → ∀ (cdv : Value) (A : Around) (outer : List Env) (s : Shared), Room k (A.deeper (envOfC qual scope s.heap.objs.size f cdv)) →
      ∃ t, PSs (cxOf (L2N.CX P w) P w K mg base N qual scope f cdv A outer s H E) body t ∧ t { nx := fun _ H' => Q .non H', rt := Q } (start N vs) H) : FnR P w K mg base (L2N.CX P w) (k + 1) f (spEV K bad) := by
  obtain ⟨oc, od, dV, kV, doc, pm, an, cdv, ct, osl, rfl, lk, hcd, hD, hK⟩ := F.ex
  rcases hD with ⟨_, rfl⟩ | ⟨e, _⟩
  · refine FnR.imp (StX.fn_star (ps := [p1, p2, p3]) (pv := pv) (sp := fun vs H Q E => vs.length = 4 ∧ ∃ ds c, rels K H vs (ds : List PyData) ∧ bad ds c ∧ XE1 K E c H) lk hcd S cxUpN (fun us rest hl => hbind kV doc pm an cdv ct us rest hl) ?_) ?_
    · intro A outer s H vs Q E hr hs
      obtain ⟨hv, ds, c, hd, hb, hx⟩ := hs
      exact h H Q E vs ds c hv hd hb hx cdv A outer s hr
    · intro vs H Q E hs
      obtain ⟨x, y, z, us, d0, d1, d2, ds, c, rfl, r0, r1, r2, rs, hl, hb, hx⟩ := hs
      refine ⟨[x, y, z], us, rfl, rfl, by rw [rels_len rs]; exact sz_of (by omega), fun p hp' => ?_⟩
      have n := Ex.new (o := .tup us) hp'
      exact ⟨rfl, [d0, d1, d2, .tuple ds], c, .cons (Rep.mono n r0) (.cons (Rep.mono n r1) (.cons (Rep.mono n r2) (.cons (.tup (st_of upd_same) (rels_dpE (rels_mono n rs))) .nil))), hb, hx.ex n⟩
  · exact absurd rfl e
/-- such a def of the module, to be called -/
structure CalRE (P : Program) (w : World) (K : PySem.W.Frag) (mg : Str → Option Value) (base : Heap) (k : Nat) (x : Str) (sp : Sp) (f : Addr) : Prop where
  ok : FnR P w K mg base (L2N.CX P w) k f sp
  mg : mg x = some (.ref f)
  kp : PySem.W.keepIn K (.ref f) = true
end
instance {α β γ : Type} [Rep α] [Rep β] [Rep γ] [Enc α] [Enc β] [Enc γ] [Dec α] [Dec β] [Dec γ] : Dec (Tri α β γ) := ⟨fun h => by
  cases h with
  | @tup p vs _ hs hr =>
  cases hr with
  | cons z0 hr =>
  cases hr with
  | cons z1 hr =>
  cases hr with
  | cons z2 hr =>
  cases hr
  exact ⟨p, _, _, _, rfl, hs, Dec.dec z0, Dec.dec z1, Dec.dec z2⟩⟩
/-! ### a def that answers here and raises there -/
def spOr (a b : Sp) : Sp := fun vs H Q E => a vs H Q E ∨ b vs H Q E
section
variable {P : Program} {w : World} {K : PySem.W.Frag} {mg : Str → Option Value} {base : Heap} {CX : CXT} {k : Nat} {f : Addr} {fd : FuncData} {ps : List Str} {a b : Sp} {x : Str}
theorem fnOk_or (F : FnOk P w K mg base CX0 k f fd ps a) (G : FnOk P w K mg base CX k f fd ps b) : FnOk P w K mg base CX k f fd ps (spOr a b) := ⟨fun vs H Q E h => h.elim (F.len vs H Q E) (G.len vs H Q E), fun A outer s H args us vs Q E hr e0 hb hv hs => by
  rcases hs with hs | hs
  · refine codeAny_mono (F.run A outer s H args us vs Q E hr e0 hb hv hs) fun r s2 hq => ?_
    cases r with
    | error e => exact (show False from hq).elim
    | ok fl => cases fl <;> exact hq
  · exact G.run A outer s H args us vs Q E hr e0 hb hv hs⟩
theorem Cal.or (C : Cal P w K mg base CX0 k x ps a f fd) (D : Cal P w K mg base CX k x ps b f fd) : Cal P w K mg base CX k x ps (spOr a b) f fd := ⟨fnOk_or C.ok D.ok, C.mg, C.kp, C.bd⟩
end
section
variable {α δ : Type} [Rep α] [Rep δ] {K : PySem.W.Frag} {σ : L2.St} {H : Hp} {ta : TE} {tA : TA} {E : XK} {x : α} {sp sp' : Sp} {n : Nat} {bad : List PyData → Str → Prop} {ds : List PyData} {c : Str}
theorem er_call1o {pre : α → Prop} {g : α → δ} (ha : ER K ta σ H x) (hp : pre x) : ER K (tCall (spOr (sp1 K pre g) sp') [] E (tCons ta tNil)) σ H (g x) := fun H1 e Q q =>
  ha H1 e _ fun v1 H2 e2 r1 => .inl ⟨v1, x, rfl, r1, hp, fun v H' e' r => q v H' (e2.trans e') r⟩
theorem rx_callo (h : EAs K tA σ H ds) (hn : ds.length = n) (hb : bad ds c) : RX K (tCall (spOr sp (spE K n bad)) [] E tA) σ H E c := fun H1 e y Q => h H1 e _ fun vs H2 e2 r => by
  rw [List.append_nil]
  exact .inr ⟨(rels_len r).trans hn, ds, c, r, hb, y.ex e2⟩
end
/-! ### integers among data -/
def isIntD : PyData → Bool
  | .int _ => true
  | _ => false
end Sf

namespace Sf
open PySem PySem.Spec PyProof.Rows L2 Evl
/-! ### enumerate(text) -/
def IteS (x : Str) : It where
  go := fun i _ => i < x.cps.size
  yld := fun i H v H' => ∃ T c, v = .ref T ∧ H T = none ∧ H' = upd H T (.tup [.int (i : Nat), .str ⟨#[c]⟩]) ∧ x.cps[i]? = some c
  stop := fun i _ => x.cps.size ≤ i
theorem turn_enumS {P : Program} {w : World} {K : PySem.W.Frag} {elts : List Expr} {kk : Nat} {tpos : Pos} (e it : Addr) (x : Str) (t : Tok) : Turn P w K (.Tuple elts kk tpos) (IteS x) [e, it] e (fun i h => (∃ old, IsEnum h e it ((i : Nat) : Int) old) ∧ h.IsStrIter it (strIterType x) x t i ∧ e ≠ it ∧ i ≤ x.cps.size) := by
  refine ⟨by simp, ?_, ?_, ?_, ?_, ?_⟩
  · rintro i h ⟨⟨old, he⟩, ⟨o, ho, hc, hd⟩, _⟩ b hb
    rcases List.mem_cons.mp hb with z | z
    · rw [z]
      exact ⟨_, he, fun v q => nomatch q⟩
    · rw [List.mem_singleton.mp z]
      exact ⟨o, ho, fun v q => by rw [hd] at q; cases q⟩
  · rintro i h h' ⟨⟨old, he⟩, hi, hne⟩ k
    exact ⟨⟨old, k e (by simp) _ he⟩, (let ⟨o, ho, r⟩ := hi; ⟨o, k it (by simp) o ho, r⟩), hne⟩
  · intro X hP hw hK hc i pins s σ H E I hf ⟨⟨old, he⟩, hit, hne, hle⟩ hlt
    subst hP hw hK
    have elt : e < s.heap.objs.size := Heap.lt_size he
    have ilt : it < s.heap.objs.size := by
      obtain ⟨_, q, _⟩ := hit
      exact Heap.lt_size q
    refine wpAny_pyNext_enum_itemD (Draws.text (by simpa using I.ok.hd hc) it x t) he hit hlt hne (by simp [hne]) fun y h' tk hy ho hst hT hsz hk => ?_
    obtain ⟨c, u, hcx, rfl⟩ := hy
    refine ⟨_, rfl, wpAny_letOwnedTupleGo_enum (s := { s with heap := h', toks := tk + 1 }) ho fun h2 he2 sb => ?_⟩
    have hT2 : h2.get? s.heap.objs.size = some { cls := .type "tuple", data := .seq #[.int i tk, .str ⟨#[c]⟩ u] } := (sb.2 _ (Nat.ne_of_gt elt)).trans hT
    have new : ObjOk X.prog X.w (upd H s.heap.objs.size (.tup [.int (i : Nat), .str ⟨#[c]⟩])) h2 s.heap.objs.size (.tup [.int (i : Nat), .str ⟨#[c]⟩]) :=
      ⟨by show 2 ≤ sizeLine; decide, [.int i tk, .str ⟨#[c]⟩ u], .cons ⟨_, rfl⟩ (.cons ⟨_, rfl⟩ .nil), ⟨_, hT2, rfl, _, rfl⟩⟩
    have I1 : Inv X pins σ (upd H s.heap.objs.size (.tup [.int (i : Nat), .str ⟨#[c]⟩])) { s with heap := h2, toks := tk + 1 } :=
      I.turnedNew (ch := [e, it]) (fun b ob hb q => (sb.2 b (fun z => hb (by rw [z]; exact List.mem_cons_self ..))).trans (hk b ob (fun z => hb (by rw [z]; exact List.mem_cons_self ..)) (fun z => hb (by rw [z]; exact List.mem_cons_of_mem _ (List.mem_cons_self ..))) q)) hf (Nat.le_refl _) new
    refine ⟨.ref s.heap.objs.size, _, I1, rfl, ⟨_, c, rfl, I.hok.fresh (Nat.le_refl _), rfl, hcx⟩, ⟨⟨_, by rw [show ((i + 1 : Nat) : Int) = (i : Int) + 1 by omega]; exact he2⟩, (let ⟨o, ho, r⟩ := hst; ⟨o, (sb.2 it (Ne.symm hne)).trans ho, r⟩), hne, hlt⟩, fun b hb => ?_⟩
    have lb : b < s.heap.objs.size := by
      rcases List.mem_cons.mp hb with z | z
      · rw [z]; exact elt
      · rw [List.mem_singleton.mp z]; exact ilt
    rw [upd_ne (Nat.ne_of_lt lb)]
    exact (hf b hb).1
  · intro X hP hw hK hc i pins s σ H E I hf ⟨⟨old, he⟩, hit, hne, hle⟩ hlt
    subst hP hw hK
    have ei : i = x.cps.size := Nat.le_antisymm hle hlt
    subst ei
    obtain ⟨f0, f1, f2, f3, f4, f5⟩ := hf it (by simp)
    exact wpAny_pyNext_enum_endD (Draws.text (by simpa using I.ok.hd hc) it x t) he hit fun h' eb => ⟨rfl, I.turned (t' := s.toks) (fun b o hb q => eb b o hb q) f0 f1 f3 f4 f5⟩
  · intro A i s Q E ⟨⟨old, he⟩, _⟩ h
    exact wpAny_pyIter_enum he h
def iEnumS (ta : TA) : TI := fun σ H R => ta σ H fun vs H1 => ∃ x : Str, vs = [.str x] ∧ R (IteS x) H1
theorem pi_enumS {X : Cx} {e : Expr} {ta : TA} {p pos tpos : Pos} {elts : List Expr} {kk : Nat} (hg : Gl X "enumerate") (hm : X.mg "enumerate" = none) (ha : PA X [e] ta) (hs : starEach [e] X.env = [(false, eval e X.env)] := by rfl) :
    PI X (.Tuple elts kk tpos) (.Call (.Name "enumerate" p) [e] [] pos) (iEnumS ta) := by
  refine ⟨fun pins s σ H R I h => Call_ (ld_blt I hg hm boot_enumerate (PyProof.Rows.callWith_type1 (thn (ha.run pos pins s σ H _ I h) fun us s1 ⟨vs, H1, I1, r1, x, ex, q⟩ => ?_) hs rfl))⟩
  subst ex
  obtain ⟨u, eu, ru⟩ := r1.one
  subst eu
  obtain ⟨t, rfl⟩ := ru
  refine enum1_call (begins_text x t) trivial fun h' he hit hk => wpAny_pyIter_enum he ?_
  have I2 : Inv X pins σ H1 { s1 with heap := h' } := I1.kept (t' := s1.toks) hk
  refine ⟨s1.heap.objs.size + 1, [s1.heap.objs.size + 1, s1.heap.objs.size], _, _, H1, rfl, I2, turn_enumS (s1.heap.objs.size + 1) s1.heap.objs.size x t, ⟨⟨.none, he⟩, ⟨_, hit, rfl, rfl⟩, Nat.succ_ne_self _, Nat.zero_le _⟩, fun b hb => ?_, q⟩
  have hle : s1.heap.objs.size ≤ b := by
    rcases List.mem_cons.mp hb with z | z
    · rw [z]; exact Nat.le_succ _
    · rw [List.mem_singleton.mp z]; exact Nat.le_refl _
  exact I1.fpOk hle (I1.hok.fresh hle)
theorem wk_enumS {K : PySem.W.Frag} {σ : L2.St} {H : Hp} {ta : TE} {z : Str} (h : ER K ta σ H z) : Wk K (iEnumS (tCons ta tNil)) σ H (enum (sgs z)) := fun H1 e R k => h H1 e _ fun v H2 e2 r => by
  cases r
  have hl : (enum (sgs z)).length = z.cps.size := by simp [enum, sgs]
  refine ⟨z, rfl, k _ H2 (fun _ => True) (fun i H v H' => ∃ T c, v = .ref T ∧ H T = none ∧ H' = upd H T (.tup [.int (i : Nat), .str ⟨#[c]⟩]) ∧ z.cps[i]? = some c) e2 ⟨fun i H hi g => (by show i < z.cps.size; omega), fun H g => (by show z.cps.size ≤ _; omega), fun i H x H' hi g y => y⟩ (fun _ _ => trivial) fun i Ha v Hb hi ea y => ?_⟩
  obtain ⟨T, c, rfl, hT, rfl, h2⟩ := y
  have n := Ex.new (o := .tup [.int (i : Nat), .str ⟨#[c]⟩]) hT
  have hx : (sgs z)[i]? = some (Sg.mk c) := by simp only [sgs, List.getElem?_map, Array.getElem?_toList, h2, Option.map_some]
  exact ⟨n, _, enum_get hx, T, _, _, rfl, st_of upd_same, rfl, rfl⟩
end Sf

namespace Sf
open PySem PySem.Spec PyProof.Rows L2 Evl
section
variable {α : Type} [Rep α] {K : PySem.W.Frag} {σ : L2.St} {H : Hp} {te ta tb : TE}
/-! ### tuples put together of drawn things -/
def EVN (K : PySem.W.Frag) (te : TE) (σ : L2.St) (H : Hp) (P : List V → Prop) : Prop := ∀ H1, Ex H H1 → ∀ Q : VK, (∀ vs p H2, P vs → Ex H1 H2 → SqT K H2 p vs → Q (.ref p) H2) → te σ H1 Q
theorem evn_is {vs : List V} (h : EV K te σ H vs) : EVN K te σ H (fun ws => ws = vs) := fun H1 e Q q => h H1 e Q fun p H2 e2 hs => q vs p H2 rfl e2 hs
theorem evn_I {P : Int → Prop} (h : EN K te σ H P) : EVN K (tTup (tCons te tNil)) σ H (fun ws => ∃ x, P x ∧ ws = [V.int x]) := fun H1 e Q q =>
  h H1 e _ fun x v H2 p e2 r => by
    cases r
    exact ⟨sz_of (Nat.le_of_ble_eq_true rfl), fun a ha => q [V.int x] a _ ⟨x, p, rfl⟩ (e2.trans (Ex.new ha)) (st_of upd_same)⟩
theorem evn_S {P : Str → Prop} (h : EN K te σ H P) : EVN K (tTup (tCons te tNil)) σ H (fun ws => ∃ x, P x ∧ ws = [V.str x]) := fun H1 e Q q =>
  h H1 e _ fun x v H2 p e2 r => by
    cases r
    exact ⟨sz_of (Nat.le_of_ble_eq_true rfl), fun a ha => q [V.str x] a _ ⟨x, p, rfl⟩ (e2.trans (Ex.new ha)) (st_of upd_same)⟩
theorem evn_cat {PA PB : List V → Prop} (h : EVN K ta σ H PA) (h2 : EVN K tb σ H PB) (hA : ∀ vs, PA vs → vs ≠ [] ∧ vs.length ≤ 10) (hB : ∀ vs, PB vs → vs ≠ [] ∧ vs.length ≤ 10) : EVN K (tOp (rCatT K) ta tb) σ H (fun ws => ∃ x, PA x ∧ ∃ y, PB y ∧ ws = x ++ y) := fun H1 e Q q =>
  h H1 e _ fun vs a H2 pa e2 hs => h2 H2 (e.trans e2) _ fun ws b H3 pb e3 hs2 => by
    have hl : vs.length + ws.length ≤ 100000 := by have := (hA vs pa).2; have := (hB ws pb).2; omega
    refine ⟨a, b, vs, ws, rfl, rfl, ex_t e3 hs, hs2, (hA vs pa).1, sz_of hl, ?_⟩
    first
      | exact ⟨fun z => absurd z (hB ws pb).1, fun _ p hp => q (vs ++ ws) p _ ⟨vs, pa, ws, pb, rfl⟩ ((e2.trans e3).trans (Ex.new hp)) (st_of upd_same)⟩
      | exact ⟨fun z => absurd z (hB ws pb).1, fun p hp => q (vs ++ ws) p _ ⟨vs, pa, ws, pb, rfl⟩ ((e2.trans e3).trans (Ex.new hp)) (st_of upd_same)⟩
theorem en_ofVN {P : List V → Prop} {P' : Fld → Prop} (h : EVN K te σ H P) (hv : ∀ vs, P vs → ∃ f : Fld, P' f ∧ vs = f.vs) : EN K te σ H P' := fun H1 e Q q => h H1 e Q fun vs p H2 pv e2 hs => by
  obtain ⟨f, h1, h2⟩ := hv vs pv
  exact q f (.ref p) H2 h1 e2 ⟨p, rfl, by rw [← h2]; exact hs⟩
theorem rels_intX (H : Hp) : ∀ l : List Int, rels K H (l.map V.int) l
  | [] => .nil
  | _ :: l => .cons rfl (rels_intX H l)
theorem en_ofVT {P : List V → Prop} {P' : Tpl Int → Prop} (h : EVN K te σ H P) (hv : ∀ vs, P vs → ∃ f : Tpl Int, P' f ∧ vs = f.l.map V.int) : EN K te σ H P' := fun H1 e Q q => h H1 e Q fun vs p H2 pv e2 hs => by
  obtain ⟨f, h1, h2⟩ := hv vs pv
  exact q f (.ref p) H2 h1 e2 ⟨p, f.l.map V.int, rfl, by rw [← h2]; exact hs, rels_intX H2 f.l⟩
theorem rels_ints2 {H : Hp} : ∀ {vs : List V} {l : List Int}, rels K H vs l → vs = l.map V.int
  | _, _, .nil => rfl
  | _, _, .cons h1 h2 => by
    rw [rels_ints2 h2, show _ = V.int _ from h1]
    rfl
theorem er_cast {x y : α} (h : ER K te σ H x) (e : x = y) : ER K te σ H y := e ▸ h
theorem ev_tplI {l : List Int} (h : ER K te σ H (Tpl.mk l)) : EV K te σ H (l.map V.int) := fun H1 e Q q => h H1 e Q fun v H2 e2 ⟨a, vs, hv, hs, hr⟩ => by
  subst hv
  have e3 : vs = l.map V.int := rels_ints2 hr
  rw [e3] at hs
  exact q a H2 e2 hs
end
section
variable {α β γ : Type} [Rep α] [Rep β] [Rep γ] {K : PySem.W.Frag} {σ : L2.St} {H : Hp} {ta tb tc : TE} {u : TS} {D : Ends}
/-- three at once -/
theorem n_par3 (K : PySem.W.Frag) {n m l : Nat} {s1 s2 s3 : V → V → V → L2.St} {P1 : α → Prop} {P2 : β → Prop} {P3 : γ → Prop} (h : EN K ta σ H P1) (h2 : ∀ H1, Ex H H1 → EN K tb σ H1 P2) (h3 : ∀ H1, Ex H H1 → EN K tc σ H1 P3)
    (hs1 : ∀ v w t, SetAt σ n v (s1 v w t)) (hs2 : ∀ v w t, SetAt (s1 v w t) m w (s2 v w t)) (hs3 : ∀ v w t, SetAt (s2 v w t) l t (s3 v w t))
    (k : ∀ x y z v w t H1, P1 x → P2 y → P3 z → Ex H H1 → Rep.rel K H1 v x → Rep.rel K H1 w y → Rep.rel K H1 t z → u D (s3 v w t) H1) : tSeq (tPar3 n m l (tCons ta (tCons tb (tCons tc tNil)))) u D σ H :=
  h H (Ex.refl H) _ fun x v H1 p1 e r => h2 H1 e H1 (Ex.refl H1) _ fun y w H2 p2 e2 r2 => h3 H2 (e.trans e2) H2 (Ex.refl H2) _ fun z t H3 p3 e3 r3 => ⟨v, w, t, rfl, by
    show u D (((σ.set n (some v)).set m (some w)).set l (some t)) H3
    rw [(hs1 v w t).eq, (hs2 v w t).eq, (hs3 v w t).eq]
    exact k x y z v w t _ p1 p2 p3 ((e.trans e2).trans e3) (Rep.mono (e2.trans e3) r) (Rep.mono e3 r2) r3⟩
/-- three at once, through a tuple -/
theorem n_parT3 (K : PySem.W.Frag) {P1 : α → Prop} {P2 : β → Prop} {P3 : γ → Prop} {n : Nat} {g : TGs} (hn : n = 3) (h : EN K ta σ H P1) (h2 : ∀ H1, Ex H H1 → EN K tb σ H1 P2) (h3 : ∀ H1, Ex H H1 → EN K tc σ H1 P3)
    (k : ∀ x y z v w t H1, P1 x → P2 y → P3 z → Ex H H1 → Rep.rel K H1 v x → Rep.rel K H1 w y → Rep.rel K H1 t z → g [v, w, t] σ H1 fun σ' H' => u D σ' H') : tSeq (tAsg (tTup (tCons ta (tCons tb (tCons tc tNil)))) (gTup K n g)) u D σ H :=
  h H (Ex.refl H) _ fun x v H1 p1 e r => h2 H1 e H1 (Ex.refl H1) _ fun y w H2 p2 e2 r2 => h3 H2 (e.trans e2) H2 (Ex.refl H2) _ fun z t H3 p3 e3 r3 => ⟨sz_of (by show 3 ≤ 100000; decide), fun p hp => ⟨p, [v, w, t], rfl, st_of upd_same, hn.symm, by
    have e4 := Ex.new (o := .tup [v, w, t]) hp
    exact k x y z v w t _ p1 p2 p3 (((e.trans e2).trans e3).trans e4) (Rep.mono ((e2.trans e3).trans e4) r) (Rep.mono (e3.trans e4) r2) (Rep.mono e4 r3)⟩⟩
end
/-! ### min(list), max(list) -/
def minL : List Int → Int
  | [] => 0
  | x :: r => r.foldl min x
def maxL : List Int → Int
  | [] => 0
  | x :: r => r.foldl max x
theorem foldmin : ∀ (r : List Int) (x : Int), (r.foldl min x = x ∨ r.foldl min x ∈ r) ∧ r.foldl min x ≤ x ∧ ∀ y ∈ r, r.foldl min x ≤ y
  | [], x => ⟨.inl rfl, Int.le_refl _, fun _ h => nomatch h⟩
  | a :: r, x => by
    obtain ⟨h1, h2, h3⟩ := foldmin r (min x a)
    rw [List.foldl_cons]
    refine ⟨?_, by omega, fun y hy => ?_⟩
    · rcases h1 with h | h
      · rw [h]
        by_cases z : x ≤ a
        · left
          omega
        · right
          rw [show min x a = a by omega]
          exact List.mem_cons_self ..
      · exact .inr (List.mem_cons_of_mem _ h)
    · rcases List.mem_cons.mp hy with z | z
      · rw [z]
        omega
      · exact h3 y z
theorem foldmax : ∀ (r : List Int) (x : Int), (r.foldl max x = x ∨ r.foldl max x ∈ r) ∧ x ≤ r.foldl max x ∧ ∀ y ∈ r, y ≤ r.foldl max x
  | [], x => ⟨.inl rfl, Int.le_refl _, fun _ h => nomatch h⟩
  | a :: r, x => by
    obtain ⟨h1, h2, h3⟩ := foldmax r (max x a)
    rw [List.foldl_cons]
    refine ⟨?_, by omega, fun y hy => ?_⟩
    · rcases h1 with h | h
      · rw [h]
        by_cases z : a ≤ x
        · left
          omega
        · right
          rw [show max x a = a by omega]
          exact List.mem_cons_self ..
      · exact .inr (List.mem_cons_of_mem _ h)
    · rcases List.mem_cons.mp hy with z | z
      · rw [z]
        omega
      · exact h3 y z
theorem minL_is {l : List Int} {m : Int} (h1 : m ∈ l) (h2 : ∀ x ∈ l, m ≤ x) : m = minL l := by
  cases l with
  | nil => cases h1
  | cons a r =>
    obtain ⟨k1, k2, k3⟩ := foldmin r a
    have e1 : m ≤ r.foldl min a := h2 _ (by rcases k1 with z | z; rw [z]; exact List.mem_cons_self ..; exact List.mem_cons_of_mem _ z)
    have e2 : r.foldl min a ≤ m := by
      rcases List.mem_cons.mp h1 with z | z
      · rw [z]
        exact k2
      · exact k3 m z
    show m = r.foldl min a
    omega
theorem maxL_is {l : List Int} {m : Int} (h1 : m ∈ l) (h2 : ∀ x ∈ l, x ≤ m) : m = maxL l := by
  cases l with
  | nil => cases h1
  | cons a r =>
    obtain ⟨k1, k2, k3⟩ := foldmax r a
    have e1 : r.foldl max a ≤ m := h2 _ (by rcases k1 with z | z; rw [z]; exact List.mem_cons_self ..; exact List.mem_cons_of_mem _ z)
    have e2 : m ≤ r.foldl max a := by
      rcases List.mem_cons.mp h1 with z | z
      · rw [z]
        exact k2
      · exact k3 m z
    show m = r.foldl max a
    omega
section
variable {K : PySem.W.Frag} {σ : L2.St} {H : Hp} {ta : TE}
theorem er_minL {ns : List Int} (h : ER K ta σ H ns) (hn : 0 < ns.length) : ER K (tCB (rMin K) (tCons ta tNil)) σ H (minL ns) := fun H1 e Q q => h H1 e _ fun v H2 e2 ⟨a, vs, hv, hs, hr⟩ => ⟨a, ns, by rw [hv], by rw [← rels_ints hr]; exact sq_of hs, hn, fun m h1 h2 => q _ H2 e2 (by rw [minL_is h1 h2]; rfl)⟩
theorem er_maxL {ns : List Int} (h : ER K ta σ H ns) (hn : 0 < ns.length) : ER K (tCB (rMax K) (tCons ta tNil)) σ H (maxL ns) := fun H1 e Q q => h H1 e _ fun v H2 e2 ⟨a, vs, hv, hs, hr⟩ => ⟨a, ns, by rw [hv], by rw [← rels_ints hr]; exact sq_of hs, hn, fun m h1 h2 => q _ H2 e2 (by rw [maxL_is h1 h2]; rfl)⟩
end
/-! ### defs without parameters -/
section
variable {δ : Type} [Rep δ] {K : PySem.W.Frag} {σ : L2.St} {H : Hp} {E : XK}
def sp0 (K : PySem.W.Frag) (pre : Prop) (g : δ) : Sp := fun vs H Q _ => vs = [] ∧ pre ∧ ∀ v H', Ex H H' → Rep.rel K H' v g → Q v H'
theorem er_call0 {pre : Prop} {g : δ} (hp : pre) : ER K (tCall (sp0 K pre g) [] E tNil) σ H g := fun H1 e Q q => ⟨rfl, hp, fun v H' e' r => q v H' e' r⟩
variable {P : Program} {w : World} {mg : Str → Option Value} {base : Heap} {x qual : Str} {params : Arguments} {body : List Stmt} {scope : Scope} {dvs : List V} {kws : List (Str × V)} {f : Addr} {fd : FuncData} {N ps : List Str} {k : Nat} {CX : CXT}
theorem ok0 {pre : Prop} {g : δ} (F : FunD K x qual params body scope dvs kws f fd) (S : FnScope N ps scope) (hl : ps.length = 0) (σ0 : L2.St) (h0 : start N [] = σ0)
    (h : ∀ (H : Hp) (Q : VK), pre → (∀ v H', Ex H H' → Rep.rel K H' v g → Q v H') → Body CX P w K mg base k f N qual scope body H Q σ0) : FnOk P w K mg base CX (k + 1) f fd ps (sp0 K pre g) := by
  refine F.ok S (fun vs H Q E hs => ?_) (fun cdv A outer s H vs Q E hr hs => ?_)
  · obtain ⟨rfl, _⟩ := hs
    exact hl.symm
  · obtain ⟨rfl, hp, q⟩ := hs
    rw [h0]
    exact h H Q hp q cdv A outer s E hr
end
end Sf

namespace Sf
open PySem PySem.Spec PyProof.Rows L2 Evl
/-! ### None, truth values, integers, texts: any of them -/
inductive Scal where
  | no
  | bl (b : Bool)
  | int (i : Int)
  | str (s : Str)
deriving DecidableEq
def Scal.v : Scal → V
  | .no => .non
  | .bl b => .bl b
  | .int i => .int i
  | .str s => .str s
def Scal.d : Scal → PyData
  | .no => .none
  | .bl b => .bool b
  | .int i => .int i
  | .str s => .str s
instance : Rep Scal := ⟨fun _ _ v x => v = x.v, fun _ h => h⟩
instance : Imm Scal := ⟨fun _ h => h⟩
instance : ImmX Scal := ⟨fun _ h => h⟩
instance : Enc Scal := ⟨Scal.d, fun {K H v x} h => by
  have h : v = x.v := h
  subst h
  cases x with
  | no => exact .non
  | bl b => exact .bl b
  | int i => exact .int i
  | str s => exact .str s⟩
def Scal.good : Scal → Prop
  | .str s => strG s
  | _ => True
theorem dp_scal {K : PySem.W.Frag} {H : Hp} {v : V} {x : Scal} (h : Dp K H v x.d) : Rep.rel K H v x := by
  show v = x.v
  cases x with
  | no => cases h; rfl
  | bl b => cases h; rfl
  | int i => cases h; rfl
  | str s => cases h; rfl
theorem dps_scal {K : PySem.W.Frag} {H : Hp} : ∀ {xs : List Scal} {vs : List V}, DpAll K H vs (xs.map Scal.d) → rels K H vs xs
  | [], _, h => by
    cases h
    exact .nil
  | x :: xs, _, h => by
    cases h with
    | cons h1 h2 => exact .cons (dp_scal h1) (dps_scal h2)
theorem can_scal {x : Scal} (h : x.good) : x.d.canLay0 = true := by
  cases x with
  | str s => exact h
  | no => rfl
  | bl b => rfl
  | int i => rfl
theorem cans_scal : ∀ {xs : List Scal}, (∀ x ∈ xs, x.good) → PyData.canLayAll0 (xs.map Scal.d) = true
  | [], _ => rfl
  | x :: r, h => by
    simp only [List.map_cons, PyData.canLayAll0, can_scal (h x (List.mem_cons_self ..)), cans_scal (xs := r) fun y hy => h y (List.mem_cons_of_mem _ hy), Bool.and_true]
theorem depth_scal : ∀ (xs : List Scal), PyData.depthAll (xs.map Scal.d) = 0
  | [] => rfl
  | x :: r => by
    have : x.d.depth = 0 := by cases x <;> rfl
    simp only [List.map_cons, PyData.depthAll, this, depth_scal r]
    rfl
def Fld.sc (f : Fld) : List Scal := [.int f.low, .int f.high, .int f.step, .int f.base, .str f.off, .str f.ends, .int f.big]
section
variable {K : PySem.W.Frag} {σ : L2.St} {H : Hp} {te ta tb : TE} {D : Ends} {u : TS}
theorem er_tplF {f : Fld} (h : ER K te σ H f) : ER K te σ H (Tpl.mk f.sc) := fun H1 e Q q => h H1 e Q fun v H2 e2 ⟨a, h1, h2⟩ => q v H2 e2 ⟨a, f.vs, h1, h2, .cons rfl (.cons rfl (.cons rfl (.cons rfl (.cons rfl (.cons rfl (.cons rfl .nil))))))⟩
theorem er_scI {i : Int} (h : ER K te σ H i) : ER K te σ H (Scal.int i) := h
theorem er_scB {b : Bool} (h : ER K te σ H b) : ER K te σ H (Scal.bl b) := h
theorem er_scS {s : Str} (h : ER K te σ H s) : ER K te σ H (Scal.str s) := h
theorem er_scN (h : ER K te σ H ()) : ER K te σ H Scal.no := h
theorem er_slTA {α : Type} [Rep α] {xs : Tpl α} {lo hi : Option Int} {tl th : TO} (h : ER K te σ H xs) (hl : EO K tl σ H lo) (hh : EO K th σ H hi) : ER K (tSl (rSlA K) te tl th) σ H (Tpl.mk (cutL xs.l lo hi)) := fun H1 e Q q =>
  h H1 e _ fun v H2 e2 ⟨a, vs, hv, hs, hr⟩ => hl H2 (e.trans e2) _ fun H3 e3 => hh H3 ((e.trans e2).trans e3) _ fun H4 e4 => ⟨a, vs, hv, ex_t (e3.trans e4) hs, fun hw => by
    rw [rels_len hr] at hw
    have ec : cutL xs.l lo hi = xs.l := by
      unfold cutL
      rw [hw.1, hw.2, List.drop_zero, Nat.sub_zero, List.take_length]
    exact q _ _ ((e2.trans e3).trans e4) ⟨a, vs, rfl, ex_t (e3.trans e4) hs, by rw [ec]; exact rels_mono (e3.trans e4) hr⟩, fun _ p hp => by
    have n := Ex.new (o := .tup (cutV vs lo hi)) hp
    exact q _ _ (((e2.trans e3).trans e4).trans n) ⟨p, _, rfl, st_of upd_same, rels_mono ((e3.trans e4).trans n) (cutV_rels hr lo hi)⟩⟩
theorem en_tup1 {α : Type} [Rep α] {P1 : α → Prop} (ha : EN K ta σ H P1) : EN K (tTup (tCons ta tNil)) σ H (fun z : Tpl α => ∃ x, P1 x ∧ z = Tpl.mk [x]) := fun H1 e Q q =>
  ha H1 e _ fun x v1 H2 p1 e2 r1 => ⟨sz_of (by show 1 ≤ 100000; decide), fun p hp =>
    have n := Ex.new (o := .tup [v1]) hp
    q (Tpl.mk [x]) (.ref p) _ ⟨x, p1, rfl⟩ (e2.trans n) ⟨p, [v1], rfl, st_of upd_same, .cons (Rep.mono n r1) .nil⟩⟩
def rListO (K : PySem.W.Frag) : List V → Hp → VK → Prop := fun xs H Q => ∃ p ys, xs = [.ref p] ∧ (SqL K H p ys ∨ SqT K H p ys) ∧ ∀ l, H l = none → Q (.ref l) (upd H l (.lst ys))
theorem er_listT {α : Type} [Rep α] {xs : Tpl α} (h : ER K te σ H xs) : ER K (tCB (rListO K) (tCons te tNil)) σ H xs.l := fun H1 e Q q => h H1 e _ fun v H2 e2 ⟨a, vs, hv, hs, hr⟩ => by
  subst hv
  refine ⟨a, vs, rfl, .inr hs, fun l hl => ?_⟩
  have n := Ex.new (o := .lst vs) hl
  exact q _ _ (e2.trans n) ⟨l, vs, rfl, upd_same, rels_mono n hr⟩
theorem er_neNil {xs : List Scal} (ha : ER K ta σ H xs) (hb : ER K tb σ H ([] : List Scal)) (g : ∀ x ∈ xs, x.good) : ER K (tOp (rNeD K) ta tb) σ H (!decide (xs = [])) := by
  have e : PyData.eqv (Enc.enc xs) (Enc.enc ([] : List Scal)) = decide (xs = []) := by
    show PyData.eqv (.list (xs.map Scal.d)) (.list []) = _
    cases xs with
    | nil => rfl
    | cons x r => simp [PyData.eqv, PyData.eqvAll]
  rw [← e]
  refine er_neD (er_enc ha) (er_enc hb) ?_ (by rfl)
  show SeqAt.shaped (.list (xs.map Scal.d)) = true
  simp only [SeqAt.shaped, PyData.canLay0, cans_scal g, Bool.true_and, decide_eq_true_eq, PyData.depth, depth_scal]
  decide
theorem q_unpS {xs : Tpl Scal} {n : Nat} {g : TGs} (hn : n = xs.l.length) (h : ER K te σ H xs) (k : ∀ H1, Ex H H1 → g (xs.l.map Scal.v) σ H1 fun σ' H' => u D σ' H') : tSeq (tAsg te (gTup K n g)) u D σ H := h H (Ex.refl H) _ fun v H1 e ⟨a, vs, hv, hs, hr⟩ => by
  have ev : vs = xs.l.map Scal.v := by
    clear hs
    generalize xs.l = l at hr
    induction hr with
    | nil => rfl
    | @cons v x _ _ h1 _ ih =>
      have h1 : v = x.v := h1
      rw [ih, h1]
      rfl
  subst ev
  exact ⟨a, _, hv, hs, by rw [List.length_map]; exact hn.symm, k H1 e⟩
end
end Sf

namespace Sf
open PySem PySem.Spec PyProof.Rows L2 Evl
theorem isKeyD_sg {s : Sg} (h : isKey s.c) : isKeyD (Enc.enc s) = true := by
  have e : isRow (.str ⟨#[s.c]⟩) = true := (row1 h).isRow
  show (isRow (.str ⟨#[s.c]⟩) && decide ((⟨#[s.c]⟩ : Str).length = 1)) = true
  rw [e]
  rfl
theorem k24_bad {f : Fld} (ok : FOk f) {z : PyData} (h : z ∈ (([Enc.enc (() : Unit), Enc.enc (5 : Int), Enc.enc (Tpl.mk ([] : List Int) : Tpl Int), Enc.enc (f.sc : List Scal), PyData.tuple [.int f.low, .int f.high, .int f.step, .int f.base, .str f.off, .str f.ends], Enc.enc (Fld.mk f.low f.high f.step f.base f.off f.ends 13), PyData.tuple [.int f.low, .int f.high, .int f.step, .int f.base, .none, .str f.ends, .int f.big]] : List PyData) ++ ([Enc.enc (Fld.mk f.high f.high f.step f.base f.off f.ends f.big), Enc.enc (Fld.mk f.low f.high 0 f.base f.off f.ends f.big), Enc.enc (Fld.mk f.low f.high f.step f.base f.off ("end" : Str) 5)] : List PyData))) : isField z = false := by
  simp only [List.cons_append, List.nil_append, List.mem_cons, List.not_mem_nil, or_false] at h
  rcases h with rfl | rfl | rfl | rfl | rfl | rfl | rfl | rfl | rfl | rfl
  · rfl
  · rfl
  · rfl
  · rfl
  · exact isField_len (fun z => Nat.noConfusion (Nat.succ.inj (Nat.succ.inj (Nat.succ.inj (Nat.succ.inj (Nat.succ.inj (Nat.succ.inj z)))))))
  · exact isField_words (.inr (.inr rfl))
  · rfl
  · exact isField_no (.inl (Int.le_refl _))
  · exact isField_no (.inr (show (0 : Int) < 1 by decide))
  · exact isField_words (.inr (.inl (show isWord (.str "end") (Tpl.mk ["round", "stay", "stop"]) = false by decide)))
theorem k24_val {f : Fld} {z : PyData} (h : z = Enc.enc (() : Unit) ∨ z = Enc.enc (f.low - 1 : Int) ∨ z = Enc.enc (f.high + 1 : Int) ∨ z = Enc.enc (true : Bool) ∨ z = Enc.enc ("5" : Str)) : isBetween z f.low f.high = false := by
  rcases h with rfl | rfl | rfl | rfl | rfl
  · rfl
  · show (decide (f.low ≤ f.low - 1) && decide (f.low - 1 ≤ f.high)) = false
    rw [decide_eq_false (by omega)]
    rfl
  · show (decide (f.low ≤ f.high + 1) && decide (f.high + 1 ≤ f.high)) = false
    rw [decide_eq_false (show ¬ (f.high + 1 ≤ f.high) by omega), Bool.and_false]
  · rfl
  · rfl
theorem sz_no {z : PyData} (h : ∀ w, z ≠ .str w) : SZ z := fun w e => absurd e (h w)
theorem k24_row {z : PyData} (h : z = Enc.enc (() : Unit) ∨ z = Enc.enc ("x" : Str) ∨ z = Enc.enc (repS ("u" : Str) 41) ∨ z = Enc.enc (5 : Int) ∨ z = Enc.enc ([("u" : Str)] : List Str) ∨ z = Enc.enc ("ud " : Str)) : isRow z = false ∧ SZ z := by
  rcases h with rfl | rfl | rfl | rfl | rfl | rfl
  · exact ⟨rfl, sz_no fun w z => nomatch z⟩
  · exact ⟨by decide +kernel, sz_str (by decide +kernel)⟩
  · exact ⟨by decide +kernel, sz_str (by decide +kernel)⟩
  · exact ⟨rfl, sz_no fun w z => nomatch z⟩
  · exact ⟨rfl, sz_no fun w z => nomatch z⟩
  · exact ⟨by decide +kernel, sz_str (by decide +kernel)⟩
end Sf

namespace Sf
open PySem PySem.Spec PyProof.Rows L2 Evl
open PySem.NumText (AllDigits digitsVal)
open TL (numL numL_lt numL_step numL_digits numL_ne numL_val numL_len)
/-! ### numbers written -/
abbrev cs (x : Str) : List Nat := x.cps.toList
theorem snoc_ind {α : Type} {p : List α → Prop} (h0 : p []) (h : ∀ l a, p l → p (l ++ [a])) (l : List α) : p l := by
  have key : ∀ n (l : List α), l.length = n → p l := by
    intro n
    induction n with
    | zero =>
      intro l hl
      rw [List.length_eq_zero_iff.mp hl]
      exact h0
    | succ n ih =>
      intro l hl
      rcases List.eq_nil_or_concat l with z | ⟨r, a, z⟩
      · rw [z]
        exact h0
      · rw [List.concat_eq_append] at z
        rw [z]
        refine h r a (ih r ?_)
        rw [z, List.length_append, List.length_singleton] at hl
        omega
  exact key _ l rfl
def strI (n : Int) : Str := (toString n : String)
theorem strI_pos {n : Int} (h : 0 ≤ n) : (strI n).cps.toList = numL n.natAbs := by
  obtain ⟨m, rfl⟩ := Int.eq_ofNat_of_zero_le h
  exact TL.tl_num m
theorem strI_neg {n : Int} (h : n < 0) : (strI n).cps.toList = 45 :: numL n.natAbs := by
  obtain ⟨m, rfl⟩ : ∃ m : Nat, n = Int.negSucc m := ⟨(-n - 1).toNat, by omega⟩
  have e2 := TL.tl_num (m + 1)
  unfold TL.tl at e2
  have e3 : (strI (Int.negSucc m)).cps.toList = (toString (Int.negSucc m)).toList.map Char.toNat := signs_ofString _
  rw [signs_ofString] at e2
  rw [e3]
  show ("-" ++ Nat.repr (m + 1)).toList.map Char.toNat = 45 :: numL (m + 1)
  have e4 : (toString (((m + 1 : Nat)) : Int)).toList.map Char.toNat = (Nat.repr (m + 1)).toList.map Char.toNat := rfl
  rw [e4] at e2
  rw [String.toList_append, List.map_append, e2]
  rfl
theorem val_snoc (l : List Nat) (d : Nat) : digitsVal (l ++ [d]) = digitsVal l * 10 + (d - 48) := by
  unfold digitsVal
  rw [List.foldl_append]
  rfl
theorem val_pos : ∀ (r : List Nat), AllDigits r → r ≠ [] → r.head? ≠ some 48 → 1 ≤ digitsVal r := by
  refine snoc_ind ?_ ?_
  · intro _ h
    exact absurd rfl h
  · intro l d ih hd _ hh
    rw [val_snoc]
    have hdd := hd d (List.mem_append_right _ (List.mem_singleton.mpr rfl))
    by_cases hl : l = []
    · rw [hl] at hh ⊢
      have : d ≠ 48 := fun z => hh (by rw [z]; rfl)
      unfold digitsVal
      show 1 ≤ 0 * 10 + (d - 48)
      omega
    · have := ih (fun c hc => hd c (List.mem_append_left _ hc)) hl (fun z => hh (by
        cases l with
        | nil => exact absurd rfl hl
        | cons a r => exact z))
      omega
/-- digits without a needless zero are a number's own -/
theorem num_of_val : ∀ (r : List Nat), AllDigits r → r ≠ [] → (r = [48] ∨ r.head? ≠ some 48) → numL (digitsVal r) = r := by
  refine snoc_ind ?_ ?_
  · intro _ h
    exact absurd rfl h
  · intro l d ih hd _ hh
    have hdd := hd d (List.mem_append_right _ (List.mem_singleton.mpr rfl))
    by_cases hl : l = []
    · subst hl
      have e : digitsVal ([] ++ [d]) = d - 48 := by
        unfold digitsVal
        show 0 * 10 + (d - 48) = _
        omega
      rw [e, numL_lt (by omega)]
      show [48 + (d - 48)] = [d]
      congr 1
      omega
    · have hda : AllDigits l := fun c hc => hd c (List.mem_append_left _ hc)
      have hh2 : l.head? ≠ some 48 := fun z => by
        cases l with
        | nil => exact absurd rfl hl
        | cons a r =>
          rcases hh with h | h
          · have := congrArg List.length h
            simp at this
          · exact h z
      have h1 := val_pos l hda hl hh2
      rw [val_snoc, numL_step (by omega)]
      have e1 : (digitsVal l * 10 + (d - 48)) / 10 = digitsVal l := by omega
      have e2 : 48 + (digitsVal l * 10 + (d - 48)) % 10 = d := by omega
      rw [e1, e2, ih hda hl (.inr hh2)]
theorem num_head : ∀ {n : Nat}, n ≠ 0 → (numL n).head? ≠ some 48 := by
  intro n
  induction n using Nat.strongRecOn with
  | _ n ih =>
    intro h
    by_cases h10 : n < 10
    · rw [numL_lt h10]
      intro z
      have : 48 + n = 48 := Option.some.inj z
      omega
    · rw [numL_step (by omega)]
      have := ih (n / 10) (by omega) (by omega)
      intro z
      apply this
      have hne := numL_ne (n / 10)
      cases e : numL (n / 10) with
      | nil => exact absurd e hne
      | cons a r =>
        rw [e] at z
        exact z
/-- what stands behind a leading minus -/
def bareL : List Nat → List Nat
  | 45 :: r => r
  | l => l
def plainL (l : List Nat) : Prop := bareL l ≠ [] ∧ AllDigits (bareL l) ∧ (l = [48] ∨ (bareL l).head? ≠ some 48)
theorem digits_bare {l : List Nat} (h : AllDigits l) : bareL l = l := by
  cases l with
  | nil => rfl
  | cons a r =>
    have := h a (List.mem_cons_self ..)
    unfold bareL
    split
    · rename_i e
      have := (List.cons.inj e).1
      omega
    · rfl
theorem plain_str (n : Int) : plainL (strI n).cps.toList ∧ bareL (strI n).cps.toList = numL n.natAbs := by
  by_cases h : 0 ≤ n
  · rw [strI_pos h]
    have hb := digits_bare (numL_digits n.natAbs)
    unfold plainL
    rw [hb]
    refine ⟨⟨numL_ne _, numL_digits _, ?_⟩, rfl⟩
    by_cases h0 : n.natAbs = 0
    · rw [h0]
      exact .inl (numL_lt (by decide))
    · exact .inr (num_head h0)
  · rw [strI_neg (by omega)]
    exact ⟨⟨numL_ne _, numL_digits _, .inr (num_head (by omega))⟩, rfl⟩
theorem str_plain {x : Str} (h : plainL x.cps.toList) : ∃ n : Int, x = strI n := by
  obtain ⟨h1, h2, h3⟩ := h
  by_cases hm : ∃ r, x.cps.toList = 45 :: r
  · obtain ⟨r, hr⟩ := hm
    rw [hr] at h1 h2 h3
    have e : bareL (45 :: r) = r := rfl
    rw [e] at h1 h2 h3
    have h4 : r.head? ≠ some 48 := by
      rcases h3 with z | z
      · exact absurd (List.cons.inj z).1 (by decide)
      · exact z
    have hv := val_pos r h2 h1 h4
    refine ⟨-((digitsVal r : Nat) : Int), str_ext ?_⟩
    rw [strI_neg (by omega), hr, Int.natAbs_neg, Int.natAbs_natCast, num_of_val r h2 h1 (.inr h4)]
  · have e : bareL x.cps.toList = x.cps.toList := by
      cases hx : x.cps.toList with
      | nil => rfl
      | cons a r =>
        unfold bareL
        split
        · rename_i e
          exact absurd ⟨_, hx.trans e⟩ hm
        · rfl
    rw [e] at h1 h2 h3
    refine ⟨((digitsVal x.cps.toList : Nat) : Int), str_ext ?_⟩
    rw [strI_pos (by omega), Int.natAbs_natCast, num_of_val _ h2 h1 h3]
/-- int(str(n)) -/
theorem int_str {n : Int} (h : (numL n.natAbs).length ≤ 4000) : intText? (strI n) = some n := by
  by_cases h0 : 0 ≤ n
  · have e := strI_pos h0
    have r := intText_digits (x := strI n) (by rw [e]; exact numL_digits _) (by rw [e]; exact numL_ne _) (by rw [lenL, e]; omega)
    rw [r, e, numL_val]
    congr 1
    omega
  · have e := strI_neg (n := n) (by omega)
    have r := intText_neg (x := strI n) e (numL_digits _) (numL_ne _) (by rw [lenL, e, List.length_cons]; omega)
    rw [r, numL_val]
    congr 1
    omega
theorem strI_inj {m n : Int} (hm : (numL m.natAbs).length ≤ 4000) (hn : (numL n.natAbs).length ≤ 4000) (h : strI m = strI n) : m = n := by
  have a := int_str hm
  rw [h, int_str hn] at a
  exact (Option.some.inj a).symm
theorem num_big {n k : Nat} (h : k < (numL n).length) (hk : 0 < k) : 10 ^ k ≤ n := by
  rcases Nat.lt_or_ge n (10 ^ k) with z | z
  · have := numL_len hk z
    omega
  · exact z
end Sf

namespace Sf
open PySem PySem.Spec PyProof.Rows L2 Evl
open PySem.NumText (AllDigits digitsVal)
open TL (numL numL_lt numL_step numL_digits numL_ne numL_val numL_len numL_free split_join)
/-! ### words that write integers -/
def digB (l : List Nat) : Bool := l.all fun c => decide (48 ≤ c ∧ c ≤ 57)
theorem digB_iff {l : List Nat} : digB l = true ↔ AllDigits l := by
  unfold digB AllDigits
  rw [List.all_eq_true]
  simp only [decide_eq_true_eq]
def bareS (w : Str) : Str := if decide (cutS w none (some 1) = ("-" : Str)) = true then cutS w (some 1) none else w
theorem bareS_list {w : Str} : (bareS w).cps.toList = bareL w.cps.toList := by
  have e1 : (cutS w none (some 1)).cps.toList = w.cps.toList.take 1 := cut_to (by decide)
  have e2 : (cutS w (some 1) none).cps.toList = w.cps.toList.drop 1 := cut_from (by decide)
  unfold bareS
  by_cases h : cutS w none (some 1) = ("-" : Str)
  · rw [if_pos (decide_eq_true h), e2]
    rw [h] at e1
    cases hw : w.cps.toList with
    | nil =>
      rw [hw] at e1
      exact absurd e1 (by decide)
    | cons a r =>
      rw [hw] at e1
      have e3 : [45] = [a] := e1
      have e4 : 45 = a := (List.cons.inj e3).1
      rw [← e4]
      rfl
  · rw [if_neg (by rw [decide_eq_false h]; exact Bool.false_ne_true)]
    cases hw : w.cps.toList with
    | nil => rfl
    | cons a r =>
      unfold bareL
      split
      · rename_i e
        refine absurd (str_ext ?_) h
        rw [e1, hw, (List.cons.inj e).1]
        rfl
      · rfl
def isPlain (w : Str) : Bool := !(decide (bareL w.cps.toList = [])) && (decide ((bareL w.cps.toList).length ≤ 13) && (digB (bareL w.cps.toList) && (decide (w.cps.toList = [48]) || !decide ((bareL w.cps.toList).head? = some 48))))
theorem plain_iff {w : Str} : isPlain w = true ↔ plainL w.cps.toList ∧ (bareL w.cps.toList).length ≤ 13 := by
  unfold isPlain plainL
  simp only [Bool.and_eq_true, Bool.or_eq_true, Bool.not_eq_true', decide_eq_true_eq, decide_eq_false_iff_not, digB_iff, ne_eq]
  constructor
  · rintro ⟨h1, h2, h3, h4⟩
    exact ⟨⟨h1, h3, h4⟩, h2⟩
  · rintro ⟨⟨h1, h3, h4⟩, h2⟩
    exact ⟨h1, h2, h3, h4⟩
def intV (w : Str) : Int := (intText? w).getD 0
theorem plain_val {w : Str} (h : isPlain w = true) : ∃ n : Int, w = strI n ∧ (numL n.natAbs).length ≤ 13 ∧ intText? w = some n ∧ intV w = n ∧ w.length ≤ 14 := by
  obtain ⟨h1, h2⟩ := plain_iff.mp h
  obtain ⟨n, e⟩ := str_plain h1
  have h3 := (plain_str n).2
  rw [e, h3] at h2
  have h4 := int_str (n := n) (by omega)
  refine ⟨n, e, h2, by rw [e]; exact h4, by unfold intV; rw [e, h4]; rfl, ?_⟩
  rw [e, lenL]
  by_cases h0 : 0 ≤ n
  · rw [strI_pos h0]
    omega
  · rw [strI_neg (by omega), List.length_cons]
    omega
/-- bare digits: int() reads them -/
theorem int_bare {w : Str} (h1 : bareL w.cps.toList ≠ []) (h2 : AllDigits (bareL w.cps.toList)) (h3 : (bareL w.cps.toList).length ≤ 100) : intText? w = some (intV w) ∧ (w.cps.toList.length ≤ 101) ∧ ∃ k : Nat, k = digitsVal (bareL w.cps.toList) ∧ (intV w).natAbs = k := by
  by_cases hm : ∃ r, w.cps.toList = 45 :: r
  · obtain ⟨r, hr⟩ := hm
    rw [hr] at h1 h2 h3 ⊢
    have e : bareL (45 :: r) = r := rfl
    rw [e] at h1 h2 h3 ⊢
    have q := intText_neg hr h2 h1 (by rw [lenL, hr, List.length_cons]; omega)
    refine ⟨by unfold intV; rw [q]; rfl, by rw [List.length_cons]; omega, _, rfl, ?_⟩
    unfold intV
    rw [q]
    show (-((digitsVal r : Nat) : Int)).natAbs = _
    omega
  · have e : bareL w.cps.toList = w.cps.toList := by
      cases hx : w.cps.toList with
      | nil => rfl
      | cons a r =>
        unfold bareL
        split
        · rename_i e
          exact absurd ⟨_, hx.trans e⟩ hm
        · rfl
    rw [e] at h1 h2 h3 ⊢
    have q := intText_digits h2 h1 (by rw [lenL]; omega)
    refine ⟨by unfold intV; rw [q]; rfl, by omega, _, rfl, ?_⟩
    unfold intV
    rw [q]
    show (((digitsVal w.cps.toList : Nat) : Int)).natAbs = _
    omega
/-- the law's reading of a word -/
def lawInt (w : Str) : Option Int := if (decide (bareL w.cps.toList = []) || (decide (14 < (bareL w.cps.toList).length) || !digB (bareL w.cps.toList))) = true then none else if strI (intV w) = w then some (intV w) else none
theorem lawInt_plain {w : Str} (h : isPlain w = true) : lawInt w = some (intV w) := by
  obtain ⟨n, e, h1, h2, h3, h4⟩ := plain_val h
  obtain ⟨⟨p1, p2, p3⟩, p4⟩ := plain_iff.mp h
  unfold lawInt
  rw [if_neg (by rw [decide_eq_false p1, decide_eq_false (by omega), digB_iff.mpr p2]; exact Bool.false_ne_true), h3, if_pos e.symm]
theorem lawInt_big {w : Str} {n : Int} (h : isPlain w = false) (h2 : lawInt w = some n) : 10000000000000 ≤ n.natAbs := by
  unfold lawInt at h2
  split at h2
  · cases h2
  · rename_i hc
    simp only [Bool.or_eq_true, Bool.not_eq_true', decide_eq_true_eq, not_or, Bool.not_eq_false] at hc
    obtain ⟨c1, c2, c3⟩ := hc
    split at h2
    · rename_i e
      have en : intV w = n := Option.some.inj h2
      rw [en] at e
      have hp := plain_str n
      rw [e] at hp
      have hlen : ¬ (bareL w.cps.toList).length ≤ 13 := fun z => by
        rw [plain_iff.mpr ⟨hp.1, z⟩] at h
        cases h
      rw [hp.2] at hlen
      have := num_big (n := n.natAbs) (k := 13) (by omega) (by decide)
      exact this
    · cases h2
/-! ### lines -/
def fld7 (ws : List Str) (i0 i1 i2 i3 i6 : Int) : Fld := ⟨i0, i1, i2, i3, ws.getD 4 "", ws.getD 5 "", i6⟩
def fieldV (ws : List Str) : Fld := fld7 ws (intV (ws.getD 0 "")) (intV (ws.getD 1 "")) (intV (ws.getD 2 "")) (intV (ws.getD 3 "")) (intV (ws.getD 6 ""))
def allPlain (ws : List Str) : Bool := isPlain (ws.getD 0 "") && (isPlain (ws.getD 1 "") && (isPlain (ws.getD 2 "") && (isPlain (ws.getD 3 "") && isPlain (ws.getD 6 ""))))
def wordsOf (line : Str) : List Str := Txt.split line (" " : Str)
def fieldIn (line : Str) : Option Fld := if (wordsOf line).length = 7 ∧ allPlain (wordsOf line) = true ∧ fokB (fieldV (wordsOf line)) = true then some (fieldV (wordsOf line)) else none
def lawSome (ws : List Str) : List (Option Int) := [lawInt (ws.getD 0 ""), lawInt (ws.getD 1 ""), lawInt (ws.getD 2 ""), lawInt (ws.getD 3 ""), lawInt (ws.getD 6 "")]
def lawFld (ws : List Str) : Fld := fld7 ws ((lawInt (ws.getD 0 "")).getD 0) ((lawInt (ws.getD 1 "")).getD 0) ((lawInt (ws.getD 2 "")).getD 0) ((lawInt (ws.getD 3 "")).getD 0) ((lawInt (ws.getD 6 "")).getD 0)
def lawBad (ws : List Str) : Bool := decide (none ∈ lawSome ws) || !fokB (lawFld ws)
theorem fok_bounds {f : Fld} (h : fokB f = true) : f.low.natAbs ≤ 1000000000000 ∧ f.high.natAbs ≤ 1000000000000 ∧ f.step.natAbs ≤ 1000000000000 ∧ f.base.natAbs ≤ 1000000000000 ∧ f.big.natAbs ≤ 12 := by
  obtain ⟨l0, lh, h1, s0, s1, b0, b1, off, ends, g0, g1, on⟩ := fokB_ok h
  refine ⟨by omega, by omega, by omega, by omega, by omega⟩
theorem lawBad_eq {ws : List Str} : (if lawBad ws = true then none else some (lawFld ws)) = if allPlain ws = true ∧ fokB (fieldV ws) = true then some (fieldV ws) else none := by
  by_cases ha : allPlain ws = true
  · have hp := ha
    unfold allPlain at hp
    simp only [Bool.and_eq_true] at hp
    obtain ⟨p0, p1, p2, p3, p6⟩ := hp
    have ef : lawFld ws = fieldV ws := by
      unfold lawFld fieldV
      rw [lawInt_plain p0, lawInt_plain p1, lawInt_plain p2, lawInt_plain p3, lawInt_plain p6]
      rfl
    have en : decide (none ∈ lawSome ws) = false := by
      refine decide_eq_false ?_
      unfold lawSome
      rw [lawInt_plain p0, lawInt_plain p1, lawInt_plain p2, lawInt_plain p3, lawInt_plain p6]
      intro h
      simp at h
    unfold lawBad
    rw [en, ef, Bool.false_or]
    cases hf : fokB (fieldV ws) with
    | true =>
      rw [if_neg (by decide), if_pos ⟨ha, rfl⟩]
    | false =>
      rw [if_pos (show (!false) = true from rfl), if_neg (fun z => by cases z.2)]
  · rw [if_neg (c := allPlain ws = true ∧ fokB (fieldV ws) = true) (fun z => ha z.1)]
    refine if_pos ?_
    unfold lawBad
    cases hn : decide (none ∈ lawSome ws) with
    | true => rfl
    | false =>
      rw [Bool.false_or, Bool.not_eq_true']
      have hn2 := of_decide_eq_false hn
      cases hf : fokB (lawFld ws) with
      | false => rfl
      | true =>
        exfalso
        obtain ⟨b0, b1, b2, b3, b6⟩ := fok_bounds hf
        apply ha
        have key : ∀ i, lawInt (ws.getD i "") ∈ lawSome ws → ((lawInt (ws.getD i "")).getD 0).natAbs ≤ 1000000000000 → isPlain (ws.getD i "") = true := fun i hm hb => by
          cases hp : isPlain (ws.getD i "") with
          | true => rfl
          | false =>
            cases hl : lawInt (ws.getD i "") with
            | none =>
              rw [hl] at hm
              exact absurd hm hn2
            | some n =>
              rw [hl] at hb
              have hb : n.natAbs ≤ 1000000000000 := hb
              have := lawInt_big hp hl
              omega
        unfold allPlain
        rw [key 0 (by unfold lawSome; simp) b0, key 1 (by unfold lawSome; simp) b1, key 2 (by unfold lawSome; simp) b2, key 3 (by unfold lawSome; simp) b3, key 6 (by unfold lawSome; simp) (Nat.le_trans b6 (by decide))]
        rfl
theorem lawLine_eq {line : Str} (h : (wordsOf line).length = 7) : (if lawBad (wordsOf line) = true then none else some (lawFld (wordsOf line))) = fieldIn line := by
  rw [lawBad_eq]
  unfold fieldIn
  by_cases hc : allPlain (wordsOf line) = true ∧ fokB (fieldV (wordsOf line)) = true
  · rw [if_pos hc, if_pos ⟨h, hc⟩]
  · rw [if_neg hc, if_neg (fun z => hc z.2)]
/-! ### fields written -/
def lineWords (f : Fld) : List Str := [strI f.low, strI f.high, strI f.step, strI f.base, f.off, f.ends, strI f.big]
def lineOf (f : Fld) : Str := Txt.join (" " : Str) (lineWords f)
theorem num13 {n : Int} (h : n.natAbs ≤ 1000000000000) : (numL n.natAbs).length ≤ 13 := numL_len (by decide) (by omega)
theorem strI_free {n : Int} {s : Nat} (h : s < 45 ∨ 57 < s) : s ∉ (strI n).cps.toList := by
  by_cases h0 : 0 ≤ n
  · rw [strI_pos h0]
    exact numL_free (by omega)
  · rw [strI_neg (by omega)]
    intro hm
    rcases List.mem_cons.mp hm with z | z
    · omega
    · exact numL_free (by omega) z
theorem strI_len {n : Int} (h : n.natAbs ≤ 1000000000000) : (strI n).length ≤ 14 := by
  have := num13 h
  rw [lenL]
  by_cases h0 : 0 ≤ n
  · rw [strI_pos h0]
    omega
  · rw [strI_neg (by omega), List.length_cons]
    omega
theorem isPlain_str {n : Int} (h : n.natAbs ≤ 1000000000000) : isPlain (strI n) = true := by
  have hp := plain_str n
  exact plain_iff.mpr ⟨hp.1, by rw [hp.2]; exact num13 h⟩
theorem intV_str {n : Int} (h : n.natAbs ≤ 1000000000000) : intV (strI n) = n := by
  have := num13 h
  unfold intV
  rw [int_str (by omega)]
  rfl
theorem word_free {x : Str} {l : List Str} (h : x ∈ l) (hl : (l.all fun y => y.cps.toList.all fun c => decide (97 ≤ c)) = true) {s : Nat} (hs : s < 97) : s ∉ x.cps.toList := fun hm => by
  have h1 := List.all_eq_true.mp (List.all_eq_true.mp hl x h) s hm
  have := of_decide_eq_true h1
  omega
theorem line_free {f : Fld} (hf : FOk f) {s : Nat} (hs : s < 45) : ∀ p ∈ lineWords f, s ∉ p.cps.toList := by
  obtain ⟨l0, lh, h1, s0, s1, b0, b1, off, ends, g0, g1, on⟩ := hf
  have ho : f.off ∈ (["add", "near", "next"] : List Str) := by
    rcases off with z | z | z <;> rw [z] <;> decide
  have he : f.ends ∈ (["round", "stay", "stop"] : List Str) := by
    rcases ends with z | z | z <;> rw [z] <;> decide
  intro p hp
  unfold lineWords at hp
  simp only [List.mem_cons, List.not_mem_nil, or_false] at hp
  rcases hp with z | z | z | z | z | z | z
  · rw [z]
    exact strI_free (.inl hs)
  · rw [z]
    exact strI_free (.inl hs)
  · rw [z]
    exact strI_free (.inl hs)
  · rw [z]
    exact strI_free (.inl hs)
  · rw [z]
    exact word_free ho (by decide) (by omega)
  · rw [z]
    exact word_free he (by decide) (by omega)
  · rw [z]
    exact strI_free (.inl hs)
theorem words_line {f : Fld} (hf : FOk f) : wordsOf (lineOf f) = lineWords f := split_join (s := 32) (S := []) rfl (by decide +kernel) (by unfold lineWords; simp) (line_free hf (by decide))
theorem fok_fokB {f : Fld} (hf : FOk f) : fokB f = true := by
  obtain ⟨l0, lh, h1, s0, s1, b0, b1, off, ends, g0, g1, on⟩ := hf
  have ho : f.off ∈ (["add", "near", "next"] : List Str) := by
    rcases off with z | z | z <;> rw [z] <;> decide
  have he : f.ends ∈ (["round", "stay", "stop"] : List Str) := by
    rcases ends with z | z | z <;> rw [z] <;> decide
  unfold fokB
  rw [decide_eq_true (show LOK f.low f.high f.step f.base from ⟨l0, lh, h1, s0, s1, b0, b1⟩), decide_eq_true ho, decide_eq_true he, decide_eq_true (show 2 ≤ f.big ∧ f.big ≤ 12 from ⟨g0, g1⟩)]
  exact decide_eq_true on
theorem read_line {f : Fld} (hf : FOk f) : fieldIn (lineOf f) = some f := by
  have hb := fok_bounds (fok_fokB hf)
  have e : fieldV (lineWords f) = f := by
    unfold fieldV fld7
    show (Fld.mk (intV (strI f.low)) (intV (strI f.high)) (intV (strI f.step)) (intV (strI f.base)) f.off f.ends (intV (strI f.big))) = f
    rw [intV_str hb.1, intV_str hb.2.1, intV_str hb.2.2.1, intV_str hb.2.2.2.1, intV_str (Nat.le_trans hb.2.2.2.2 (by decide))]
  unfold fieldIn
  rw [words_line hf, e]
  refine if_pos ⟨rfl, ?_, fok_fokB hf⟩
  unfold allPlain
  show (isPlain (strI f.low) && (isPlain (strI f.high) && (isPlain (strI f.step) && (isPlain (strI f.base) && isPlain (strI f.big))))) = true
  rw [isPlain_str hb.1, isPlain_str hb.2.1, isPlain_str hb.2.2.1, isPlain_str hb.2.2.2.1, isPlain_str (Nat.le_trans hb.2.2.2.2 (by decide))]
  rfl
end Sf

namespace Sf
open PySem PySem.Spec PyProof.Rows L2 Evl
section
variable {K : PySem.W.Frag} {tA : TA} {σ : L2.St} {H : Hp} {ds : List PyData} {n : Nat} {m : Int} {bad : List PyData → Prop} {E : XK} {u : TS} {D : Ends}
theorem q_rm (h : EAs K tA σ H ds) (hn : ds.length = n) (hb : bad ds) (x : XMany m K E H) : tSeq (tDrop (tCall (spEM K n m bad) [] E tA)) u D σ H := h H (Ex.refl _) _ fun vs H2 e2 r => by
  rw [List.append_nil]
  exact ⟨(rels_len r).trans hn, ds, r, hb, fun d H' e3 hd => x d H' (e2.trans e3) hd⟩
theorem l_rm (h : EAs K tA σ H ds) (hn : ds.length = n) (hb : bad ds) (x : XMany m K E H) : tDrop (tCall (spEM K n m bad) [] E tA) D σ H := h H (Ex.refl _) _ fun vs H2 e2 r => by
  rw [List.append_nil]
  exact ⟨(rels_len r).trans hn, ds, r, hb, fun d H' e3 hd => x d H' (e2.trans e3) hd⟩
theorem XMany.ex {E : XK} {H H' : Hp} (x : XMany m K E H) (e : Ex H H') : XMany m K E H' := fun d H2 e2 hd => x d H2 (e.trans e2) hd
end
end Sf

namespace Sf
open PySem PySem.Spec PyProof.Rows L2 Evl
/-! ### e.limit of the TooMany that the suite holds -/
def limO : Out → Int
  | .many n => n
  | _ => 0
theorem er_lim {K : PySem.W.Frag} {cs : List Str} {σ : L2.St} {H : Hp} {a : Addr} {cls : Value} {d : Option Addr} {o : Out} {j : Nat} (hj : σ[j]? = some (some (.ref a))) (hh : Held K cs H cls d o) (hm : isO o "TooMany" = true) (hc : ¬ ("TooMany" : Str) ∈ cs) : ER K (tByMany (He.ga K "TooMany") a cls d (tVar j)) σ H (limO o) := fun H1 e Q q => by
  have hh := Held.ey e.y hh
  cases o with
  | ret => exact hh.elim
  | own c =>
    have hcm : c = "TooMany" := of_decide_eq_true hm
    rw [hcm] at hh
    exact absurd hh.1 hc
  | many n =>
    obtain ⟨M, rfl, dd, rfl, hd⟩ := hh
    exact ⟨.ref a, hj, rfl, rfl, dd, .int n, rfl, hd, q _ H1 (Ex.refl _) rfl⟩
theorem lim_b {K : PySem.W.Frag} {cs : List Str} {o : Out} (h : OkO K cs o) : 0 ≤ limO o ∧ limO o ≤ 1000000 := by
  cases o with
  | many n => exact h.2
  | _ => exact ⟨Int.le_refl _, (show (0 : Int) ≤ 1000000 by decide)⟩
abbrev rStrX : List V → Hp → VK → Prop := fun xs H Q => (∃ i, xs = [.int i] ∧ i.natAbs.log2 < 1920 ∧ Q (.str (toString i : String)) H) ∨ (∃ a, xs = [.str a] ∧ Q (.str a) H)
theorem call_strX {X : Cx} : CallR X (.type "str") rStrX := call_str_int.or SkE.call_str_str
theorem er_strI {K : PySem.W.Frag} {σ : L2.St} {H : Hp} {ta : TE} {n : Int} (h : ER K ta σ H n) (hn : n.natAbs ≤ 10000000000000000) : ER K (tCB rStrX (tCons ta tNil)) σ H (strI n) := fun H1 e Q q => h H1 e _ fun v H2 e2 r => .inl ⟨n, by rw [r], by
  by_cases h0 : n.natAbs = 0
  · rw [h0]
    decide
  · exact (Nat.log2_lt h0).mpr (Nat.lt_of_le_of_lt hn (Nat.lt_of_lt_of_le (show 10000000000000000 < 2 ^ 60 by decide) (Nat.pow_le_pow_right (by decide) (by decide)))), q _ H2 e2 rfl⟩
theorem lim_len {K : PySem.W.Frag} {cs : List Str} {o : Out} (h : OkO K cs o) : ("many" : Str).length + (strI (limO o)).length ≤ 100000 := by
  obtain ⟨h0, h1⟩ := lim_b h
  have e := strI_len (n := limO o) (by omega)
  have e4 : ("many" : Str).length = 4 := by decide
  omega
/-- [x(lambda: ..), n] != [w, j] -/
theorem ety_neL {K : PySem.W.Frag} {Ts : List (Addr × Str)} {σ : L2.St} {H : Hp} {x w : Str} {i j : Int} {t1 t2 tR : TE} (h : EY K Ts t1 σ H x) (h2 : ∀ H1, ExtT H H1 → LamX.Tabs Ts H1 → ER K t2 σ H1 i) (hR : ∀ H1, ER K tR σ H1 ([Enc.enc w, Enc.enc j] : List PyData)) (hv : x = w) (hi : i = j) (hw : PyData.strOk w = true) : ETY Ts (tTest (tOp (rNeD K) (tLst (tCons t1 (tCons t2 tNil))) tR)) σ H false := fun Q k => h _ fun v H1 e t r => by
  cases r
  exact h2 H1 e t H1 (Ex.refl _) _ fun u H2 e2 r2 => by
    cases r2
    refine ⟨sz_of (show 2 ≤ 100000 by decide), fun p hp => ?_⟩
    have n := Ex.new (o := .lst [V.str x, V.int i]) hp
    refine hR _ _ (Ex.refl _) _ fun z H3 e3 r3 => ?_
    have hl : H3 p = some (.lst [V.str x, V.int i]) := e3 _ _ upd_same
    have e0 : PyData.eqv (.list [.str w, .int j]) (.list [.str w, .int j]) = true := by simp [PyData.eqv, PyData.eqvAll]
    have hs0 : ∀ {x : Str} {i : Int}, PyData.strOk x = true → SeqAt.shaped (.list [.str x, .int i]) = true := fun h => by
      simp [SeqAt.shaped, PyData.canLay0, PyData.canLayAll0, PyData.depth, PyData.depthAll, h]
    refine ⟨.list [.str x, .int i], .list [.str w, .int j], .lst (sq_of hl) (.cons (.str _) (.cons (.int _) .nil)), Enc.dp (α := List PyData) r3, hs0 (x := x) (by rw [hv]; exact hw), hs0 hw, ?_⟩
    subst hv hi
    rw [e0]
    exact ⟨false, rfl, k H3 (e.trans (.of ((e2.trans n).trans e3))) (t.ext ((e2.trans n).trans e3))⟩
theorem er_ofI2 {K : PySem.W.Frag} {te : TE} {σ : L2.St} {H : Hp} {i j : Int} (h : EV K te σ H [.int i, .int j]) : ER K te σ H (Tpl.mk [i, j] : Tpl Int) := fun H1 e Q q => h H1 e Q fun p H2 e2 hs => q (.ref p) H2 e2 ⟨p, _, rfl, hs, .cons rfl (.cons rfl .nil)⟩
end Sf

namespace Sf
open PySem PySem.Spec PyProof.Rows L2 Evl
/-- the nearest multiple of s p below or above, ties up, told in steps of s -/
def belowOf (s p far : Int) : Int := if s * p ≤ 2 * (far - far / (s * p) * s * p) then far / (s * p) * s + s else far / (s * p) * s
theorem near_div {m x : Int} (hm : 0 < m) : (2 * x + m) / (2 * m) = if m ≤ 2 * (x - x / m * m) then x / m + 1 else x / m := by
  have h1 := Int.emod_add_mul_ediv x m
  have h2 := Int.emod_nonneg x (show m ≠ 0 by omega)
  have h3 := Int.emod_lt_of_pos x hm
  rw [Int.mul_comm] at h1
  split
  · next h =>
    have e : 2 * x + m = (2 * (x % m) - m) + (x / m + 1) * (2 * m) := by
      have : (x / m + 1) * (2 * m) = 2 * (x / m * m) + 2 * m := by
        rw [Int.add_mul, ← Int.mul_assoc, Int.mul_comm (x / m) 2, Int.mul_assoc, Int.one_mul]
      omega
    rw [e, Int.add_mul_ediv_right _ _ (by omega), Int.ediv_eq_zero_of_lt (by omega) (by omega)]
    omega
  · next h =>
    have e : 2 * x + m = (2 * (x % m) + m) + x / m * (2 * m) := by
      have : x / m * (2 * m) = 2 * (x / m * m) := by
        rw [← Int.mul_assoc, Int.mul_comm (x / m) 2, Int.mul_assoc]
      omega
    rw [e, Int.add_mul_ediv_right _ _ (by omega), Int.ediv_eq_zero_of_lt (by omega) (by omega)]
    omega
theorem below_eq {s p x : Int} (hs : 0 < s) (hp : 0 < p) : belowOf s p x = (2 * x + s * p) / (2 * (s * p)) * s := by
  rw [near_div (Int.mul_pos hs hp)]
  unfold belowOf
  rw [Int.mul_assoc (x / (s * p)) s p]
  split
  · rw [Int.add_mul, Int.one_mul]
  · rfl
theorem shown_eq {f : Fld} {w d : Int} (hf : FL f) (hw : 2 ≤ w) : max (gridOf f).1 (min (gridOf f).2 ((gridOf f).1 + belowOf f.step (w - 1) ((f.low - (gridOf f).1) * (w - 1) + (f.high - f.low) * d))) = valueAt f w d := by
  obtain ⟨l0, lh, h1, s0, s1, b0, b1⟩ := hf
  unfold valueAt
  congr 2
  rw [below_eq (by omega) (by omega)]
  unfold rawAt
  have hm : 0 < f.step * (w - 1) := Int.mul_pos (by omega) (by omega)
  have e1 : (gridOf f).1 = f.base - (f.base - f.low) / f.step * f.step := rfl
  generalize (f.base - f.low) / f.step = q at e1
  rw [e1]
  have e2 : 2 * ((f.low - f.base) * (w - 1) + (f.high - f.low) * d) + f.step * (w - 1) = (2 * ((f.low - (f.base - q * f.step)) * (w - 1) + (f.high - f.low) * d) + f.step * (w - 1)) + -q * (2 * (f.step * (w - 1))) := by
    have k : (f.low - (f.base - q * f.step)) * (w - 1) = (f.low - f.base) * (w - 1) + q * (f.step * (w - 1)) := by
      rw [show f.low - (f.base - q * f.step) = (f.low - f.base) + q * f.step by omega, Int.add_mul, Int.mul_assoc q]
    have k2 : -q * (2 * (f.step * (w - 1))) = -(2 * (q * (f.step * (w - 1)))) := by
      rw [Int.neg_mul, ← Int.mul_assoc, Int.mul_comm q 2, Int.mul_assoc]
    omega
  rw [Int.mul_assoc 2 f.step, e2, Int.add_mul_ediv_right _ _ (by omega), Int.add_mul, Int.neg_mul]
  omega
/-! ### which dots show a value -/
theorem on_mul {f : Fld} {k v : Int} (h : v = f.base + k * f.step) : isOn f v = true := by
  unfold isOn
  rw [decide_eq_true_eq, h, show f.base + k * f.step - f.base = k * f.step by omega]
  exact Int.mul_emod_left ..
theorem value_on {f : Fld} {w d : Int} : isOn f (valueAt f w d) = true := by
  have h1 : (gridOf f).1 = f.base + -((f.base - f.low) / f.step) * f.step := by
    show f.base - (f.base - f.low) / f.step * f.step = _
    rw [Int.neg_mul]
    omega
  have h2 : (gridOf f).2 = f.base + ((f.high - f.base) / f.step) * f.step := rfl
  have h3 : rawAt f w d = f.base + ((2 * ((f.low - f.base) * (w - 1) + (f.high - f.low) * d) + f.step * (w - 1)) / (2 * f.step * (w - 1))) * f.step := rfl
  have h4 : valueAt f w d = (gridOf f).1 ∨ valueAt f w d = (gridOf f).2 ∨ valueAt f w d = rawAt f w d := by
    unfold valueAt
    omega
  rcases h4 with z | z | z
  · rw [z]; exact on_mul h1
  · rw [z]; exact on_mul h2
  · rw [z]; exact on_mul h3
section
variable {f : Fld} {w v d : Int}
theorem dot_iff (hf : FL f) (hw : 2 ≤ w) (h0 : 0 ≤ d) (h1 : d < w) : valueAt f w d = v ↔ firstDot f w v ≤ d ∧ d < firstDot f w (v + 1) := by
  constructor
  · intro h
    constructor
    · refine Int.not_lt.mp fun k => ?_
      have := firstDot_lo (v := v) hf hw d h0 k
      omega
    · refine Int.not_le.mp fun k => ?_
      have := firstDot_hi (f := f) (v := v + 1) d k h1
      omega
  · intro ⟨h2, h3⟩
    have k1 := firstDot_hi (f := f) (v := v) d h2 h1
    have k2 := firstDot_lo (v := v + 1) hf hw d h0 h3
    omega
theorem dots_le (hf : FL f) (hw : 2 ≤ w) : firstDot f w v ≤ firstDot f w (v + 1) := by
  refine Int.not_lt.mp fun k => ?_
  have a := firstDot_le (f := f) (w := w) (v := v) (by omega)
  have b := firstDot_le (f := f) (w := w) (v := v + 1) (by omega)
  have k1 := firstDot_lo (v := v) hf hw _ b.1 k
  have k2 := firstDot_hi (f := f) (v := v + 1) (firstDot f w (v + 1)) (Int.le_refl _) (by omega)
  omega
theorem range_if (hf : FL f) (hw : 2 ≤ w) : rangeOf f w v = if firstDot f w v < firstDot f w (v + 1) then some (firstDot f w v, firstDot f w (v + 1) - 1) else none := by
  have a := firstDot_le (f := f) (w := w) (v := v) (by omega)
  have b := firstDot_le (f := f) (w := w) (v := v + 1) (by omega)
  unfold rangeOf
  by_cases h : firstDot f w v < firstDot f w (v + 1)
  · rw [if_pos h, if_neg]
    have k := (dot_iff (v := v) hf hw a.1 (by omega)).mpr ⟨Int.le_refl _, h⟩
    rw [decide_eq_false (by omega), k]
    simp
  · rw [if_neg h, if_pos]
    by_cases k : firstDot f w v = w
    · rw [decide_eq_true k]
      rfl
    · rw [decide_eq_false k, Bool.false_or, Bool.not_eq_true', decide_eq_false_iff_not]
      intro k2
      have := (dot_iff (v := v) hf hw a.1 (by omega)).mp k2
      omega
end
theorem rng_add {lo : Int} {m n : Nat} : rng lo (m + n) = rng lo m ++ rng (lo + m) n := by
  unfold rng
  rw [List.range_add, List.map_append, List.map_map]
  congr 1
  refine List.map_congr_left fun i _ => ?_
  show lo + ((m + i : Nat) : Int) = lo + (m : Int) + (i : Int)
  omega
theorem filter_rng {p : Int → Bool} {A B : Int} {n : Nat} (h0 : 0 ≤ A) (h1 : A ≤ B) (h2 : B ≤ n) (hp : ∀ d : Int, 0 ≤ d → d < n → (p d = true ↔ A ≤ d ∧ d < B)) : (rng 0 n).filter p = rng A (B - A).toNat := by
  have e : n = A.toNat + ((B - A).toNat + ((n : Int) - B).toNat) := by omega
  have c1 : (rng 0 A.toNat).filter p = [] := by
    rw [List.filter_eq_nil_iff]
    intro d hd
    have := rng_mem.mp hd
    rw [hp d (by omega) (by omega)]
    omega
  have c2 : (rng (0 + (A.toNat : Int)) (B - A).toNat).filter p = rng (0 + (A.toNat : Int)) (B - A).toNat := by
    rw [List.filter_eq_self]
    intro d hd
    have := rng_mem.mp hd
    rw [hp d (by omega) (by omega)]
    omega
  have c3 : (rng (0 + (A.toNat : Int) + ((B - A).toNat : Int)) ((n : Int) - B).toNat).filter p = [] := by
    rw [List.filter_eq_nil_iff]
    intro d hd
    have := rng_mem.mp hd
    rw [hp d (by omega) (by omega)]
    omega
  rw [e, rng_add, rng_add, List.filter_append, List.filter_append, c1, c2, c3, List.nil_append, List.append_nil, show (0 + (A.toNat : Int)) = A by omega]
def placesOf (f : Fld) (w v : Int) : List Int := ((rng 0 w.toNat).filter fun d => decide (valueAt f w d = v)).map fun d => d
theorem places_rng {f : Fld} {w v : Int} (hf : FL f) (hw : 2 ≤ w) : placesOf f w v = rng (firstDot f w v) (firstDot f w (v + 1) - firstDot f w v).toNat := by
  have a := firstDot_le (f := f) (w := w) (v := v) (by omega)
  have b := firstDot_le (f := f) (w := w) (v := v + 1) (by omega)
  unfold placesOf
  rw [List.map_id']
  refine filter_rng a.1 (dots_le hf hw) (by omega) fun d h0 h1 => ?_
  rw [decide_eq_true_eq]
  exact dot_iff hf hw h0 (by omega)
def dueOf (l : List Int) : Option (Int × Int) := if (!decide (l = [])) = true then some (l.getD 0 0, l.getD (l.length - 1) 0) else none
theorem due_rng {A B : Int} (h : A ≤ B) : dueOf (rng A (B - A).toNat) = if A < B then some (A, B - 1) else none := by
  unfold dueOf
  by_cases k : A < B
  · have hn : rng A (B - A).toNat ≠ [] := by
      intro z
      have := congrArg List.length z
      rw [rng_len, List.length_nil] at this
      omega
    rw [if_pos k, if_pos (by rw [decide_eq_false hn]; rfl), rng_len, List.getD_eq_getElem?_getD, List.getD_eq_getElem?_getD, rng_get (by omega), rng_get (by omega)]
    show some (A + ((0 : Nat) : Int), A + (((B - A).toNat - 1 : Nat) : Int)) = _
    congr 2
    · omega
    · omega
  · have e : rng A (B - A).toNat = [] := by
      rw [show (B - A).toNat = 0 by omega]
      rfl
    rw [e, if_neg k]
    rfl
theorem dots_due {f : Fld} {w v : Int} (hf : FL f) (hw : 2 ≤ w) : dotsFor f w v = dueOf (placesOf f w v) := by
  rw [places_rng hf hw, due_rng (dots_le hf hw), ← range_if hf hw]
  unfold dotsFor
  by_cases h : isOn f v = true
  · rw [if_pos h]
  · rw [if_neg h, range_if hf hw, if_neg]
    intro k
    have a := firstDot_le (f := f) (w := w) (v := v) (by omega)
    have b := firstDot_le (f := f) (w := w) (v := v + 1) (by omega)
    have e := (dot_iff (v := v) hf hw a.1 (by omega)).mpr ⟨Int.le_refl _, k⟩
    exact h (by rw [← e]; exact value_on)
theorem due_len {f : Fld} {w v : Int} (hf : FL f) (hw : 2 ≤ w) (h : (!(dueOf (placesOf f w v)).isNone) = true) : ((placesOf f w v).length : Int) = (((dueOf (placesOf f w v)).getD (0, 0)).2 - ((dueOf (placesOf f w v)).getD (0, 0)).1) + 1 := by
  rw [places_rng hf hw] at h ⊢
  rw [due_rng (dots_le hf hw)] at h ⊢
  rw [rng_len]
  by_cases k : firstDot f w v < firstDot f w (v + 1)
  · rw [if_pos k]
    show _ = firstDot f w (v + 1) - 1 - firstDot f w v + 1
    omega
  · rw [if_neg k] at h
    cases h
theorem shown_dots {f : Fld} {w d : Int} (hf : FL f) (hw : 2 ≤ w) (h0 : 0 ≤ d) (h1 : d < w) : dotsFor f w (valueAt f w d) = some (firstDot f w (valueAt f w d), firstDot f w (valueAt f w d + 1) - 1) ∧ firstDot f w (valueAt f w d) ≤ d ∧ d ≤ firstDot f w (valueAt f w d + 1) - 1 := by
  have k := (dot_iff (v := valueAt f w d) hf hw h0 h1).mp rfl
  unfold dotsFor
  rw [if_pos value_on, range_if hf hw, if_pos (by omega)]
  exact ⟨rfl, k.1, by omega⟩
def justL (f : Fld) (w v a b : Int) : List Bool := (([a, b].map fun d => decide (valueAt f w d = v)) ++ if 0 < a then [!decide (valueAt f w (a - 1) = v)] else []) ++ if b < w - 1 then [!decide (valueAt f w (b + 1) = v)] else []
def justB (f : Fld) (w v a b : Int) : Bool := !decide (false ∈ justL f w v a b)
theorem just_yes {f : Fld} {w v d : Int} (hf : FL f) (hw : 2 ≤ w) (h0 : 0 ≤ d) (h1 : d < w) (hv : valueAt f w d = v) : justB f w v (firstDot f w v) (firstDot f w (v + 1) - 1) = true := by
  have a := firstDot_le (f := f) (w := w) (v := v) (by omega)
  have b := firstDot_le (f := f) (w := w) (v := v + 1) (by omega)
  have k := (dot_iff (v := v) hf hw h0 h1).mp hv
  unfold justB justL
  rw [Bool.not_eq_true', decide_eq_false_iff_not, List.mem_append, List.mem_append]
  rintro ((z | z) | z)
  · have e1 := (dot_iff (v := v) (d := firstDot f w v) hf hw (by omega) (by omega)).mpr ⟨Int.le_refl _, by omega⟩
    have e2 := (dot_iff (v := v) (d := firstDot f w (v + 1) - 1) hf hw (by omega) (by omega)).mpr ⟨by omega, by omega⟩
    rw [List.map_cons, List.map_cons, List.map_nil, decide_eq_true e1, decide_eq_true e2] at z
    simp at z
  · split at z
    · rw [List.mem_singleton] at z
      have e := of_decide_eq_true (nb_f z.symm)
      have := (dot_iff (v := v) (d := firstDot f w v - 1) hf hw (by omega) (by omega)).mp e
      omega
    · cases z
  · split at z
    · rw [List.mem_singleton] at z
      have e := of_decide_eq_true (nb_f z.symm)
      have := (dot_iff (v := v) (d := firstDot f w (v + 1) - 1 + 1) hf hw (by omega) (by omega)).mp e
      omega
    · cases z
theorem grid_in {f : Fld} (hf : FL f) : f.low ≤ (gridOf f).1 ∧ (gridOf f).2 ≤ f.high := by
  obtain ⟨l0, lh, h1, s0, s1, b0, b1⟩ := hf
  have k1 := div_le (x := f.base - f.low) (y := f.step) (by omega)
  have k2 := div_le (x := f.high - f.base) (y := f.step) (by omega)
  show f.low ≤ f.base - (f.base - f.low) / f.step * f.step ∧ f.base + (f.high - f.base) / f.step * f.step ≤ f.high
  omega
theorem value_in {f : Fld} {w d : Int} (hf : FL f) (hg : (gridOf f).1 ≤ (gridOf f).2) : f.low ≤ valueAt f w d ∧ valueAt f w d ≤ f.high := by
  have := grid_in hf
  unfold valueAt
  omega
theorem k12_at {g : Int → Int} {w d : Int} (h : d ∈ rng 0 w.toNat) : atI ((rng 0 w.toNat).map g) d = some (g d) := by
  have h1 := rng_mem.mp h
  have e : d = ((d.toNat : Nat) : Int) := by omega
  rw [e]
  refine atI_nat ?_
  rw [List.getElem?_map, rng_get (by omega), ← e, Int.zero_add]
  rfl
theorem k12_ne {l : List Int} (h : (!decide (l = [])) = true) : 1 ≤ l.length := by
  cases l with
  | nil => cases h
  | cons a r => simp
theorem k12_first {l : List Int} (h : (!decide (l = [])) = true) : atI l 0 = some (l.getD 0 0) := at_getD (i := 0) (k12_ne h)
theorem k12_last {l : List Int} (h : (!decide (l = [])) = true) : atI l (-1) = some (l.getD (l.length - 1) 0) := atI_last (k12_ne h)
theorem k12_d {d w : Int} (h : d ∈ rng 0 w.toNat) : 0 ≤ d ∧ d < w := by
  have := rng_mem.mp h
  omega
theorem k12_some {f : Fld} {w : Int} {vs xs l : List Int} (hf : FL f) (hg : (gridOf f).1 ≤ (gridOf f).2) (hv : vs = (rng 0 w.toNat).map fun d => valueAt f w d) (hl : l = cutL vs none (some 3) ++ xs) (hx : ∀ y ∈ xs, f.low ≤ y ∧ y ≤ f.high) : ∀ y ∈ l, f.low ≤ y ∧ y ≤ f.high := by
  intro y hy
  rw [hl, List.mem_append] at hy
  rcases hy with z | z
  · rw [show (3 : Int) = ((3 : Nat) : Int) from rfl, cutL_to, hv] at z
    obtain ⟨d, _, rfl⟩ := List.mem_map.mp (List.mem_of_mem_take z)
    exact value_in hf hg
  · exact hx y z
theorem k12_cat {vs xs : List Int} {n : Nat} {p : Int → Prop} (h : xs.length = n ∧ ∀ y ∈ xs, p y) (hn : n ≤ 6) : (cutL vs none (some 3)).length + xs.length ≤ 100000 := by
  rw [show (3 : Int) = ((3 : Nat) : Int) from rfl, cutL_to, List.length_take]
  omega
theorem k12_b1 {s p far b : Int} (d : b = far / (s * p) * s) (h : decide (s * p ≤ 2 * (far - b * p)) = true) : b + s = belowOf s p far := by
  have h1 := of_decide_eq_true h
  rw [d] at h1 ⊢
  unfold belowOf
  rw [if_pos h1]
theorem k12_b2 {s p far b : Int} (d : b = far / (s * p) * s) (h : decide (s * p ≤ 2 * (far - b * p)) = false) : b = belowOf s p far := by
  have h1 := of_decide_eq_false h
  rw [d] at h1 ⊢
  unfold belowOf
  rw [if_neg h1]
theorem k12_end {f : Fld} {w d first last parts far below : Int} (hf : FL f) (hw : 2 ≤ w) (d1 : first = f.base - (f.base - f.low) / f.step * f.step) (d2 : last = f.base + (f.high - f.base) / f.step * f.step) (d3 : parts = w - 1)
    (d4 : far = (f.low - first) * parts + (f.high - f.low) * d) (d5 : below = belowOf f.step parts far) : max first (min last (first + below)) = valueAt f w d := by
  rw [← shown_eq hf hw, d5, d4, d3, d1, d2]
  rfl
theorem k12_two {a b d w : Int} (h : d ∈ [a, b]) (ha : 0 ≤ a ∧ a < w) (hb : 0 ≤ b ∧ b < w) : 0 ≤ d ∧ d < w := by
  simp only [List.mem_cons, List.not_mem_nil, or_false] at h
  rcases h with z | z
  · rw [z]; exact ha
  · rw [z]; exact hb
theorem k12_j {f : Fld} {w v d : Int} {p : Int × Int} (hw : 2 ≤ w) (hd : dotsFor f w v = some (firstDot f w v, firstDot f w (v + 1) - 1) ∧ firstDot f w v ≤ d ∧ d ≤ firstDot f w (v + 1) - 1) (e : p = (dotsFor f w v).getD (0, 0)) (h : 0 ≤ d ∧ d < w) : (0 ≤ p.1 ∧ p.1 < w) ∧ (0 ≤ p.2 ∧ p.2 < w) := by
  have a := firstDot_le (f := f) (w := w) (v := v) (by omega)
  have b := firstDot_le (f := f) (w := w) (v := v + 1) (by omega)
  rw [e, hd.1]
  show (0 ≤ firstDot f w v ∧ firstDot f w v < w) ∧ (0 ≤ firstDot f w (v + 1) - 1 ∧ firstDot f w (v + 1) - 1 < w)
  omega
theorem k12_hdv {s p : Int} (s0 : 1 ≤ s) (s1 : s ≤ 1000000000000) (p0 : 1 ≤ p) (p1 : p ≤ 1000000) : 0 < s * p ∧ s * p < 1267650600228229401496703205376 := by
  have h1 : 0 < s * p := Int.mul_pos (by omega) (by omega)
  have h2 : s * p ≤ s * 1000000 := Int.mul_le_mul_of_nonneg_left p1 (by omega)
  omega
theorem k12_opt {α : Type} {x : Option α} {d : α} (h : (!x.isNone) = true) : x = some (x.getD d) := by
  cases x with
  | none => cases h
  | some y => rfl
end Sf

namespace Sf
open PySem PySem.Spec PyProof.Rows L2 Evl
/-- far along, and the step told there -/
def farAt (f : Fld) (w d : Int) : Int := (f.low - (gridOf f).1) * (w - 1) + (f.high - f.low) * d
def idxR (f : Fld) (w d : Int) : Int := (2 * farAt f w d + f.step * (w - 1)) / (2 * (f.step * (w - 1)))
def lastI (f : Fld) : Int := ((gridOf f).2 - (gridOf f).1) / f.step
def idx (f : Fld) (w d : Int) : Int := max 0 (min (lastI f) (idxR f w d))
theorem grid_mul {f : Fld} (hf : FL f) : (gridOf f).2 = (gridOf f).1 + lastI f * f.step := by
  obtain ⟨l0, lh, h1, s0, s1, b0, b1⟩ := hf
  have e : (gridOf f).2 - (gridOf f).1 = ((f.high - f.base) / f.step + (f.base - f.low) / f.step) * f.step := by
    show f.base + (f.high - f.base) / f.step * f.step - (f.base - (f.base - f.low) / f.step * f.step) = _
    rw [Int.add_mul]
    omega
  unfold lastI
  rw [e, Int.mul_ediv_cancel _ (by omega), ← e]
  omega
theorem lastI_ge {f : Fld} (hf : FL f) (hg : (gridOf f).1 ≤ (gridOf f).2) : 0 ≤ lastI f := by
  obtain ⟨l0, lh, h1, s0, s1, b0, b1⟩ := hf
  exact Int.ediv_nonneg (by omega) (by omega)
theorem value_idx {f : Fld} {w d : Int} (hf : FL f) (hg : (gridOf f).1 ≤ (gridOf f).2) (hw : 2 ≤ w) : valueAt f w d = (gridOf f).1 + idx f w d * f.step := by
  have s0 : 1 ≤ f.step := hf.2.2.2.1
  have h0 := lastI_ge hf hg
  rw [← shown_eq hf hw, below_eq (by omega) (by omega), grid_mul hf]
  show max _ (min _ (_ + idxR f w d * f.step)) = _
  unfold idx
  generalize idxR f w d = r
  have k1 : 0 ≤ lastI f * f.step := Int.mul_nonneg h0 (by omega)
  by_cases a : r ≤ lastI f
  · have k2 : r * f.step ≤ lastI f * f.step := Int.mul_le_mul_of_nonneg_right a (by omega)
    by_cases b : 0 ≤ r
    · have k3 : 0 ≤ r * f.step := Int.mul_nonneg b (by omega)
      rw [show max 0 (min (lastI f) r) = r by omega]
      omega
    · have k3 : r * f.step ≤ 0 := Int.mul_nonpos_of_nonpos_of_nonneg (by omega) (by omega)
      rw [show max 0 (min (lastI f) r) = 0 by omega, Int.zero_mul]
      omega
  · have k2 : lastI f * f.step ≤ r * f.step := Int.mul_le_mul_of_nonneg_right (by omega) (by omega)
    rw [show max 0 (min (lastI f) r) = lastI f by omega]
    omega
theorem idx_in {f : Fld} {w d : Int} (h0 : 0 ≤ lastI f) : 0 ≤ idx f w d ∧ idx f w d ≤ lastI f := by
  unfold idx
  omega
theorem idx_0 {f : Fld} {w : Int} (hf : FL f) (hg : (gridOf f).1 ≤ (gridOf f).2) (hw : 2 ≤ w) : idx f w 0 = 0 := by
  have h0 := lastI_ge hf hg
  have hgl := grid_in hf
  have s0 : 1 ≤ f.step := hf.2.2.2.1
  have hm : 0 < f.step * (w - 1) := Int.mul_pos (by omega) (by omega)
  have k : (f.low - (gridOf f).1) * (w - 1) ≤ 0 := Int.mul_nonpos_of_nonpos_of_nonneg (by omega) (by omega)
  have e : idxR f w 0 ≤ 0 := by
    unfold idxR farAt
    rw [Int.mul_zero, Int.add_zero]
    refine Int.le_of_lt_add_one (Int.ediv_lt_of_lt_mul (by omega) ?_)
    omega
  unfold idx
  omega
theorem idx_w {f : Fld} {w : Int} (hf : FL f) (hg : (gridOf f).1 ≤ (gridOf f).2) (hw : 2 ≤ w) : idx f w (w - 1) = lastI f := by
  have h0 := lastI_ge hf hg
  have hgl := grid_in hf
  have hgm := grid_mul hf
  have s0 : 1 ≤ f.step := hf.2.2.2.1
  have hm : 0 < f.step * (w - 1) := Int.mul_pos (by omega) (by omega)
  have k : lastI f * (f.step * (w - 1)) ≤ farAt f w (w - 1) := by
    unfold farAt
    rw [← Int.add_mul, ← Int.mul_assoc]
    exact Int.mul_le_mul_of_nonneg_right (by omega) (by omega)
  have e : lastI f ≤ idxR f w (w - 1) := by
    unfold idxR
    refine Int.le_ediv_of_mul_le (by omega) ?_
    have e2 : lastI f * (2 * (f.step * (w - 1))) = 2 * (lastI f * (f.step * (w - 1))) := by
      rw [← Int.mul_assoc, Int.mul_comm (lastI f) 2, Int.mul_assoc]
    omega
  unfold idx
  omega
theorem idx_mono {f : Fld} {w d d' : Int} (hf : FL f) (hw : 2 ≤ w) (h : d ≤ d') : idx f w d ≤ idx f w d' := by
  have s0 : 1 ≤ f.step := hf.2.2.2.1
  have lh : f.low < f.high := hf.2.1
  have hm : 0 < f.step * (w - 1) := Int.mul_pos (by omega) (by omega)
  have h2 : (f.high - f.low) * d ≤ (f.high - f.low) * d' := Int.mul_le_mul_of_nonneg_left h (by omega)
  have e : idxR f w d ≤ idxR f w d' := by
    unfold idxR farAt
    exact Int.ediv_le_ediv (by omega) (by omega)
  unfold idx
  omega
theorem far_next {f : Fld} {w d : Int} : farAt f w (d + 1) = farAt f w d + (f.high - f.low) := by
  unfold farAt
  rw [Int.mul_add, Int.mul_one]
  omega
/-- dots at most a step apart: no value is left out -/
theorem idx_near {f : Fld} {w d : Int} (hf : FL f) (hw : 2 ≤ w) (h : f.high - f.low ≤ f.step * (w - 1)) : idx f w (d + 1) ≤ idx f w d + 1 := by
  have s0 : 1 ≤ f.step := hf.2.2.2.1
  have hm : 0 < f.step * (w - 1) := Int.mul_pos (by omega) (by omega)
  have e : idxR f w (d + 1) ≤ idxR f w d + 1 := by
    unfold idxR
    rw [far_next, ← Int.add_mul_ediv_right _ 1 (show 2 * (f.step * (w - 1)) ≠ 0 by omega)]
    exact Int.ediv_le_ediv (by omega) (by omega)
  unfold idx
  omega
/-- dots further apart than a step: no value is shown twice, but the ends -/
theorem idxR_far {f : Fld} {w d : Int} (hf : FL f) (hw : 2 ≤ w) (h : f.step * (w - 1) < f.high - f.low) : idxR f w d + 1 ≤ idxR f w (d + 1) := by
  have s0 : 1 ≤ f.step := hf.2.2.2.1
  have hm : 0 < f.step * (w - 1) := Int.mul_pos (by omega) (by omega)
  unfold idxR
  rw [far_next, ← Int.add_mul_ediv_right _ 1 (show 2 * (f.step * (w - 1)) ≠ 0 by omega)]
  exact Int.ediv_le_ediv (by omega) (by omega)
theorem idxR_far2 {f : Fld} {w d : Int} (hf : FL f) (hw : 2 ≤ w) (h : f.step * (w - 1) < f.high - f.low) : ∀ n : Nat, idxR f w d + n ≤ idxR f w (d + n)
  | 0 => by
    rw [show d + ((0 : Nat) : Int) = d by omega]
    omega
  | n + 1 => by
    have k1 := idxR_far2 (d := d) hf hw h n
    have k2 := idxR_far (d := d + n) hf hw h
    rw [show d + ((n + 1 : Nat) : Int) = d + n + 1 by omega]
    omega
theorem idx_far {f : Fld} {w d d' : Int} (hf : FL f) (hw : 2 ≤ w) (h : f.step * (w - 1) < f.high - f.low) (hd : d ≤ d') (h1 : 0 < idx f w d) (h2 : idx f w d' < lastI f) : idx f w d + (d' - d) ≤ idx f w d' := by
  have k := idxR_far2 (d := d) hf hw h (d' - d).toNat
  rw [show d + (((d' - d).toNat : Nat) : Int) = d' by omega] at k
  unfold idx at *
  omega
/-- the i-th value on a step -/
def valI (f : Fld) (i : Int) : Int := (gridOf f).1 + i * f.step
theorem valI_lt {f : Fld} {i j : Int} (hf : FL f) : valI f i < valI f j ↔ i < j := by
  have s0 : 1 ≤ f.step := hf.2.2.2.1
  unfold valI
  constructor
  · intro h
    refine Int.not_le.mp fun k => ?_
    have := Int.mul_le_mul_of_nonneg_right k (show 0 ≤ f.step by omega)
    omega
  · intro h
    have := Int.mul_lt_mul_of_pos_right h (show 0 < f.step by omega)
    omega
theorem valI_inj {f : Fld} {i j : Int} (hf : FL f) : valI f i = valI f j ↔ i = j := by
  have k1 := valI_lt (i := i) (j := j) hf
  have k2 := valI_lt (i := j) (j := i) hf
  constructor
  · intro h
    omega
  · intro h
    rw [h]
theorem valI_0 {f : Fld} : valI f 0 = (gridOf f).1 := by
  unfold valI
  rw [Int.zero_mul, Int.add_zero]
theorem valI_last {f : Fld} (hf : FL f) : valI f (lastI f) = (gridOf f).2 := (grid_mul hf).symm
/-- all values are shown by dots at most a step apart -/
theorem near_go {f : Fld} {w : Int} (hf : FL f) (hg : (gridOf f).1 ≤ (gridOf f).2) (hw : 2 ≤ w) (h : f.high - f.low ≤ f.step * (w - 1)) : ∀ (n : Nat) (i : Int), 0 ≤ i → i ≤ idx f w n → ∃ d : Int, 0 ≤ d ∧ d ≤ n ∧ idx f w d = i
  | 0, i, h0, h1 => by
    have e : idx f w ((0 : Nat) : Int) = 0 := idx_0 hf hg hw
    exact ⟨((0 : Nat) : Int), by omega, by omega, by omega⟩
  | n + 1, i, h0, h1 => by
    have k := idx_near (d := n) hf hw h
    rw [show ((n : Int) + 1) = ((n + 1 : Nat) : Int) by omega] at k
    by_cases z : i ≤ idx f w n
    · obtain ⟨d, a, b, c⟩ := near_go hf hg hw h n i h0 z
      exact ⟨d, a, by omega, c⟩
    · exact ⟨((n + 1 : Nat) : Int), by omega, by omega, by omega⟩
theorem near_all {f : Fld} {w : Int} (hf : FL f) (hg : (gridOf f).1 ≤ (gridOf f).2) (hw : 2 ≤ w) (h : lastI f = 0 ∨ f.high - f.low ≤ f.step * (w - 1)) {i : Int} (h0 : 0 ≤ i) (h1 : i ≤ lastI f) : ∃ d : Int, 0 ≤ d ∧ d < w ∧ idx f w d = i := by
  rcases h with h | h
  · exact ⟨0, by omega, by omega, by rw [idx_0 hf hg hw]; omega⟩
  · have e := idx_w hf hg hw
    obtain ⟨d, a, b, c⟩ := near_go hf hg hw h (w - 1).toNat i h0 (by rw [show (((w - 1).toNat : Nat) : Int) = w - 1 by omega, e]; exact h1)
    exact ⟨d, a, by omega, c⟩
section
variable {f : Fld} {w : Int} (hf : FL f) (hg : (gridOf f).1 ≤ (gridOf f).2) (hw : 2 ≤ w)
include hf hg hw
theorem value_i {d : Int} : valueAt f w d = valI f (idx f w d) := value_idx hf hg hw
/-- the first dot that shows more than the first value; the first dot of the last value -/
theorem dotA {d : Int} (h0 : 0 ≤ d) (h1 : d < w) : firstDot f w ((gridOf f).1 + 1) ≤ d ↔ 1 ≤ idx f w d := by
  have e := value_i hf hg hw (d := d)
  have k := valI_lt (i := 0) (j := idx f w d) hf
  rw [valI_0, ← e] at k
  constructor
  · intro h
    have := firstDot_hi (f := f) (v := (gridOf f).1 + 1) d h h1
    omega
  · intro h
    refine Int.not_lt.mp fun z => ?_
    have := firstDot_lo (v := (gridOf f).1 + 1) hf hw d h0 z
    omega
theorem dotB {d : Int} (h0 : 0 ≤ d) (h1 : d < w) : firstDot f w (gridOf f).2 ≤ d ↔ lastI f ≤ idx f w d := by
  have e := value_i hf hg hw (d := d)
  have k := valI_lt (i := idx f w d) (j := lastI f) hf
  rw [valI_last hf, ← e] at k
  constructor
  · intro h
    have := firstDot_hi (f := f) (v := (gridOf f).2) d h h1
    omega
  · intro h
    refine Int.not_lt.mp fun z => ?_
    have := firstDot_lo (v := (gridOf f).2) hf hw d h0 z
    omega
theorem dotA_1 : 1 ≤ firstDot f w ((gridOf f).1 + 1) := by
  refine Int.not_lt.mp fun z => ?_
  have := (dotA hf hg hw (d := 0) (by omega) (by omega)).mp (by omega)
  rw [idx_0 hf hg hw] at this
  omega
theorem dotB_w : firstDot f w (gridOf f).2 ≤ w - 1 := (dotB hf hg hw (d := w - 1) (by omega) (by omega)).mpr (by rw [idx_w hf hg hw]; omega)
theorem dotAB (hl : 1 ≤ lastI f) : firstDot f w ((gridOf f).1 + 1) ≤ firstDot f w (gridOf f).2 := by
  have b := firstDot_le (f := f) (w := w) (v := (gridOf f).2) (by omega)
  have b2 := dotB_w hf hg hw
  refine (dotA hf hg hw b.1 (by omega)).mpr ?_
  have := (dotB hf hg hw b.1 (by omega)).mp (Int.le_refl _)
  omega
/-- between the ends: the j-th dot shows at least the j+1-st value, and each one another -/
theorem mid_ge (hl : 1 ≤ lastI f) (h : f.step * (w - 1) < f.high - f.low) {j k : Int} (h0 : 0 ≤ j) (hjk : j ≤ k) (h1 : k < firstDot f w (gridOf f).2 - firstDot f w ((gridOf f).1 + 1)) :
    j + 1 ≤ idx f w (firstDot f w ((gridOf f).1 + 1) + j) ∧ idx f w (firstDot f w ((gridOf f).1 + 1) + j) + (k - j) ≤ idx f w (firstDot f w ((gridOf f).1 + 1) + k) ∧ idx f w (firstDot f w ((gridOf f).1 + 1) + k) < lastI f := by
  have a := dotA_1 hf hg hw
  have b := dotB_w hf hg hw
  have z1 := (dotA hf hg hw (d := firstDot f w ((gridOf f).1 + 1)) (by omega) (by omega)).mp (Int.le_refl _)
  have z2 := (dotA hf hg hw (d := firstDot f w ((gridOf f).1 + 1) + j) (by omega) (by omega)).mp (by omega)
  have z3 : idx f w (firstDot f w ((gridOf f).1 + 1) + k) < lastI f := Int.not_le.mp fun z => by
    have := (dotB hf hg hw (d := firstDot f w ((gridOf f).1 + 1) + k) (by omega) (by omega)).mpr z
    omega
  have z4 : idx f w (firstDot f w ((gridOf f).1 + 1) + j) < lastI f := Int.not_le.mp fun z => by
    have := (dotB hf hg hw (d := firstDot f w ((gridOf f).1 + 1) + j) (by omega) (by omega)).mpr z
    omega
  have e1 := idx_far (d := firstDot f w ((gridOf f).1 + 1)) (d' := firstDot f w ((gridOf f).1 + 1) + j) hf hw h (by omega) (by omega) z4
  have e2 := idx_far (d := firstDot f w ((gridOf f).1 + 1) + j) (d' := firstDot f w ((gridOf f).1 + 1) + k) hf hw h (by omega) (by omega) z3
  exact ⟨by omega, by omega, z3⟩
end
/-- whether dots are near enough to show all -/
def nearB (f : Fld) (w : Int) : Bool := decide (everyOf f = 1) || decide (f.high - f.low ≤ f.step * (w - 1))
theorem every_eq {f : Fld} : everyOf f = lastI f + 1 := rfl
theorem count_near {f : Fld} {w : Int} (h : nearB f w = true) : countOf f w = everyOf f := by
  unfold countOf
  rw [if_pos (show (decide (everyOf f = 1) || decide (f.high - f.low ≤ f.step * (w - 1))) = true from h)]
theorem count_far {f : Fld} {w : Int} (h : nearB f w = false) : countOf f w = firstDot f w (gridOf f).2 - firstDot f w ((gridOf f).1 + 1) + 2 := by
  unfold countOf
  rw [if_neg (by show ¬ nearB f w = true; rw [h]; exact Bool.false_ne_true)]
theorem near_or {f : Fld} {w : Int} (h : nearB f w = true) : lastI f = 0 ∨ f.high - f.low ≤ f.step * (w - 1) := by
  unfold nearB at h
  rw [Bool.or_eq_true, decide_eq_true_eq, decide_eq_true_eq, every_eq] at h
  rcases h with h | h
  · exact .inl (by omega)
  · exact .inr h
theorem far_and {f : Fld} {w : Int} (hf : FL f) (hg : (gridOf f).1 ≤ (gridOf f).2) (h : nearB f w = false) : 1 ≤ lastI f ∧ f.step * (w - 1) < f.high - f.low := by
  have h0 := lastI_ge hf hg
  unfold nearB at h
  rw [Bool.or_eq_false_iff, decide_eq_false_iff_not, decide_eq_false_iff_not, every_eq] at h
  omega
/-- if as many are shown as there are, all are shown -/
theorem all_shown {f : Fld} {w : Int} (hf : FL f) (hg : (gridOf f).1 ≤ (gridOf f).2) (hw : 2 ≤ w) (hc : countOf f w = everyOf f) {i : Int} (h0 : 0 ≤ i) (h1 : i ≤ lastI f) : ∃ d : Int, 0 ≤ d ∧ d < w ∧ idx f w d = i := by
  cases hn : nearB f w with
  | true => exact near_all hf hg hw (near_or hn) h0 h1
  | false =>
    obtain ⟨hl, h⟩ := far_and hf hg hn
    rw [count_far hn, every_eq] at hc
    have a := dotA_1 hf hg hw
    have b := dotB_w hf hg hw
    by_cases z0 : i = 0
    · exact ⟨0, by omega, by omega, by rw [idx_0 hf hg hw]; omega⟩
    · by_cases z1 : i = lastI f
      · exact ⟨w - 1, by omega, by omega, by rw [idx_w hf hg hw]; omega⟩
      · have k := mid_ge hf hg hw hl h (j := i - 1) (k := firstDot f w (gridOf f).2 - firstDot f w ((gridOf f).1 + 1) - 1) (by omega) (by omega) (by omega)
        exact ⟨firstDot f w ((gridOf f).1 + 1) + (i - 1), by omega, by omega, by omega⟩
theorem rng_pw {a : Int} {n : Nat} : (rng a n).Pairwise (· < ·) := by
  unfold rng
  rw [List.pairwise_map]
  refine List.Pairwise.imp ?_ List.pairwise_lt_range
  intro x y h
  omega
/-- the values that are shown, one by one -/
def shownL (f : Fld) (w : Int) : List Int :=
  if nearB f w = true then (rng 0 (everyOf f).toNat).map (valI f)
  else (gridOf f).1 :: (((rng (firstDot f w ((gridOf f).1 + 1)) (firstDot f w (gridOf f).2 - firstDot f w ((gridOf f).1 + 1)).toNat).map fun d => valueAt f w d) ++ [(gridOf f).2])
section
variable {f : Fld} {w : Int} (hf : FL f) (hg : (gridOf f).1 ≤ (gridOf f).2) (hw : 2 ≤ w)
include hf hg hw
theorem shownL_len : ((shownL f w).length : Int) = countOf f w := by
  unfold shownL
  have h0 := lastI_ge hf hg
  cases hn : nearB f w with
  | true =>
    rw [if_pos rfl, List.length_map, rng_len, count_near hn, every_eq]
    omega
  | false =>
    obtain ⟨hl, h⟩ := far_and hf hg hn
    have k := dotAB hf hg hw hl
    rw [if_neg Bool.false_ne_true, List.length_cons, List.length_append, List.length_map, rng_len, count_far hn, List.length_cons, List.length_nil]
    omega
theorem shownL_pw : (shownL f w).Pairwise (· < ·) := by
  unfold shownL
  cases hn : nearB f w with
  | true =>
    rw [if_pos rfl, List.pairwise_map]
    exact rng_pw.imp fun h => (valI_lt hf).mpr h
  | false =>
    obtain ⟨hl, h⟩ := far_and hf hg hn
    have a := dotA_1 hf hg hw
    have b := dotB_w hf hg hw
    have kl := (valI_lt (i := 0) (j := lastI f) hf).mpr (by omega)
    rw [valI_0, valI_last hf] at kl
    rw [if_neg Bool.false_ne_true, List.pairwise_cons, List.pairwise_append, List.pairwise_map]
    refine ⟨fun z hz => ?_, ?_, List.pairwise_singleton .., fun x hx y hy => ?_⟩
    · rw [List.mem_append, List.mem_map, List.mem_singleton] at hz
      rcases hz with ⟨d, hd, rfl⟩ | rfl
      · have hr := rng_mem.mp hd
        have := firstDot_hi (f := f) (w := w) (v := (gridOf f).1 + 1) d (by omega) (by omega)
        omega
      · exact kl
    · refine List.Pairwise.imp_of_mem ?_ rng_pw
      intro x y hx hy hxy
      have hx := rng_mem.mp hx
      have hy := rng_mem.mp hy
      have k := mid_ge hf hg hw hl h (j := x - firstDot f w ((gridOf f).1 + 1)) (k := y - firstDot f w ((gridOf f).1 + 1)) (by omega) (by omega) (by omega)
      rw [value_i hf hg hw, value_i hf hg hw]
      refine (valI_lt hf).mpr ?_
      rw [show firstDot f w ((gridOf f).1 + 1) + (x - firstDot f w ((gridOf f).1 + 1)) = x by omega, show firstDot f w ((gridOf f).1 + 1) + (y - firstDot f w ((gridOf f).1 + 1)) = y by omega] at k
      omega
    · rw [List.mem_singleton.mp hy]
      obtain ⟨d, hd, rfl⟩ := List.mem_map.mp hx
      have hr := rng_mem.mp hd
      exact firstDot_lo hf hw d (by omega) (by omega)
theorem shownL_mem {z : Int} : z ∈ shownL f w ↔ ∃ d : Int, 0 ≤ d ∧ d < w ∧ valueAt f w d = z := by
  unfold shownL
  have h0 := lastI_ge hf hg
  cases hn : nearB f w with
  | true =>
    rw [if_pos rfl, List.mem_map]
    constructor
    · rintro ⟨i, hi, rfl⟩
      have hr := rng_mem.mp hi
      rw [every_eq] at hr
      obtain ⟨d, d0, d1, e⟩ := near_all hf hg hw (near_or hn) (i := i) (by omega) (by omega)
      exact ⟨d, d0, d1, by rw [value_i hf hg hw, e]⟩
    · rintro ⟨d, d0, d1, rfl⟩
      have k := idx_in (w := w) (d := d) h0
      exact ⟨idx f w d, rng_mem.mpr (by rw [every_eq]; omega), (value_i hf hg hw).symm⟩
  | false =>
    obtain ⟨hl, h⟩ := far_and hf hg hn
    have a := dotA_1 hf hg hw
    have b := dotB_w hf hg hw
    have ab := dotAB hf hg hw hl
    rw [if_neg Bool.false_ne_true, List.mem_cons, List.mem_append, List.mem_map, List.mem_singleton]
    constructor
    · rintro (rfl | ⟨d, hd, rfl⟩ | rfl)
      · exact ⟨0, by omega, by omega, by rw [value_i hf hg hw, idx_0 hf hg hw, valI_0]⟩
      · have hr := rng_mem.mp hd
        exact ⟨d, by omega, by omega, rfl⟩
      · exact ⟨w - 1, by omega, by omega, by rw [value_i hf hg hw, idx_w hf hg hw, valI_last hf]⟩
    · rintro ⟨d, d0, d1, rfl⟩
      have k := idx_in (w := w) (d := d) h0
      by_cases z1 : firstDot f w ((gridOf f).1 + 1) ≤ d
      · by_cases z2 : firstDot f w (gridOf f).2 ≤ d
        · refine .inr (.inr ?_)
          have := (dotB hf hg hw d0 d1).mp z2
          rw [value_i hf hg hw, show idx f w d = lastI f by omega, valI_last hf]
        · exact .inr (.inl ⟨d, rng_mem.mpr (by omega), rfl⟩)
      · refine .inl ?_
        have : ¬ 1 ≤ idx f w d := fun z => z1 ((dotA hf hg hw d0 d1).mpr z)
        rw [value_i hf hg hw, show idx f w d = 0 by omega, valI_0]
/-- the values of all dots, sorted -/
theorem sort_values : sortU ((rng 0 w.toNat).map fun d => valueAt f w d) = shownL f w := by
  refine pw_eq sortU_pw (shownL_pw hf hg hw) fun z => ?_
  rw [sortU_mem, List.mem_map, shownL_mem hf hg hw]
  constructor
  · rintro ⟨d, hd, rfl⟩
    have := rng_mem.mp hd
    exact ⟨d, by omega, by omega, rfl⟩
  · rintro ⟨d, d0, d1, rfl⟩
    exact ⟨d, rng_mem.mpr (by omega), rfl⟩
theorem count_le : 1 ≤ countOf f w ∧ countOf f w ≤ everyOf f := by
  have h0 := lastI_ge hf hg
  cases hn : nearB f w with
  | true =>
    rw [count_near hn, every_eq]
    omega
  | false =>
    obtain ⟨hl, h⟩ := far_and hf hg hn
    have ab := dotAB hf hg hw hl
    rw [count_far hn, every_eq]
    by_cases z : firstDot f w ((gridOf f).1 + 1) < firstDot f w (gridOf f).2
    · have k := mid_ge hf hg hw hl h (j := 0) (k := firstDot f w (gridOf f).2 - firstDot f w ((gridOf f).1 + 1) - 1) (by omega) (by omega) (by omega)
      omega
    · omega
theorem count_w : countOf f w ≤ w := by
  rw [← shownL_len hf hg hw, ← sort_values hf hg hw]
  have := sortU_len (xs := (rng 0 w.toNat).map fun d => valueAt f w d)
  rw [List.length_map, rng_len] at this
  omega
end
/-- the steps of a field -/
def stepsL (f : Fld) : List Int := (rng 0 (everyOf f).toNat).map (valI f)
theorem steps_pw {f : Fld} (hf : FL f) : (stepsL f).Pairwise (· < ·) := by
  unfold stepsL
  rw [List.pairwise_map]
  exact rng_pw.imp fun h => (valI_lt hf).mpr h
theorem steps_len {f : Fld} : (stepsL f).length = (everyOf f).toNat := by
  unfold stepsL
  rw [List.length_map, rng_len]
theorem pw_sub : ∀ {a b : List Int}, a.Pairwise (· < ·) → b.Pairwise (· < ·) → (∀ z ∈ a, z ∈ b) → a.length ≤ b.length ∧ (a.length = b.length → a = b) := by
  intro a b ha hb h
  have hs : a.Sublist b := by
    induction b generalizing a with
    | nil =>
      cases a with
      | nil => exact .slnil
      | cons x r => exact nomatch h x (List.mem_cons_self ..)
    | cons y t ih =>
      cases a with
      | nil => exact List.nil_sublist _
      | cons x r =>
        rw [List.pairwise_cons] at ha hb
        by_cases e : x = y
        · subst e
          refine .cons₂ _ (ih ha.2 hb.2 fun z hz => ?_)
          rcases List.mem_cons.mp (h z (List.mem_cons_of_mem _ hz)) with k | k
          · have := ha.1 z hz
            omega
          · exact k
        · refine .cons _ (ih (List.pairwise_cons.mpr ha) hb.2 fun z hz => ?_)
          rcases List.mem_cons.mp (h z hz) with k | k
          · rcases List.mem_cons.mp hz with k2 | k2
            · exact absurd (k2.symm.trans k) e
            · have h1 := ha.1 z k2
              rcases List.mem_cons.mp (h x (List.mem_cons_self ..)) with k3 | k3
              · exact absurd k3 e
              · have := hb.1 x k3
                omega
          · exact k
  exact ⟨hs.length_le, fun e => hs.eq_of_length e⟩
section
variable {f : Fld} {w : Int} (hf : FL f) (hg : (gridOf f).1 ≤ (gridOf f).2) (hw : 2 ≤ w)
include hf hg hw
/-- the sorted values are the steps, if as many are shown as there are -/
theorem sort_steps : sortU ((rng 0 w.toNat).map fun d => valueAt f w d) = stepsL f ↔ countOf f w = everyOf f := by
  have h0 := lastI_ge hf hg
  rw [sort_values hf hg hw]
  have k := pw_sub (shownL_pw hf hg hw) (steps_pw hf) fun z hz => by
    obtain ⟨d, d0, d1, rfl⟩ := (shownL_mem hf hg hw).mp hz
    have k := idx_in (w := w) (d := d) h0
    exact List.mem_map.mpr ⟨idx f w d, rng_mem.mpr (by rw [every_eq]; omega), (value_i hf hg hw).symm⟩
  have e1 := shownL_len hf hg hw
  rw [steps_len] at k
  constructor
  · intro e
    have := congrArg List.length e
    rw [steps_len] at this
    rw [every_eq] at this ⊢
    omega
  · intro e
    refine k.2 ?_
    rw [every_eq] at e ⊢
    omega
end
/-! ### the first value that is missed -/
def midN (f : Fld) (w : Int) : Int := firstDot f w (gridOf f).2 - firstDot f w ((gridOf f).1 + 1)
def missP (f : Fld) (w : Int) (j : Nat) : Bool := decide ((j : Int) < midN f w) && decide (valueAt f w (firstDot f w ((gridOf f).1 + 1) + j) ≤ (gridOf f).1 + ((j : Int) + 1) * f.step)
def missI (f : Fld) (w : Int) : Nat := lastT (missP f w) (midN f w).toNat
def missOf (f : Fld) (w : Int) : Option Int := if countOf f w = everyOf f then none else some ((gridOf f).1 + ((missI f w : Int) + 1) * f.step)
section
variable {f : Fld} {w : Int} (hf : FL f) (hg : (gridOf f).1 ≤ (gridOf f).2) (hw : 2 ≤ w)
include hf hg hw
theorem missP_iff (hn : nearB f w = false) {j : Int} (h0 : 0 ≤ j) (h1 : j < midN f w) : valueAt f w (firstDot f w ((gridOf f).1 + 1) + j) ≤ (gridOf f).1 + (j + 1) * f.step ↔ idx f w (firstDot f w ((gridOf f).1 + 1) + j) = j + 1 := by
  obtain ⟨hl, h⟩ := far_and hf hg hn
  have k := mid_ge hf hg hw hl h (j := j) (k := j) h0 (Int.le_refl _) h1
  have e := valI_lt (i := j + 1) (j := idx f w (firstDot f w ((gridOf f).1 + 1) + j)) hf
  rw [value_i hf hg hw]
  have e2 : valI f (j + 1) = (gridOf f).1 + (j + 1) * f.step := rfl
  rw [← e2]
  omega
theorem missP_mono (hn : nearB f w = false) (i : Nat) (h : missP f w (i + 1) = true) : missP f w i = true := by
  obtain ⟨hl, hfar⟩ := far_and hf hg hn
  unfold missP at h ⊢
  rw [Bool.and_eq_true, decide_eq_true_eq, decide_eq_true_eq] at h ⊢
  obtain ⟨h1, h2⟩ := h
  rw [missP_iff hf hg hw hn (by omega) (by omega)] at h2 ⊢
  have k := mid_ge hf hg hw hl hfar (j := (i : Int)) (k := ((i + 1 : Nat) : Int)) (by omega) (by omega) h1
  refine ⟨by omega, ?_⟩
  omega
/-- where the halving ends -/
theorem miss_eq (hn : nearB f w = false) {lo : Int} (h0 : 0 ≤ lo) (h1 : lo ≤ midN f w) (hlo : ∀ j, 0 ≤ j → j < lo → valueAt f w (firstDot f w ((gridOf f).1 + 1) + j) ≤ (gridOf f).1 + (j + 1) * f.step)
    (hhi : ∀ j, lo ≤ j → j < midN f w → (gridOf f).1 + (j + 1) * f.step < valueAt f w (firstDot f w ((gridOf f).1 + 1) + j)) : (missI f w : Int) = lo := by
  have a := lastT_le (p := missP f w) (midN f w).toNat
  have b : (missI f w : Int) ≤ midN f w := by
    unfold missI
    omega
  by_cases z : (missI f w : Int) < lo
  · have k := lastT_hi (p := missP f w) (midN f w).toNat (missI f w) (Nat.le_refl _) (by omega)
    have k2 := hlo (missI f w) (by omega) z
    unfold missP at k
    rw [decide_eq_true (by omega), Bool.true_and, decide_eq_false_iff_not] at k
    exact absurd k2 k
  · by_cases z2 : lo < (missI f w : Int)
    · have k := lastT_lo (missP_mono hf hg hw hn) (midN f w).toNat lo.toNat (by show lo.toNat < missI f w; omega)
      unfold missP at k
      rw [Bool.and_eq_true, decide_eq_true_eq, decide_eq_true_eq, show ((lo.toNat : Nat) : Int) = lo by omega] at k
      have := hhi lo (Int.le_refl _) k.1
      omega
    · omega
/-- nothing is missed ahead of it, it is missed itself, and it lies between the ends -/
theorem miss_at (hc : countOf f w ≠ everyOf f) : ((missI f w : Int) + 1 < lastI f) ∧ (∀ d : Int, 0 ≤ d → d < w → idx f w d ≠ (missI f w : Int) + 1) ∧ (∀ i : Int, 0 ≤ i → i ≤ missI f w → ∃ d : Int, 0 ≤ d ∧ d < w ∧ idx f w d = i) := by
  have hn : nearB f w = false := by
    cases hn : nearB f w with
    | true => exact absurd (count_near hn) hc
    | false => rfl
  obtain ⟨hl, hfar⟩ := far_and hf hg hn
  have a := dotA_1 hf hg hw
  have b := dotB_w hf hg hw
  have ab := dotAB hf hg hw hl
  have cl := count_le hf hg hw
  have cm := count_far hn
  rw [every_eq] at hc cl
  have e1 : midN f w = firstDot f w (gridOf f).2 - firstDot f w ((gridOf f).1 + 1) := rfl
  have lt := lastT_le (p := missP f w) (midN f w).toNat
  have le : (missI f w : Int) ≤ midN f w := by
    unfold missI
    omega
  have hlo : ∀ j : Int, 0 ≤ j → j < missI f w → idx f w (firstDot f w ((gridOf f).1 + 1) + j) = j + 1 := fun j h0 h1 => by
    have k := lastT_lo (missP_mono hf hg hw hn) (midN f w).toNat j.toNat (by show j.toNat < missI f w; omega)
    unfold missP at k
    rw [Bool.and_eq_true, decide_eq_true_eq, decide_eq_true_eq, show ((j.toNat : Nat) : Int) = j by omega, missP_iff hf hg hw hn h0 (by omega)] at k
    exact k.2
  have hhi : (missI f w : Int) < midN f w → (missI f w : Int) + 2 ≤ idx f w (firstDot f w ((gridOf f).1 + 1) + missI f w) := fun h1 => by
    have k := lastT_hi (p := missP f w) (midN f w).toNat (missI f w) (Nat.le_refl _) (by omega)
    unfold missP at k
    rw [decide_eq_true h1, Bool.true_and, decide_eq_false_iff_not, missP_iff hf hg hw hn (by omega) h1] at k
    have k2 := mid_ge hf hg hw hl hfar (j := (missI f w : Int)) (k := (missI f w : Int)) (by omega) (Int.le_refl _) h1
    omega
  have h3 : (missI f w : Int) + 1 < lastI f := by
    by_cases z : (missI f w : Int) < midN f w
    · have k := hhi z
      have k2 := mid_ge hf hg hw hl hfar (j := (missI f w : Int)) (k := (missI f w : Int)) (by omega) (Int.le_refl _) z
      omega
    · omega
  refine ⟨h3, fun d d0 d1 e => ?_, fun i i0 i1 => ?_⟩
  · by_cases z1 : firstDot f w ((gridOf f).1 + 1) ≤ d
    · by_cases z2 : firstDot f w (gridOf f).2 ≤ d
      · have := (dotB hf hg hw d0 d1).mp z2
        omega
      · by_cases z3 : d - firstDot f w ((gridOf f).1 + 1) < missI f w
        · have k := hlo (d - firstDot f w ((gridOf f).1 + 1)) (by omega) z3
          rw [show firstDot f w ((gridOf f).1 + 1) + (d - firstDot f w ((gridOf f).1 + 1)) = d by omega] at k
          omega
        · have k := hhi (by omega)
          have := idx_mono (d := firstDot f w ((gridOf f).1 + 1) + missI f w) (d' := d) hf hw (by omega)
          omega
    · have h9 : ¬ 1 ≤ idx f w d := fun z => z1 ((dotA hf hg hw d0 d1).mpr z)
      omega
  · by_cases z : i = 0
    · exact ⟨0, by omega, by omega, by rw [idx_0 hf hg hw]; omega⟩
    · have k := hlo (i - 1) (by omega) (by omega)
      exact ⟨firstDot f w ((gridOf f).1 + 1) + (i - 1), by omega, by omega, by omega⟩
/-- the steps that no dot shows -/
theorem missed_first : missOf f w = ((stepsL f).filter fun v => !decide (v ∈ (rng 0 w.toNat).map fun d => valueAt f w d)).head? := by
  have h0 := lastI_ge hf hg
  have hin : ∀ i : Int, (valI f i ∈ (rng 0 w.toNat).map fun d => valueAt f w d) ↔ ∃ d : Int, 0 ≤ d ∧ d < w ∧ idx f w d = i := fun i => by
    rw [List.mem_map]
    constructor
    · rintro ⟨d, hd, e⟩
      have := rng_mem.mp hd
      rw [value_i hf hg hw] at e
      exact ⟨d, by omega, by omega, (valI_inj hf).mp e⟩
    · rintro ⟨d, d0, d1, e⟩
      exact ⟨d, rng_mem.mpr (by omega), by rw [value_i hf hg hw, e]⟩
  unfold missOf
  by_cases hc : countOf f w = everyOf f
  · rw [if_pos hc]
    symm
    rw [List.head?_eq_none_iff, List.filter_eq_nil_iff]
    intro v hv
    obtain ⟨i, hi, rfl⟩ := List.mem_map.mp hv
    have hr := rng_mem.mp hi
    rw [every_eq] at hr
    have := (hin i).mpr (all_shown hf hg hw hc (by omega) (by omega))
    rw [decide_eq_true this]
    decide
  · rw [if_neg hc]
    obtain ⟨m1, m2, m3⟩ := miss_at hf hg hw hc
    have e : (everyOf f).toNat = (missI f w + 1) + (1 + ((lastI f).toNat - missI f w - 1)) := by
      rw [every_eq]
      omega
    unfold stepsL
    rw [e, rng_add (m := missI f w + 1), rng_add (m := 1), List.map_append, List.map_append, List.filter_append, List.filter_append]
    have f1 : (((rng 0 (missI f w + 1)).map (valI f)).filter fun v => !decide (v ∈ (rng 0 w.toNat).map fun d => valueAt f w d)) = [] := by
      rw [List.filter_eq_nil_iff]
      intro v hv
      obtain ⟨i, hi, rfl⟩ := List.mem_map.mp hv
      have hr := rng_mem.mp hi
      have := (hin i).mpr (m3 i (by omega) (by omega))
      rw [decide_eq_true this]
      decide
    have f2 : (((rng (0 + ((missI f w + 1 : Nat) : Int)) 1).map (valI f)).filter fun v => !decide (v ∈ (rng 0 w.toNat).map fun d => valueAt f w d)) = [valI f ((missI f w : Int) + 1)] := by
      have e2 : (rng (0 + ((missI f w + 1 : Nat) : Int)) 1).map (valI f) = [valI f ((missI f w : Int) + 1)] := by
        show [valI f (0 + ((missI f w + 1 : Nat) : Int) + ((0 : Nat) : Int))] = _
        rw [show (0 + ((missI f w + 1 : Nat) : Int) + ((0 : Nat) : Int)) = (missI f w : Int) + 1 by omega]
      have : ¬ (valI f ((missI f w : Int) + 1) ∈ (rng 0 w.toNat).map fun d => valueAt f w d) := fun z => by
        obtain ⟨d, d0, d1, ed⟩ := (hin _).mp z
        exact m2 d d0 d1 ed
      rw [e2, List.filter_cons, if_pos (by rw [decide_eq_false this]; rfl), List.filter_nil]
    rw [f1, f2]
    rfl
end
theorem far_of {f : Fld} {w : Int} (hc : countOf f w ≠ everyOf f) : nearB f w = false := by
  cases hn : nearB f w with
  | true => exact absurd (count_near hn) hc
  | false => rfl
section
variable {f : Fld} {w : Int} (hf : FL f) (hg : (gridOf f).1 ≤ (gridOf f).2) (hw : 2 ≤ w)
include hf hg hw
theorem midN_0 (hn : nearB f w = false) : 0 ≤ midN f w ∧ midN f w ≤ w := by
  obtain ⟨hl, h⟩ := far_and hf hg hn
  have ab := dotAB hf hg hw hl
  have a := dotA_1 hf hg hw
  have b := dotB_w hf hg hw
  unfold midN
  omega
theorem miss_dn (hn : nearB f w = false) {j m : Int} (h0 : 0 ≤ j) (hjm : j ≤ m) (h1 : m < midN f w) (h : valueAt f w (firstDot f w ((gridOf f).1 + 1) + m) ≤ (gridOf f).1 + (m + 1) * f.step) : valueAt f w (firstDot f w ((gridOf f).1 + 1) + j) ≤ (gridOf f).1 + (j + 1) * f.step := by
  obtain ⟨hl, hfar⟩ := far_and hf hg hn
  rw [missP_iff hf hg hw hn (by omega) (by omega)] at h ⊢
  have k := mid_ge hf hg hw hl hfar h0 hjm h1
  omega
theorem miss_up (hn : nearB f w = false) {j m : Int} (h0 : 0 ≤ m) (hjm : m ≤ j) (h1 : j < midN f w) (h : (gridOf f).1 + (m + 1) * f.step < valueAt f w (firstDot f w ((gridOf f).1 + 1) + m)) : (gridOf f).1 + (j + 1) * f.step < valueAt f w (firstDot f w ((gridOf f).1 + 1) + j) := by
  refine Int.not_le.mp fun z => ?_
  have := miss_dn hf hg hw hn h0 hjm h1 z
  omega
end
theorem steps_rgC {f : Fld} (hf : FL f) (hg : (gridOf f).1 ≤ (gridOf f).2) : rgC (gridOf f).1 f.step (if (gridOf f).1 < f.high + 1 then ((f.high + 1 - (gridOf f).1 - 1) / f.step + 1).toNat else 0) = stepsL f := by
  have k := grid_in hf
  have s0 : 1 ≤ f.step := hf.2.2.2.1
  have e : (f.high + 1 - (gridOf f).1 - 1) / f.step = lastI f := by
    have e1 : f.high + 1 - (gridOf f).1 - 1 = (f.high - f.base) + (f.base - f.low) / f.step * f.step := by
      show f.high + 1 - (f.base - (f.base - f.low) / f.step * f.step) - 1 = _
      omega
    have e2 : (gridOf f).2 - (gridOf f).1 = ((f.high - f.base) / f.step + (f.base - f.low) / f.step) * f.step := by
      show f.base + (f.high - f.base) / f.step * f.step - (f.base - (f.base - f.low) / f.step * f.step) = _
      rw [Int.add_mul]
      omega
    unfold lastI
    rw [e1, e2, Int.add_mul_ediv_right _ _ (by omega), Int.mul_ediv_cancel _ (by omega)]
  rw [if_pos (by omega), e]
  unfold rgC stepsL rng
  rw [List.map_map]
  refine List.map_congr_left fun i _ => ?_
  show (gridOf f).1 + (i : Int) * f.step = (gridOf f).1 + (0 + (i : Int)) * f.step
  rw [Int.zero_add]
section
variable {f : Fld} {w v : Int} (hf : FL f) (hw : 2 ≤ w)
include hf hw
theorem dots_yes (h : ∃ d : Int, 0 ≤ d ∧ d < w ∧ valueAt f w d = v) : (dotsFor f w v).isNone = false := by
  obtain ⟨d, d0, d1, rfl⟩ := h
  rw [(shown_dots hf hw d0 d1).1]
  rfl
theorem dots_no (h : ∀ d : Int, 0 ≤ d → d < w → valueAt f w d ≠ v) : dotsFor f w v = none := by
  unfold dotsFor
  split
  · rw [range_if hf hw, if_neg]
    intro k
    have a := firstDot_le (f := f) (w := w) (v := v) (by omega)
    have b := firstDot_le (f := f) (w := w) (v := v + 1) (by omega)
    exact h _ a.1 (by omega) ((dot_iff (v := v) hf hw a.1 (by omega)).mpr ⟨Int.le_refl _, k⟩)
  · rfl
end
theorem head_getD {l : List Int} : l.head? = if (!decide (l = [])) = true then some (l.getD 0 0) else none := by
  cases l with
  | nil => rfl
  | cons a r => rfl
section
variable {f : Fld} {w : Int} (hf : FL f) (hg : (gridOf f).1 ≤ (gridOf f).2) (hw : 2 ≤ w)
include hf hg hw
theorem k13_miss {vs ms : List Int} (hv : vs = (rng 0 w.toNat).map fun d => valueAt f w d) (hm : ms = ((stepsL f).filter fun v => !decide (v ∈ vs)).map fun v => v) : missOf f w = if (!decide (ms = [])) = true then some (ms.getD 0 0) else none := by
  rw [missed_first hf hg hw, ← head_getD, hm, List.map_id', hv]
theorem k13_none : (missOf f w).isNone = decide (countOf f w = everyOf f) := by
  unfold missOf
  split
  · next h =>
    rw [decide_eq_true h]
    rfl
  · next h =>
    rw [decide_eq_false h]
    rfl
theorem k13_some {v : Int} (h : missOf f w = some v) : dotsFor f w v = none ∧ (gridOf f).1 < v ∧ v < (gridOf f).2 ∧ v = valI f ((missI f w : Int) + 1) ∧ ∀ i : Int, 0 ≤ i → i ≤ missI f w → ∃ d : Int, 0 ≤ d ∧ d < w ∧ idx f w d = i := by
  have hc : countOf f w ≠ everyOf f := by
    intro z
    unfold missOf at h
    rw [if_pos z] at h
    cases h
  unfold missOf at h
  rw [if_neg hc] at h
  have e : v = valI f ((missI f w : Int) + 1) := (Option.some.inj h).symm
  obtain ⟨m1, m2, m3⟩ := miss_at hf hg hw hc
  have k1 := (valI_lt (i := 0) (j := (missI f w : Int) + 1) hf).mpr (by omega)
  have k2 := (valI_lt (i := (missI f w : Int) + 1) (j := lastI f) hf).mpr m1
  rw [valI_0] at k1
  rw [valI_last hf] at k2
  refine ⟨dots_no hf hw fun d d0 d1 ed => ?_, by omega, by omega, e, m3⟩
  rw [value_i hf hg hw, e] at ed
  exact m2 d d0 d1 ((valI_inj hf).mp ed)
/-- steps ahead of the first that is missed are shown -/
theorem k13_ahead {v x a : Int} (h : missOf f w = some v) (hx : 0 ≤ x ∧ x < (v - (gridOf f).1) / f.step) (ha : a = (gridOf f).1 + x * f.step) : (dotsFor f w a).isNone = false := by
  obtain ⟨_, _, _, e, m3⟩ := k13_some hf hg hw h
  have s0 : 1 ≤ f.step := hf.2.2.2.1
  have e2 : (v - (gridOf f).1) / f.step = (missI f w : Int) + 1 := by
    rw [e, show valI f ((missI f w : Int) + 1) - (gridOf f).1 = ((missI f w : Int) + 1) * f.step by unfold valI; omega]
    exact Int.mul_ediv_cancel _ (by omega)
  obtain ⟨d, d0, d1, ed⟩ := m3 x hx.1 (by omega)
  exact dots_yes hf hw ⟨d, d0, d1, by rw [value_i hf hg hw, ed, ha]; rfl⟩
theorem k13_all {x : Int} (h : (missOf f w).isNone = true) (hx : 0 ≤ x ∧ x < everyOf f) : (dotsFor f w ((gridOf f).1 + x * f.step)).isNone = false := by
  rw [k13_none hf hg hw, decide_eq_true_eq] at h
  rw [every_eq] at hx
  obtain ⟨d, d0, d1, ed⟩ := all_shown hf hg hw h hx.1 (by omega)
  exact dots_yes hf hw ⟨d, d0, d1, by rw [value_i hf hg hw, ed]; rfl⟩
end
/-- a value on a step is inside -/
theorem k13_in {f : Fld} {x : Int} (hf : FL f) (hx : 0 ≤ x ∧ x < everyOf f) : f.low ≤ (gridOf f).1 + x * f.step ∧ (gridOf f).1 + x * f.step ≤ f.high := by
  have s0 : 1 ≤ f.step := hf.2.2.2.1
  have k := grid_in hf
  rw [every_eq] at hx
  have k1 := Int.mul_nonneg hx.1 (show 0 ≤ f.step by omega)
  have k2 := Int.mul_le_mul_of_nonneg_right (show x ≤ lastI f by omega) (show 0 ≤ f.step by omega)
  have k3 := grid_mul hf
  omega
/-! ### how many are met -/
theorem nd_le : ∀ {a b : List Int}, a.Nodup → (∀ z ∈ a, z ∈ b) → a.length ≤ b.length
  | [], _, _, _ => Nat.zero_le _
  | x :: r, b, h, hs => by
    rw [List.nodup_cons] at h
    have hx := hs x (List.mem_cons_self ..)
    have k := nd_le (a := r) (b := b.erase x) h.2 fun z hz => (List.mem_erase_of_ne (fun e : z = x => h.1 (by rw [← e]; exact hz))).mpr (hs z (List.mem_cons_of_mem _ hz))
    have e := List.length_erase_of_mem hx
    have := List.length_pos_of_mem hx
    rw [List.length_cons]
    omega
theorem met_fold : ∀ (l acc : List Int), acc.Nodup → (l.foldl PyProof.Rows.step_dedup acc).Nodup ∧ ∀ z, z ∈ l.foldl PyProof.Rows.step_dedup acc ↔ z ∈ acc ∨ z ∈ l
  | [], acc, h => ⟨h, fun z => by simp⟩
  | x :: r, acc, h => by
    rw [List.foldl_cons]
    have e : PyProof.Rows.step_dedup acc x = acc ∧ x ∈ acc ∨ PyProof.Rows.step_dedup acc x = acc ++ [x] ∧ x ∉ acc := by
      unfold PyProof.Rows.step_dedup
      by_cases k : x ∈ acc
      · refine .inl ⟨?_, k⟩
        rw [if_pos]
        exact List.any_eq_true.mpr ⟨x, k, by simp⟩
      · refine .inr ⟨?_, k⟩
        rw [if_neg]
        intro z
        obtain ⟨y, hy, e⟩ := List.any_eq_true.mp z
        rw [beq_iff_eq] at e
        exact k (e ▸ hy)
    rcases e with ⟨e, k⟩ | ⟨e, k⟩
    · rw [e]
      obtain ⟨k1, k2⟩ := met_fold r acc h
      refine ⟨k1, fun z => (k2 z).trans ?_⟩
      rw [List.mem_cons]
      constructor
      · rintro (z | z)
        · exact .inl z
        · exact .inr (.inr z)
      · rintro (z | z | z)
        · exact .inl z
        · exact .inl (z ▸ k)
        · exact .inr z
    · rw [e]
      obtain ⟨k1, k2⟩ := met_fold r (acc ++ [x]) (by
        rw [List.nodup_append]
        refine ⟨h, List.nodup_cons.mpr ⟨(fun z => nomatch z), List.nodup_nil⟩, fun a ha b hb => ?_⟩
        rw [List.mem_singleton.mp hb]
        exact fun z => k (z ▸ ha))
      refine ⟨k1, fun z => (k2 z).trans ?_⟩
      rw [List.mem_append, List.mem_singleton, List.mem_cons, or_assoc]
theorem dedup_fold (xs : List Int) : dedup xs = xs.foldl PyProof.Rows.step_dedup [] := by
  unfold dedup PyProof.Rows.firstMet
  congr 1
  refine List.ext_getElem ?_ fun i h1 h2 => ?_
  · rw [List.length_map, List.length_range]
  · rw [List.getElem_map, List.getElem_range, List.getD_eq_getElem?_getD, List.getElem?_eq_getElem h2]
    rfl
theorem dedup_len {xs : List Int} : (dedup xs).length = (sortU xs).length := by
  rw [dedup_fold]
  obtain ⟨k1, k2⟩ := met_fold xs [] List.nodup_nil
  have k3 : (sortU xs).Nodup := (sortU_pw (xs := xs)).imp fun h => Int.ne_of_lt h
  refine Nat.le_antisymm (nd_le k1 fun z hz => ?_) (nd_le k3 fun z hz => ?_)
  · rw [sortU_mem]
    exact ((k2 z).mp hz).resolve_left fun h => nomatch h
  · rw [sortU_mem] at hz
    exact (k2 z).mpr (.inr hz)
section
variable {f : Fld} {w : Int} (hf : FL f) (hg : (gridOf f).1 ≤ (gridOf f).2) (hw : 2 ≤ w)
include hf hg hw
theorem k13_count {vs : List Int} (hv : vs = (rng 0 w.toNat).map fun d => valueAt f w d) : countOf f w = ((dedup vs).length : Int) := by
  rw [dedup_len, hv, sort_values hf hg hw, shownL_len hf hg hw]
theorem k13_vin {v : Int} (h : missOf f w = some v) : f.low ≤ v ∧ v ≤ f.high := by
  obtain ⟨_, h1, h2, _, _⟩ := k13_some hf hg hw h
  have := grid_in hf
  omega
theorem k13_ahin {v x a : Int} (h : missOf f w = some v) (hx : 0 ≤ x ∧ x < (v - (gridOf f).1) / f.step) (ha : a = (gridOf f).1 + x * f.step) : f.low ≤ a ∧ a ≤ f.high := by
  obtain ⟨_, _, _, e, m3⟩ := k13_some hf hg hw h
  have s0 : 1 ≤ f.step := hf.2.2.2.1
  have e2 : (v - (gridOf f).1) / f.step = (missI f w : Int) + 1 := by
    rw [e, show valI f ((missI f w : Int) + 1) - (gridOf f).1 = ((missI f w : Int) + 1) * f.step by unfold valI; omega]
    exact Int.mul_ediv_cancel _ (by omega)
  obtain ⟨d, d0, d1, ed⟩ := m3 x hx.1 (by omega)
  have k := idx_in (w := w) (d := d) (lastI_ge hf hg)
  rw [ha]
  exact k13_in hf ⟨hx.1, by rw [every_eq]; omega⟩
end
theorem every_le {f : Fld} (hf : FL f) (hg : (gridOf f).1 ≤ (gridOf f).2) : 1 ≤ everyOf f ∧ everyOf f ≤ f.high - f.low + 1 := by
  have h0 := lastI_ge hf hg
  have k := grid_in hf
  have s0 : 1 ≤ f.step := hf.2.2.2.1
  have e := Int.ediv_le_self f.step (show 0 ≤ (gridOf f).2 - (gridOf f).1 by omega)
  have e2 : lastI f = ((gridOf f).2 - (gridOf f).1) / f.step := rfl
  rw [every_eq]
  omega
theorem steps_le {f : Fld} {n : Nat} (hf : FL f) (hg : (gridOf f).1 ≤ (gridOf f).2) (h : f.high - f.low + 1 ≤ n) : (stepsL f).length ≤ n := by
  have := every_le hf hg
  rw [steps_len]
  omega
theorem k13_q {f : Fld} {w v : Int} (hf : FL f) (hg : (gridOf f).1 ≤ (gridOf f).2) (hw : 2 ≤ w) (h : missOf f w = some v) : 1 ≤ (v - (gridOf f).1) / f.step ∧ (v - (gridOf f).1) / f.step ≤ 1000000000000000 := by
  have hc : countOf f w ≠ everyOf f := by
    intro z
    unfold missOf at h
    rw [if_pos z] at h
    cases h
  obtain ⟨m1, _, _⟩ := miss_at hf hg hw hc
  obtain ⟨_, _, _, e, _⟩ := k13_some hf hg hw h
  have hl := every_le hf hg
  rw [every_eq] at hl
  obtain ⟨l0, lh, h1, s0, s1, b0, b1⟩ := hf
  have e2 : (v - (gridOf f).1) / f.step = (missI f w : Int) + 1 := by
    rw [e, show valI f ((missI f w : Int) + 1) - (gridOf f).1 = ((missI f w : Int) + 1) * f.step by unfold valI; omega]
    exact Int.mul_ediv_cancel _ (by omega)
  omega
end Sf

namespace Sf
open PySem PySem.Spec PyProof.Rows L2 Evl

/-! ### own classes: what the machine calls by itself -/
section
variable {X : Cx} {CX : CXT} {k : Nat} {C f : Addr} {fd : FuncData} {ps : List Str} {sp : Sp} {E : XK}
theorem run_fnA {A : Around} {pins : List (Addr × Obj)} {σ : L2.St} {H : Hp} {s : Shared} {Q : VK} {us : List Value} {vs : List V} (fr : A.frames = X.A.frames) (F : FnOk X.prog X.w X.K X.mg X.base CX k f fd ps sp) (hr : Room k A) (hb : Binds X.K fd ps []) (hx : Passes CX X E)
    (I : Inv X pins σ H s) (r : Vals vs us) (h : sp vs H Q E) : wpAny (model X.prog X.w) A (call (.ref f) us) (EP X pins σ Q) X.xe s := by
  have e0 : Env0 X.prog X.w X.K X.mg X.base A X.stack s H := by
    have e := I.env0
    exact ⟨by rw [fr]; exact e.frames, e.mod, e.bs, e.bsz, e.funs, e.frf, e.hok, e.bare⟩
  have hl : us.length = ps.length := by rw [← r.length]; exact F.len _ _ _ _ h
  have hbd : BindsTo s fd ⟨us, []⟩ (ps.zip us) := by
    have := hb s us I.kIn (by simpa using hl)
    simpa using this
  refine wpAny_call (codeAny_mono (F.run A X.stack s H ⟨us, []⟩ us vs Q E hr e0 hbd r h) fun r s' hq => ?_)
  cases r with
  | error e => exact hx pins σ H s e s' I hq
  | ok fl =>
    cases fl with
    | ret u => exact I.after hq
    | next => exact False.elim hq
    | brk => exact False.elim hq
    | cont => exact False.elim hq
/-- len(x) by an own __len__ -/
def rLenO (C : Addr) (sp : Sp) (E : XK) : List V → Hp → VK → Prop := fun xs H Q => ∃ a dx fs, xs = [.ref a] ∧ H a = some (.ins C dx fs) ∧ sp [.ref a] H (fun v H' => ∃ n : Int, v = .int n ∧ 0 ≤ n ∧ n < 2 ^ 63 ∧ Q (.int n) H') E
theorem call_lenO (hs : PySem.W.findIn X.K (.ref C) "__len__" = some (some (.ref f))) (hf : PySem.W.isFn X.K (.ref f) = true) (F : FnOk X.prog X.w X.K X.mg X.base CX k f fd ps sp) (hr : Room (k + 1) X.A) (hb : Binds X.K fd ps []) (hx : Passes CX X E) : CallR X (.builtin "len") (rLenO C sp E) := by
  intro pins s σ H xs us Q I r h
  obtain ⟨a, dx, fs, rfl, ha, q⟩ := h
  obtain ⟨u, rfl, ru⟩ := vals1 r
  obtain rfl : u = Value.ref a := ru
  obtain ⟨mA, O, _⟩ := ins_get I.hok ha
  obtain ⟨od, J, _⟩ := O.look
  obtain ⟨m, hF⟩ := I.fr
  refine PySem.W.len_K hF I.ok.mod.kin J hs hf (wpAny_mono (run_fnA (us := [Value.ref a]) (vs := [V.ref a]) rfl F hr.in1 hb hx I (.cons rfl .nil) q) (fun v s' hv => ?_) fun _ _ z => z)
  obtain ⟨x, H', I', rv, n, rfl, h0, h1, q'⟩ := hv
  obtain ⟨t, rfl⟩ := rv
  exact ⟨⟨h0, h1⟩, ⟨.int n, H', I'.tok _, ⟨_, rfl⟩, q'⟩⟩
/-- y in x by an own __contains__ -/
def rInO (C : Addr) (sp : Sp) (E : XK) : R2 := fun x y H Q => ∃ a dx fs, y = .ref a ∧ H a = some (.ins C dx fs) ∧ sp [.ref a, x] H (fun v H' => ∃ b, v = .bl b ∧ Q (.bl b) H') E
theorem op_inO (hs : PySem.W.findIn X.K (.ref C) "__contains__" = some (some (.ref f))) (hf : PySem.W.isFn X.K (.ref f) = true) (F : FnOk X.prog X.w X.K X.mg X.base CX k f fd ps sp) (hr : Room k X.A) (hb : Binds X.K fd ps []) (hx : Passes CX X E) : OpR X (compareOp .In) (rInO C sp E) := by
  intro pins s σ H x y v u Q I rx ry h
  obtain ⟨a, dx, fs, rfl, ha, q⟩ := h
  obtain rfl : u = Value.ref a := ry
  obtain ⟨mA, O, _⟩ := ins_get I.hok ha
  obtain ⟨od, J, _⟩ := O.look
  obtain ⟨m, hF⟩ := I.fr
  refine PySem.W.in_K hF I.ok.mod.kin J hs hf (wpAny_mono (run_fnA (us := [Value.ref a, v]) (vs := [V.ref a, x]) rfl F hr hb hx I (.cons rfl (.cons rx .nil)) q) (fun r s' hv => ?_) fun _ _ z => z)
  obtain ⟨x', H', I', rv, b, rfl, q'⟩ := hv
  obtain rfl : r = Value.bool b := rv
  exact wpAny_truthy_bool ⟨.bl b, H', I', rfl, q'⟩
/-- x[y] by an own __getitem__ -/
def rIxO (C : Addr) (sp : Sp) (E : XK) : R2 := fun x y H Q => ∃ a dx fs, x = .ref a ∧ H a = some (.ins C dx fs) ∧ sp [.ref a, y] H Q E
theorem pe_ixO {a b : Expr} {ta tb : TE} {pos : Pos} (hs : PySem.W.findIn X.K (.ref C) "__getitem__" = some (some (.ref f))) (hf : PySem.W.isFn X.K (.ref f) = true) (hfn : PySem.W.fnIn X.K f = true) (F : FnOk X.prog X.w X.K X.mg X.base CX k f fd ps sp) (hr : Room (k + 1) X.A) (hb : Binds X.K fd ps []) (hx : Passes CX X E)
    (pa : PE X a ta) (pb : PE X b tb) (hsl : ∀ o i, subscripted b true o i = runValue (.builtin "lifetime.subscript" ⟨[o, i], []⟩) := by intros; rfl) : PE X (.Subscript a b pos) (tOp (rIxO C sp E) ta tb) := by
  refine ⟨fun pins s σ H Q I h => ?_⟩
  refine Subscript_ (binT pa pb I h fun v u s2 x y H2 I2 rx ry q => ?_)
  obtain ⟨p, dx, fs, rfl, ha, q⟩ := q
  obtain rfl : v = Value.ref p := rx
  obtain ⟨mA, O, _⟩ := ins_get I2.hok ha
  obtain ⟨od, J, _⟩ := O.look
  obtain ⟨m, hF⟩ := I2.fr
  exact PySem.W.sub_K hF I2.ok.mod.kin J hs hfn hf (run_fnA (us := [Value.ref p, u]) (vs := [V.ref p, y]) rfl F hr.in1 hb hx I2 (.cons rfl (.cons ry .nil)) q) (hsl _ _)
end
theorem fnIn_of {K : PySem.W.Frag} {x qual : Str} {params : Arguments} {body : List Stmt} {scope : Scope} {dvs : List V} {kws : List (Str × V)} {f : Addr} {fd : FuncData} (F : FunD K x qual params body scope dvs kws f fd) (hf : PySem.W.isFn K (.ref f) = true) : PySem.W.fnIn K f = true := by
  obtain ⟨oc, od, dV, kV, doc, pm, an, cdv, ct, osl, rfl, lk, _⟩ := F.ex
  unfold PySem.W.fnIn
  rw [lk]
/-! ### lists that change, wherever they hang -/
def tOpenA (t : TE) : TE := fun σ H Q => ∃ l ws, H l = some (MutO l ws) ∧ t σ (upd H l (.lst ws)) fun v H2 => ∃ ws', H2 l = some (.lst ws') ∧ Q v (upd H2 l (MutO l ws'))
theorem pe_openA {X : Cx} {e : Expr} {t : TE} (h : PE X e t) : PE X e (tOpenA t) := by
  refine ⟨fun pins s σ H Q I ⟨l, ws, hl, ht⟩ => ?_⟩
  refine thn (h.run pins s σ _ _ (inv_open I hl) ht) fun u s2 ⟨v, H2, I2, r, ws', h2, q⟩ => ?_
  exact ⟨v, _, inv_close I2 h2, r, q⟩
def tCloseA (t : TS) : TS := fun D σ H => ∃ l ws, H l = some (.lst ws) ∧ t D σ (upd H l (MutO l ws))
theorem pss_closeA {X : Cx} {st : List Stmt} {t : TS} (h : PSs X st t) : PSs X st (tCloseA t) := by
  refine ⟨fun pins s σ H D I ⟨l, ws, hl, ht⟩ => ?_⟩
  exact h.run pins s σ _ D (inv_close I hl) ht
section
variable {α β : Type} [Rep α] [Rep β] {K : PySem.W.Frag} {σ : L2.St} {H H' : Hp} {te ta tb : TE} {xs : List α}
/-- read while open, unchanged -/
theorem er_openA [ImmX β] {l : Addr} {ws : List V} {y : β} (hl : H l = some (MutO l ws)) (h : ER K te σ (upd H l (.lst ws)) y) : ER K (tOpenA te) σ H y := fun H1 e Q q =>
  ⟨l, ws, e _ _ hl, h _ (open_ex e) _ fun v H2 e2 r => ⟨ws, e2 _ _ upd_same, q v _ (open_back (e _ _ hl) e2) (ImmX.imm (e2 _ _ upd_same) r)⟩⟩
end
/-! ### instances -/
theorem ey_ins {H H' : Hp} {a C dx : Addr} {fs : List (Str × V)} (e : Ey H H') (h : H a = some (.ins C dx fs)) : H' a = some (.ins C dx fs) := by
  rcases e _ _ h with z | z
  · cases z
  · exact z
/-- an attribute that the instance has -/
theorem fld_of {K : PySem.W.Frag} {σ : L2.St} {H : Hp} {ta : TE} {C : Addr} {f : Str} {α β : Type} [Rep α] [Rep β] {x : α} {y : β} (c : Cls K C) (n : NoAttr K C f)
    (hx : ∀ H v, Rep.rel K H v x → ∃ a dx fs w, v = .ref a ∧ H a = some (.ins C dx fs) ∧ fs.lookup f = some w ∧ Rep.rel K H w y) (h : ER K ta σ H x) : ER K (tFld K ta f) σ H y := fun H1 e Q q => h H1 e _ fun v H2 e2 r => by
  obtain ⟨a, dx, fs, w, rfl, ha, hf, rw'⟩ := hx H2 v r
  exact ⟨a, C, dx, fs, w, rfl, ha, c, n, hf, q w H2 e2 rw'⟩
/-- a field as a value: an instance of the class at C with its parts -/
structure FVal (C : Addr) where
  f : Fld
instance {C : Addr} : Rep (FVal C) := ⟨fun K H v x => ∃ a dx p, v = .ref a ∧ H a = some (.ins C dx [("parts", .ref p)]) ∧ SqT K H p x.f.vs, fun e ⟨a, dx, p, h1, h2, h3⟩ => ⟨a, dx, p, h1, ey_ins e h2, ey_t e h3⟩⟩
instance {C : Addr} : ImmX (FVal C) := ⟨fun hl ⟨a, dx, p, h1, h2, h3⟩ => ⟨a, dx, p, h1, by rw [upd_ne (ne_of h2 hl (fun z => nomatch z))]; exact h2, sqT_immX hl h3⟩⟩
theorem er_parts {K : PySem.W.Frag} {σ : L2.St} {H : Hp} {ta : TE} {C : Addr} {x : FVal C} (c : Cls K C) (n : NoAttr K C "parts") (h : ER K ta σ H x) : ER K (tFld K ta "parts") σ H x.f :=
  fld_of c n (fun H v r => by obtain ⟨a, dx, p, h1, h2, h3⟩ := r; exact ⟨a, dx, _, .ref p, h1, h2, rfl, p, rfl, h3⟩) h
theorem er_inO {K : PySem.W.Frag} {σ : L2.St} {H : Hp} {ta tb : TE} {C : Addr} {E : XK} {β : Type} [Rep β] {x : FVal C} {y : β} {pre : FVal C → β → Prop} {g : FVal C → β → Bool} (ha : ER K ta σ H y) (hb : ER K tb σ H x) (hp : pre x y) : ER K (tOp (rInO C (sp2 (α := FVal C) (β := β) (δ := Bool) K pre g) E) ta tb) σ H (g x y) := fun H1 e Q q => ha H1 e _ fun v H2 e2 r => hb H2 (e.trans e2) _ fun w H3 e3 rw' => by
  obtain ⟨a, dx, p, rfl, h2, h3⟩ := id rw'
  exact ⟨a, dx, _, rfl, h2, .ref a, v, x, y, rfl, rw', Rep.mono e3 r, hp, fun u H' e' ru => ⟨g x y, ru, q _ H' ((e2.trans e3).trans e') rfl⟩⟩
theorem er_ixO {K : PySem.W.Frag} {σ : L2.St} {H : Hp} {ta tb : TE} {C : Addr} {E : XK} {β δ : Type} [Rep β] [Rep δ] {x : FVal C} {y : β} {pre : FVal C → β → Prop} {g : FVal C → β → δ} (ha : ER K ta σ H x) (hb : ER K tb σ H y) (hp : pre x y) : ER K (tOp (rIxO C (sp2 (α := FVal C) (β := β) (δ := δ) K pre g) E) ta tb) σ H (g x y) := fun H1 e Q q => ha H1 e _ fun v H2 e2 r => hb H2 (e.trans e2) _ fun w H3 e3 rw' => by
  obtain ⟨a, dx, p, rfl, h2, h3⟩ := id (Rep.mono e3 r)
  exact ⟨a, dx, _, rfl, h2, .ref a, w, x, y, rfl, Rep.mono e3 r, rw', hp, fun u H' e' ru => q u H' ((e2.trans e3).trans e') ru⟩
/-- a panel: its field, its tie, where its pairs stand -/
structure Pan (C : Addr) where
  f : Fld
  tie : Str
  t : Addr
instance {C : Addr} : Rep (Pan C) := ⟨fun K H v x => ∃ a dx p, v = .ref a ∧ H a = some (.ins C dx [("field", .ref p), ("tie", .str x.tie), ("turns", .ref x.t)]) ∧ SqT K H p x.f.vs, fun e ⟨a, dx, p, h1, h2, h3⟩ => ⟨a, dx, p, h1, ey_ins e h2, ey_t e h3⟩⟩
instance {C : Addr} : ImmX (Pan C) := ⟨fun hl ⟨a, dx, p, h1, h2, h3⟩ => ⟨a, dx, p, h1, by rw [upd_ne (ne_of h2 hl (fun z => nomatch z))]; exact h2, sqT_immX hl h3⟩⟩
theorem er_pfield {K : PySem.W.Frag} {σ : L2.St} {H : Hp} {ta : TE} {C : Addr} {x : Pan C} (c : Cls K C) (n : NoAttr K C "field") (h : ER K ta σ H x) : ER K (tFld K ta "field") σ H x.f :=
  fld_of c n (fun H v r => by obtain ⟨a, dx, p, h1, h2, h3⟩ := r; exact ⟨a, dx, _, .ref p, h1, h2, rfl, p, rfl, h3⟩) h
theorem er_ptie {K : PySem.W.Frag} {σ : L2.St} {H : Hp} {ta : TE} {C : Addr} {x : Pan C} (c : Cls K C) (n : NoAttr K C "tie") (h : ER K ta σ H x) : ER K (tFld K ta "tie") σ H x.tie :=
  fld_of c n (fun H v r => by obtain ⟨a, dx, p, h1, h2, h3⟩ := r; exact ⟨a, dx, _, .str x.tie, h1, h2, rfl, rfl⟩) h
/-- the pairs of a panel, as they stand -/
def PT {C : Addr} (K : PySem.W.Frag) (H : Hp) (p : Pan C) (ts : List (Int × Int)) : Prop := ∃ ws, H p.t = some (MutO p.t ws) ∧ rels K H ws ts
theorem PT.ex {C : Addr} {K : PySem.W.Frag} {H H' : Hp} {p : Pan C} {ts : List (Int × Int)} (h : PT K H p ts) (e : Ex H H') : PT K H' p ts := by
  obtain ⟨ws, h1, h2⟩ := h
  exact ⟨ws, e _ _ h1, rels_mono e h2⟩
/-- the list of its pairs, while it is open -/
theorem er_pturns {K : PySem.W.Frag} {σ : L2.St} {H : Hp} {ta : TE} {C : Addr} {x : Pan C} {ts : List (Int × Int)} (c : Cls K C) (n : NoAttr K C "turns") (hl : Rep.rel K H (.ref x.t) ts) (h : ER K ta σ H x) : ER K (tFld K ta "turns") σ H ts := fun H1 e Q q => h H1 e _ fun v H2 e2 ⟨a, dx, p, h1, h2, h3⟩ =>
  ⟨a, C, dx, _, .ref x.t, h1, h2, c, n, rfl, q (.ref x.t) H2 e2 (Rep.mono (e.trans e2) hl)⟩
end Sf

namespace Sf
open PySem PySem.Spec PyProof.Rows L2 Evl
/-! ### what a law's text tells of a class and its methods -/
structure ClsT (K : PySem.W.Frag) (mg : Str → Option Value) (x : Str) (at_ : List Str) : Prop where
  c : Cls K (He.ga K x)
  mkr : Mk K (He.ga K x) (He.ma K (He.ga K x) "__init__")
  no : ∀ f ∈ at_, NoAttr K (He.ga K x) f
  g : mg x = some (.ref (He.ga K x))
structure CalM (P : Program) (w : World) (K : PySem.W.Frag) (mg : Str → Option Value) (base : Heap) (CX : CXT) (k : Nat) (x m : Str) (ps : List Str) (sp : Sp) (fd : FuncData) : Prop where
  ok : FnOk P w K mg base CX k (He.ma K (He.ga K x) m) fd ps sp
  me : Meth K (He.ga K x) m (He.ma K (He.ga K x) m)
  bd : Binds K fd ps []
  fi : PySem.W.fnIn K (He.ma K (He.ga K x) m) = true
structure CalG (P : Program) (w : World) (K : PySem.W.Frag) (mg : Str → Option Value) (base : Heap) (k : Nat) (x m : Str) (ps : List Str) (sp : SpG) (fd : FuncData) : Prop where
  ok : GFn P w K mg base k (He.ma K (He.ga K x) m) fd ps sp
  me : Meth K (He.ga K x) m (He.ma K (He.ga K x) m)
  bd : Binds K fd ps []
abbrev FnM (K : PySem.W.Frag) (m q : Str) (dvs : List V) (st : Stmt) (f : Addr) (fd : FuncData) : Prop := FunD K m q (defArgs st) (defBody st) (defScope st) dvs [] f fd
theorem passG {X : Cx} : Passes (L2.CX X.prog X.w) X (fun _ _ _ => False) := fun _ _ _ _ _ _ _ h => by
  obtain ⟨_, _, _, _, _, _, _, _, _, _, _, _, z⟩ := h
  exact z.elim
/-! ### the promises of a field's and a panel's methods -/
def spInitF (K : PySem.W.Frag) (C : Addr) : Sp := fun vs H Q _ => ∃ (x dx : Addr) (f : Fld), vs = .ref x :: f.vs ∧ FOk f ∧ H x = some (.ins C dx []) ∧ ∀ p H', Eo x H H' → H' x = some (.ins C dx [("parts", .ref p)]) → SqT K H' p f.vs → Q .non H'
def spInitP (K : PySem.W.Frag) (C : Addr) : Sp := fun vs H Q _ => ∃ (x dx p : Addr) (f : Fld) (t : Str), vs = [.ref x, .ref p, .str t] ∧ SqT K H p f.vs ∧ FOk f ∧ isTie t ∧ H x = some (.ins C dx []) ∧
  ∀ l ws H', H l = none → Eo x H H' → H' x = some (.ins C dx [("field", .ref p), ("tie", .str t), ("turns", .ref l)]) → H' l = some (MutO l ws) → rels K H' ws [(f.low, f.high)] → Q .non H'
def rowTied (f : Fld) (t s : Str) (p : Int × Int) (cs : List Nat) : Int × Int := cs.foldl (fun q c => pressTied f t q s c) p
theorem rowTied_snoc {f : Fld} {t s : Str} {p : Int × Int} {cs : List Nat} {c : Nat} : rowTied f t s p (cs ++ [c]) = pressTied f t (rowTied f t s p cs) s c := by
  unfold rowTied
  rw [List.foldl_append]
  rfl
def lastP (ts : List (Int × Int)) : Int × Int := ts.getD (ts.length - 1) (0, 0)
def spPress (K : PySem.W.Frag) (C : Addr) : Sp := fun vs H Q _ => ∃ (v : V) (p : Pan C) (ts : List (Int × Int)) (side row : Str), vs = [v, .str side, .str row] ∧ Rep.rel K H v p ∧ PT K H p ts ∧ FOk p.f ∧ (side = "left" ∨ side = "right") ∧ rowOk row ∧ ts ≠ [] ∧ ts.length < 100000 ∧
  ∀ u H', Eo p.t H H' → PT K H' p (ts ++ [rowTied p.f p.tie side (lastP ts) row.cps.toList]) → Rep.rel K H' u (rowTied p.f p.tie side (lastP ts) row.cps.toList) → Q u H'
def spDrag (K : PySem.W.Frag) (C : Addr) : Sp := fun vs H Q _ => ∃ (v : V) (p : Pan C) (ts : List (Int × Int)) (side : Str) (w d : Int), vs = [v, .str side, .int w, .int d] ∧ Rep.rel K H v p ∧ PT K H p ts ∧ FOk p.f ∧ (side = "left" ∨ side = "right") ∧ WOk w ∧ (0 ≤ d ∧ d ≤ w - 1) ∧ ts ≠ [] ∧ ts.length < 100000 ∧
  ∀ u H', Eo p.t H H' → PT K H' p (ts ++ [settle p.tie (lastP ts) side (valueAt p.f w d)]) → Rep.rel K H' u (settle p.tie (lastP ts) side (valueAt p.f w d)) → Q u H'
def spUndo (K : PySem.W.Frag) (C : Addr) : Sp := fun vs H Q _ => ∃ (v : V) (p : Pan C) (ts : List (Int × Int)), vs = [v] ∧ Rep.rel K H v p ∧ PT K H p ts ∧ 2 ≤ ts.length ∧ ts.length ≤ 100000 ∧ ∀ H', Eo p.t H H' → PT K H' p ts.dropLast → Q .non H'
def spPair (K : PySem.W.Frag) (C : Addr) : Sp := fun vs H Q _ => ∃ (v : V) (p : Pan C) (ts : List (Int × Int)), vs = [v] ∧ Rep.rel K H v p ∧ PT K H p ts ∧ ts ≠ [] ∧ ∀ u H', Ex H H' → Rep.rel K H' u (lastP ts) → Q u H'
def startP (f : Fld) (l : Int) : Int := (gridOf f).1 + -(((gridOf f).1 - max (gridOf f).1 l) / f.step) * f.step
def panLen (f : Fld) (p : Int × Int) : Nat := if startP f p.1 < p.2 + 1 then ((p.2 + 1 - startP f p.1 - 1) / f.step + 1).toNat else 0
theorem panLen_le {f : Fld} {p : Int × Int} (hs : 1 ≤ f.step) (h : p.2 + 1 - startP f p.1 ≤ 100000 * f.step) : panLen f p ≤ 100000 := by
  unfold panLen
  split
  · next hlt =>
    have h1 : (p.2 + 1 - startP f p.1 - 1) / f.step < 100000 := Int.ediv_lt_of_lt_mul (by omega) (by omega)
    omega
  · omega
def spPLen (K : PySem.W.Frag) (C : Addr) : Sp := fun vs H Q _ => ∃ (v : V) (p : Pan C) (ts : List (Int × Int)), vs = [v] ∧ Rep.rel K H v p ∧ PT K H p ts ∧ ts ≠ [] ∧ FOk p.f ∧ (lastP ts).2 + 1 - startP p.f (lastP ts).1 ≤ 100000 * p.f.step ∧ p.f.step < 1073741824 ∧ (p.f.low ≤ (lastP ts).1 ∧ (lastP ts).1 ≤ p.f.high) ∧ (p.f.low ≤ (lastP ts).2 ∧ (lastP ts).2 ≤ p.f.high) ∧ ∀ H', Ex H H' → Q (.int (panLen p.f (lastP ts) : Int)) H'
def linesP (p : Int × Int) : List Str := [Txt.rjust (strI p.1) (max ((strI p.1).length : Int) ((strI p.2).length : Int)), Txt.rjust (strI p.2) (max ((strI p.1).length : Int) ((strI p.2).length : Int))]
def spLines (K : PySem.W.Frag) (C : Addr) : SpG := fun vs H cont _ => ∃ (v : V) (p : Pan C) (ts : List (Int × Int)), vs = [v] ∧ Rep.rel K H v p ∧ PT K H p ts ∧ ts ≠ [] ∧ (-1000000000000 ≤ (lastP ts).1 ∧ (lastP ts).1 ≤ 1000000000000) ∧ (-1000000000000 ≤ (lastP ts).2 ∧ (lastP ts).2 ≤ 1000000000000) ∧ ∀ H', Ex H H' → cont ((linesP (lastP ts)).map V.str) H'
theorem last_at {ts : List (Int × Int)} (h : ts ≠ []) : atI ts (-1) = some (lastP ts) := atI_last (List.length_pos_iff.mpr h)
theorem sqT_ins {K : PySem.W.Frag} {H : Hp} {a x C dx : Addr} {fs : List (Str × V)} {xs : List V} {o : HO} (hx : H x = some (.ins C dx fs)) (h : SqT K H a xs) : SqT K (upd H x o) a xs := by
  rcases h with (h | ⟨o, h⟩) | h
  · exact .inl (.inl (by rw [upd_ne (ne_of h hx (by intro z; cases z))]; exact h))
  · exact .inl (.inr ⟨o, by rw [upd_ne (ne_of h hx (by intro z; cases z))]; exact h⟩)
  · exact .inr h
theorem rels_insP {K : PySem.W.Frag} {H : Hp} {x C dx : Addr} {fs : List (Str × V)} {ws : List V} {ts : List (Int × Int)} {o : HO} (hx : H x = some (.ins C dx fs)) (h : rels K H ws ts) : rels K (upd H x o) ws ts :=
  Paired.mapP h fun v p r => by
    obtain ⟨a, v1, v2, h1, h2, h3, h4⟩ := r
    exact ⟨a, v1, v2, h1, sqT_ins hx h2, h3, h4⟩
theorem put2 {v w : V} : putF ("tie" : Str) w [(("field" : Str), v)] = [(("field" : Str), v), (("tie" : Str), w)] := by
  unfold putF
  rw [if_neg (by decide)]
  rfl
theorem put3 {v w u : V} : putF ("turns" : Str) u [(("field" : Str), v), (("tie" : Str), w)] = [(("field" : Str), v), (("tie" : Str), w), (("turns" : Str), u)] := by
  unfold putF
  rw [if_neg (by decide)]
  unfold putF
  rw [if_neg (by decide)]
  rfl
theorem upd_comm {H : Hp} {a b : Addr} {o u : HO} (h : a ≠ b) : upd (upd H a o) b u = upd (upd H b u) a o := by
  funext c
  unfold upd
  split <;> split <;> first | rfl | (rename_i h1 h2; exact absurd (h2.symm.trans h1) h)
/-! ### what changes a panel: S holds behind it -/
section
variable {α β γ : Type} [Rep α] [Rep β] [Rep γ] {K : PySem.W.Frag} {σ : L2.St} {H H' : Hp} {te ta tb tc td : TE} {tt tu : TT} {u t1 t2 : TS} {D : Ends} {S S1 S2 : Hp → Prop} {x : α} {y : β} {z : γ} {b : Bool} {C : Addr} {E : XK}
/-- all but what stands at a is kept; data keep -/
structure Yo (a : Addr) (H H' : Hp) : Prop where
  y : Ey H H'
  o : Eo a H H'
theorem Yo.trans {a : Addr} {H H1 H2 : Hp} (x : Yo a H H1) (z : Yo a H1 H2) : Yo a H H2 := ⟨x.y.trans z.y, x.o.trans z.o⟩
theorem yo_ex {a : Addr} {H H' : Hp} (e : Ex H H') : Yo a H H' := ⟨e.y, Eo.of e⟩
def EM (K : PySem.W.Frag) (a : Addr) (S : Hp → Prop) (te : TE) (σ : L2.St) (H : Hp) (x : α) : Prop := ∀ H1, Ex H H1 → ∀ Q : VK, (∀ v H2, Yo a H1 H2 → S H2 → Rep.rel K H2 v x → Q v H2) → te σ H1 Q
def EMT (a : Addr) (S : Hp → Prop) (tt : TT) (σ : L2.St) (H : Hp) (b : Bool) : Prop := ∀ H1, Ex H H1 → ∀ Q : Bool → Hp → Prop, (∀ H2, Yo a H1 H2 → S H2 → Q b H2) → tt σ H1 Q
variable {l : Addr}
theorem er_con {v : V} (r : Rep.rel K H v x) : ER K (tC v) σ H x := fun H1 e _ q => q v H1 (Ex.refl _) (Rep.mono e r)
theorem em_of (h : ER K te σ H x) (hs : ∀ H', Ex H H' → S H') : EM K l S te σ H x := fun H1 e Q q => h H1 e Q fun v H2 e2 r => q v H2 (yo_ex e2) (hs H2 (e.trans e2)) r
theorem em_op {r : R2} (ha : EM K l S ta σ H x) (hb : ∀ H1, Yo l H H1 → S H1 → ER K tb σ H1 y) (hS : ∀ H H', Ex H H' → S H → S H') (hr : ∀ H3 v w, Rep.rel K H3 v x → Rep.rel K H3 w y → ER K (tOp r (tC v) (tC w)) σ H3 z) : EM K l S (tOp r ta tb) σ H z := fun H1 e Q q =>
  ha H1 e _ fun v H2 y2 s2 r2 => hb H2 ((yo_ex e).trans y2) s2 H2 (Ex.refl _) _ fun w H3 e3 r3 => hr H3 v w (Rep.mono e3 r2) r3 H3 (Ex.refl _) Q fun u H4 e4 r4 => q u H4 ((y2.trans (yo_ex e3)).trans (yo_ex e4)) (hS _ _ (e3.trans e4) s2) r4
theorem em_isnt (ha : EM K l S ta σ H ()) : EM K l S (tOp rNotN ta (tC .non)) σ H false := fun H1 e Q q => ha H1 e _ fun v H2 y2 s2 r => by
  have hv : v = .non := r
  subst hv
  exact ⟨rfl, q _ H2 y2 s2 rfl⟩
theorem em_is (ha : EM K l S ta σ H ()) : EM K l S (tOp rIsN ta (tC .non)) σ H true := fun H1 e Q q => ha H1 e _ fun v H2 y2 s2 r => by
  have hv : v = .non := r
  subst hv
  exact ⟨rfl, q _ H2 y2 s2 rfl⟩
theorem em_eqto {x' : α} (h : EM K l S te σ H x) (e : x = x') : EM K l S te σ H x' := e ▸ h
theorem emt_t (h : EM K l S te σ H b) : EMT l S (tTest te) σ H b := fun H1 e Q q => h H1 e _ fun v H2 y2 s2 r => ⟨b, r, q H2 y2 s2⟩
theorem emt_b (h : EM K l S te σ H b) : EMT l S (tB te) σ H b := fun H1 e Q q => h H1 e _ fun v H2 y2 s2 r => ⟨b, r, q H2 y2 s2⟩
theorem emt_or (h1 : ET K tt σ H false) (h2 : EMT l S tu σ H b) : EMT l S (tOr tt tu) σ H b := fun H1 e Q q => h1 H1 e _ fun H2 e2 => h2 H2 (e.trans e2) Q fun H3 y3 s3 => q H3 ((yo_ex e2).trans y3) s3
theorem em_and (h1 : EM K l S1 ta σ H true) (h2 : ∀ H1, Yo l H H1 → S1 H1 → EM K l S2 tb σ H1 b) : EM K l S2 (tAndV ta tb) σ H b := fun H1 e Q q => h1 H1 e _ fun v H2 y2 s2 r => ⟨true, r, h2 H2 ((yo_ex e).trans y2) s2 H2 (Ex.refl _) Q fun w H3 y3 s3 r3 => q w H3 (y2.trans y3) s3 r3⟩
theorem q_noM (h : EMT l S tt σ H false) (k : ∀ H1, Yo l H H1 → S H1 → u D σ H1) : tSeq (tIfS tt t1 tNext) u D σ H := h H (Ex.refl _) _ fun H1 y1 s1 => k H1 y1 s1
theorem l_retM {Q : VK} {nx bk ct} (h : EM K l S te σ H x) (k : ∀ v H1, Yo l H H1 → S H1 → Rep.rel K H1 v x → Q v H1) : tRet te ⟨nx, Q, bk, ct⟩ σ H := h H (Ex.refl _) _ k
/-! the panel's methods called -/
theorem pan_ins {v : V} {p : Pan C} (r : Rep.rel K H v p) : ∃ a dx fs, v = .ref a ∧ H a = some (.ins C dx fs) ∧ (∀ m : Str, decide (m = "field") = false → decide (m = "tie") = false → decide (m = "turns") = false → fs.lookup m = none) := by
  obtain ⟨a, dx, q, h1, h2, h3⟩ := r
  refine ⟨a, dx, _, h1, h2, fun m e1 e2 e3 => ?_⟩
  simp only [List.lookup, beq_eq_false_iff_ne.mpr (of_decide_eq_false e1), beq_eq_false_iff_ne.mpr (of_decide_eq_false e2), beq_eq_false_iff_ne.mpr (of_decide_eq_false e3)]
theorem em_press {p : Pan C} {ts : List (Int × Int)} {side row : Str} (ho : ER K ta σ H p) (hs : PT K H p ts) (h1 : ER K tb σ H side) (h2 : ER K tc σ H row) (ok : FOk p.f) (hd : side = "left" ∨ side = "right") (hr : rowOk row) (hn : ts ≠ []) (hl : ts.length < 100000) :
    EM K p.t (fun H' => PT K H' p (ts ++ [rowTied p.f p.tie side (lastP ts) row.cps.toList])) (tMeth C "press" (spPress K C) [] E ta (tCons tb (tCons tc tNil))) σ H (rowTied p.f p.tie side (lastP ts) row.cps.toList) := fun H1 e Q q => ho H1 e _ fun v H2 e2 r => by
  obtain ⟨a, dx, fs, rfl, ha, hf⟩ := pan_ins r
  refine ⟨a, dx, fs, rfl, ha, hf _ rfl rfl rfl, h1 H2 (e.trans e2) _ fun v1 H3 e3 r1 => h2 H3 ((e.trans e2).trans e3) _ fun v2 H4 e4 r2 => ?_⟩
  cases r1
  cases r2
  obtain ⟨ws, w1, w2⟩ := hs.ex (((e.trans e2).trans e3).trans e4)
  exact ⟨.ref a, p, ts, side, row, rfl, Rep.mono (e3.trans e4) r, ⟨ws, w1, w2⟩, ok, hd, hr, hn, hl, fun u H' eo hp hu => q u H' ((yo_ex ((e2.trans e3).trans e4)).trans ⟨eo.y w1, eo⟩) hp hu⟩
theorem em_drag {p : Pan C} {ts : List (Int × Int)} {side : Str} {wd d : Int} (ho : ER K ta σ H p) (hs : PT K H p ts) (h1 : ER K tb σ H side) (h2 : ER K tc σ H wd) (h3 : ER K td σ H d) (ok : FOk p.f) (hd : side = "left" ∨ side = "right") (hw : WOk wd) (hdd : 0 ≤ d ∧ d ≤ wd - 1) (hn : ts ≠ []) (hl : ts.length < 100000) :
    EM K p.t (fun H' => PT K H' p (ts ++ [settle p.tie (lastP ts) side (valueAt p.f wd d)])) (tMeth C "drag" (spDrag K C) [] E ta (tCons tb (tCons tc (tCons td tNil)))) σ H (settle p.tie (lastP ts) side (valueAt p.f wd d)) := fun H1 e Q q => ho H1 e _ fun v H2 e2 r => by
  obtain ⟨a, dx, fs, rfl, ha, hf⟩ := pan_ins r
  refine ⟨a, dx, fs, rfl, ha, hf _ rfl rfl rfl, h1 H2 (e.trans e2) _ fun v1 H3 e3 r1 => h2 H3 ((e.trans e2).trans e3) _ fun v2 H4 e4 r2 => h3 H4 (((e.trans e2).trans e3).trans e4) _ fun v3 H5 e5 r3 => ?_⟩
  cases r1
  cases r2
  cases r3
  have e25 := (e3.trans e4).trans e5
  obtain ⟨ws, w1, w2⟩ := hs.ex ((e.trans e2).trans e25)
  exact ⟨.ref a, p, ts, side, wd, d, rfl, Rep.mono e25 r, ⟨ws, w1, w2⟩, ok, hd, hw, hdd, hn, hl, fun u H' eo hp hu => q u H' ((yo_ex (e2.trans e25)).trans ⟨eo.y w1, eo⟩) hp hu⟩
theorem em_undo {p : Pan C} {ts : List (Int × Int)} (ho : ER K ta σ H p) (hs : PT K H p ts) (hn : 2 ≤ ts.length) (hl : ts.length ≤ 100000) :
    EM K p.t (fun H' => PT K H' p ts.dropLast) (tMeth C "undo" (spUndo K C) [] E ta tNil) σ H () := fun H1 e Q q => ho H1 e _ fun v H2 e2 r => by
  obtain ⟨a, dx, fs, rfl, ha, hf⟩ := pan_ins r
  obtain ⟨ws, w1, w2⟩ := hs.ex (e.trans e2)
  exact ⟨a, dx, fs, rfl, ha, hf _ rfl rfl rfl, .ref a, p, ts, rfl, r, ⟨ws, w1, w2⟩, hn, hl, fun H' eo hp => q .non H' ((yo_ex e2).trans ⟨eo.y w1, eo⟩) hp rfl⟩
theorem er_ppair {p : Pan C} {ts : List (Int × Int)} (ho : ER K ta σ H p) (hs : PT K H p ts) (hn : ts ≠ []) : ER K (tMeth C "pair" (spPair K C) [] E ta tNil) σ H (lastP ts) := fun H1 e Q q => ho H1 e _ fun v H2 e2 r => by
  obtain ⟨a, dx, fs, rfl, ha, hf⟩ := pan_ins r
  exact ⟨a, dx, fs, rfl, ha, hf _ rfl rfl rfl, .ref a, p, ts, rfl, r, hs.ex (e.trans e2), hn, fun u H' e' hu => q u H' (e2.trans e') hu⟩
theorem er_plen {p : Pan C} {ts : List (Int × Int)} (ho : ER K ta σ H p) (hs : PT K H p ts) (hn : ts ≠ []) (ok : FOk p.f) (hl : (lastP ts).2 + 1 - startP p.f (lastP ts).1 ≤ 100000 * p.f.step) (hst : p.f.step < 1073741824) (h1 : p.f.low ≤ (lastP ts).1 ∧ (lastP ts).1 ≤ p.f.high) (h2 : p.f.low ≤ (lastP ts).2 ∧ (lastP ts).2 ≤ p.f.high) :
    ER K (tCB (rLenO C (spPLen K C) E) (tCons ta tNil)) σ H (panLen p.f (lastP ts) : Int) := fun H1 e Q q => ho H1 e _ fun v H2 e2 r => by
  obtain ⟨a, dx, fs, rfl, ha, hf⟩ := pan_ins r
  exact ⟨a, dx, fs, rfl, ha, .ref a, p, ts, rfl, r, hs.ex (e.trans e2), hn, ok, hl, hst, h1, h2, fun H' e' => ⟨_, rfl, by omega, by have := panLen_le ok.fl.2.2.2.1 hl; omega, q _ H' (e2.trans e') rfl⟩⟩
theorem er_plines {p : Pan C} {ts : List (Int × Int)} (ho : ER K ta σ H p) (hs : PT K H p ts) (hn : ts ≠ []) (h1 : -1000000000000 ≤ (lastP ts).1 ∧ (lastP ts).1 ≤ 1000000000000) (h2 : -1000000000000 ≤ (lastP ts).2 ∧ (lastP ts).2 ≤ 1000000000000) :
    ER K (tListG (tMethG C "lines" (spLines K C) [] E ta tNil)) σ H (linesP (lastP ts)) := fun H1 e Q q => ho H1 e _ fun v H2 e2 r => by
  obtain ⟨a, dx, fs, rfl, ha, hf⟩ := pan_ins r
  refine ⟨a, dx, fs, rfl, ha, hf _ rfl rfl rfl, .ref a, p, ts, rfl, r, hs.ex (e.trans e2), hn, h1, h2, fun H' e' pp hpp => ?_⟩
  exact q (.ref pp) _ (e2.trans (e'.trans (Ex.new hpp))) ⟨pp, _, rfl, upd_same, .cons rfl (.cons rfl .nil)⟩
/-! made -/
theorem er_mkFV {tA : TA} {f : Fld} (hA : EVs tA σ H f.vs) (ok : FOk f) : ER K (tMake C (spInitF K C) [] E tA) σ H (FVal.mk f : FVal C) := fun H1 e Q q => hA H1 e _ fun H2 e2 => fun x dx hx hdx ne => by
  refine ⟨x, dx, f, by rw [List.append_nil], ok, upd_same, fun p H' eo h1 h2 => ⟨rfl, q (.ref x) H' (e2.trans fun a o ha => eo a o (ne_of_none ha hx) ?_) ⟨x, dx, p, rfl, h1, h2⟩⟩⟩
  rw [upd_ne (ne_of_none ha hx), upd_ne (ne_of_none ha hdx)]
  exact ha
theorem q_setPan {n : Nat} {s' : V → L2.St} {f : Fld} {t : Str} (ha : ER K ta σ H f) (hb : ER K tb σ H t) (ok : FOk f) (ht : isTie t) (s : ∀ v, SetAt σ n v (s' v)) (k : ∀ v H1 (p : Pan C), Ex H H1 → Rep.rel K H1 v p → p.f = f → p.tie = t → H p.t = none → PT K H1 p [(f.low, f.high)] → u D (s' v) H1) :
    tSeq (tAsg (tMake C (spInitP K C) [] E (tCons ta (tCons tb tNil))) (gName n)) u D σ H := ha H (Ex.refl _) _ fun v1 H2 e2 ⟨p, hv, hs⟩ => hb H2 e2 _ fun v2 H3 e3 r2 => fun x dx hx hdx ne => by
  subst hv
  cases r2
  have e4 : Ex H3 (upd (upd H3 dx (.own x)) x (.ins C dx [])) := fun a o ha => by
    rw [upd_ne (ne_of_none ha hx), upd_ne (ne_of_none ha hdx)]
    exact ha
  refine ⟨x, dx, p, f, t, rfl, ex_t (e3.trans e4) hs, ok, ht, upd_same, fun l ws H' hn eo h1 h2 h3 => ⟨rfl, ?_⟩⟩
  have hn3 : H3 l = none := by
    by_cases z : l = x
    · rw [z, upd_same] at hn
      cases hn
    · rw [upd_ne z] at hn
      by_cases z2 : l = dx
      · rw [z2, upd_same] at hn
        cases hn
      · rw [upd_ne z2] at hn
        exact hn
  have e5 : Ex H3 H' := fun a o ha => eo a o (ne_of_none ha hx) (e4 a o ha)
  show u D (σ.set n (some (.ref x))) H'
  rw [(s _).eq]
  exact k (.ref x) H' ⟨f, t, l⟩ ((e2.trans e3).trans e5) ⟨x, dx, p, rfl, h1, ex_t (e3.trans e5) hs⟩ rfl rfl (fresh_back (e2.trans e3) hn3) ⟨ws, h2, h3⟩
end
/-! ### the list of a panel, in its methods -/
section
variable {K : PySem.W.Frag} {σ : L2.St} {H : Hp} {te ta : TE} {u : TS} {D : Ends} {C : Addr} {p : Pan C} {ts : List (Int × Int)} {ws : List V} {n : Nat} {v : V}
theorem q_fld {tv : TE} {f : Str} (h : tv σ H (fun y H1 => ta σ H1 fun x H2 => ∃ a C dx fs, x = .ref a ∧ H2 a = some (.ins C dx fs) ∧ Cls K C ∧ NoAttr K C f ∧ fs.length < 1000 ∧ u D σ (upd H2 a (.ins C dx (putF f y fs))))) : tSeq (sFld K ta tv f) u D σ H := h
theorem open_rel0 (c : Cls K C) (n : NoAttr K C "turns") (hl : H p.t = some (MutO p.t ws)) (hr : rels K H ws ts) (h : ER K ta σ (upd H p.t (.lst ws)) p) : ER K (tFld K ta "turns") σ (upd H p.t (.lst ws)) ts := er_pturns c n (open_rel hl hr) h
theorem eo_ex {l : Addr} {H H1 H2 : Hp} (e : Ex H H1) (o : Eo l H1 H2) : Eo l H H2 := fun a x na h => o a x na (e a x h)
theorem rels_dropLast {α : Type} [Rep α] {vs : List V} {xs : List α} (h : rels K H vs xs) : rels K H vs.dropLast xs.dropLast := by
  induction h with
  | nil => exact .nil
  | cons r t ih =>
    cases t with
    | nil => exact .nil
    | cons q t' => exact .cons r ih
/-- self.turns.pop() -/
theorem l_popA (c : Cls K C) (na : NoAttr K C "turns") (r0 : Rep.rel K H v p) (hv : σ[n]? = some (some v)) (hl : H p.t = some (MutO p.t ws)) (hr : rels K H ws ts) (h2 : 2 ≤ ts.length) (hz : ts.length ≤ 100000)
    (k : ∀ ws' H1, Eo p.t H H1 → H1 p.t = some (MutO p.t ws') → rels K H1 ws' ts.dropLast → D.nx σ H1) : tDrop (tOpenA (tBM0 K "list" rPop (tFld K (tVar n) "turns"))) D σ H := by
  refine ⟨p.t, ws, hl, ?_⟩
  have hq : (upd H p.t (.lst ws)) p.t = some (.lst ws) := upd_same
  obtain ⟨a, dx, q, h1, h3, h4⟩ := (open_mo hl r0 : Rep.rel K (upd H p.t (.lst ws)) v p)
  have hlen : ws.length = ts.length := rels_len hr
  have hy : ∃ y, ws[ws.length - 1]? = some y := ⟨_, List.getElem?_eq_getElem (by omega)⟩
  obtain ⟨y, hy⟩ := hy
  refine ⟨v, hv, a, C, dx, _, .ref p.t, h1, h3, c, na, rfl, .inl ⟨rfl, ws, sq_of hq⟩, p.t, ws, y, rfl, rfl, hq, hy, ws.dropLast, upd_same, ?_⟩
  rw [upd_upd, upd_upd]
  have o1 : Eo p.t H (upd H p.t (MutO p.t ws.dropLast)) := Eo.upd (Ex.refl _)
  exact k ws.dropLast _ o1 upd_same (rels_moY (o1.y hl) (rels_dropLast hr))
/-- self.turns.append(x) -/
theorem q_appA {m : Nat} {x : Int × Int} {w : V} (c : Cls K C) (na : NoAttr K C "turns") (r0 : Rep.rel K H v p) (hv : σ[n]? = some (some v)) (hl : H p.t = some (MutO p.t ws)) (hr : rels K H ws ts) (hz : ts.length < 100000) (hw : σ[m]? = some (some w)) (rx : Rep.rel K H w x)
    (k : ∀ ws' H1, Eo p.t H H1 → H1 p.t = some (MutO p.t ws') → rels K H1 ws' (ts ++ [x]) → u D σ H1) : tSeq (tDrop (tOpenA (tBM K "list" rAppend (tFld K (tVar n) "turns") (tCons (tVar m) tNil)))) u D σ H := by
  refine ⟨p.t, ws, hl, ?_⟩
  have hq : (upd H p.t (.lst ws)) p.t = some (.lst ws) := upd_same
  obtain ⟨a, dx, q, h1, h3, h4⟩ := (open_mo hl r0 : Rep.rel K (upd H p.t (.lst ws)) v p)
  have hlen : ws.length = ts.length := rels_len hr
  refine ⟨v, hv, a, C, dx, _, .ref p.t, h1, h3, c, na, rfl, .inl ⟨rfl, ws, sq_of hq⟩, w, hw, p.t, ws, w, rfl, rfl, hq, by rw [hlen]; exact sz_lt hz, ws ++ [w], upd_same, ?_⟩
  rw [upd_upd, upd_upd]
  have o1 : Eo p.t H (upd H p.t (MutO p.t (ws ++ [w]))) := Eo.upd (Ex.refl _)
  exact k (ws ++ [w]) _ o1 upd_same (rels_moY (o1.y hl) (rels_snoc hr rx))
end
theorem startP_in {f : Fld} {l : Int} (h : 1 ≤ f.step) : max (gridOf f).1 l ≤ startP f l ∧ startP f l < max (gridOf f).1 l + f.step := by
  have h1 := Int.emod_add_mul_ediv ((gridOf f).1 - max (gridOf f).1 l) f.step
  have h2 := Int.emod_nonneg ((gridOf f).1 - max (gridOf f).1 l) (show f.step ≠ 0 by omega)
  have h3 := Int.emod_lt_of_pos ((gridOf f).1 - max (gridOf f).1 l) (show 0 < f.step by omega)
  unfold startP
  rw [Int.neg_mul, Int.mul_comm]
  omega
end Sf

namespace Sf
open PySem PySem.Spec PyProof.Rows L2 Evl
/-! ### instances: == by an own __eq__, isinstance, a property, called -/
section
variable {X : Cx} {CX : CXT} {k : Nat} {C f : Addr} {fd : FuncData} {ps : List Str} {sp : Sp} {E : XK}
def rEqO (K : PySem.W.Frag) (C : Addr) (sp : Sp) (E : XK) : R2 := fun x y H Q => ∃ a dx fs b, x = .ref a ∧ H a = some (.ins C dx fs) ∧ y = .ref b ∧ ((∃ dy gs, H b = some (.ins C dy gs)) ∨ ∃ ys, SqT K H b ys) ∧ sp [x, y] H (fun v H' => ∃ z, v = .bl z ∧ Q (.bl z) H') E
theorem op_eqO (ci : ClsI X.K C) (hs : PySem.W.findIn X.K (.ref C) "__eq__" = some (some (.ref f))) (hf : PySem.W.isFn X.K (.ref f) = true) (F : FnOk X.prog X.w X.K X.mg X.base CX k f fd ps sp) (hr : Room k X.A) (hb : Binds X.K fd ps []) (hx : Passes CX X E) : OpR X (compareOp .Eq) (rEqO X.K C sp E) := by
  intro pins s σ H x y v u Q I rx ry h
  obtain ⟨a, dx, fs, b, rfl, ha, rfl, hy, q⟩ := h
  obtain rfl : v = Value.ref a := rx
  obtain rfl : u = Value.ref b := ry
  obtain ⟨mA, O, _⟩ := ins_get I.hok ha
  obtain ⟨od, J, _⟩ := O.look
  obtain ⟨m, hF⟩ := I.fr
  have back : wpAny (model X.prog X.w) X.A (call (.ref f) [.ref a, .ref b]) (PySem.W.CmpBack (EP X pins σ Q)) X.xe s := wpAny_mono (run_fnA (us := [Value.ref a, Value.ref b]) (vs := [V.ref a, V.ref b]) rfl F hr hb hx I (.cons rfl (.cons rfl .nil)) q) (fun r s' hv => by
    obtain ⟨x', H', I', rv, z, rfl, q'⟩ := hv
    obtain rfl : r = Value.bool z := rv
    exact ⟨.bl z, H', I', rfl, q'⟩) fun _ _ z => z
  show wpAny (model X.prog X.w) X.A (richCompare .Eq (.ref a) (.ref b)) (EP X pins σ Q) X.xe s
  rcases hy with ⟨dy, gs, hb'⟩ | ⟨ys, hT⟩
  · obtain ⟨mB, O', _⟩ := ins_get I.hok hb'
    obtain ⟨od', J', _⟩ := O'.look
    exact PySem.W.cmp_K (op := .Eq) (tb := .ref C) hr.units0 hF I.ok.mod.kin J J'.type (by simp [PySem.W.notFirst]) hs hf back
  · obtain ⟨its, r, ⟨⟨cls, dd, data, sl⟩, ho, hc, n, hd⟩, hs2⟩ := I.tuple hT
    simp only at hc
    subst hc
    exact PySem.W.cmp_K (op := .Eq) (tb := .type "tuple") hr.units0 hF I.ok.mod.kin J (fun A Q E s k q => wpAny_typeOf_ref (k _ _ ho) q) ci.nf hs hf back
end
/-- an instance called: its reading -/
def tCallI (C : Addr) (sp : Sp) (E : XK) (tf : TE) (t : TA) : TE := fun σ H Q => tf σ H fun y H1 => ∃ a, y = V.ref a ∧ t σ H1 fun vs H2 => (∃ dx fs, H2 a = some (.ins C dx fs)) ∧ sp (V.ref a :: vs) H2 Q E
section
variable {K : PySem.W.Frag} {σ : L2.St} {H : Hp} {te ta tb tc : TE} {tA : TA} {C : Addr} {E : XK} {x y : FVal C} {c : Str}
theorem fv_ins {v : V} (r : Rep.rel K H v x) : ∃ a dx fs, v = .ref a ∧ H a = some (.ins C dx fs) := by
  obtain ⟨a, dx, p, h1, h2, h3⟩ := r
  exact ⟨a, dx, _, h1, h2⟩
theorem er_eqFF {pre : FVal C → FVal C → Prop} {g : FVal C → FVal C → Bool} (ha : ER K ta σ H x) (hb : ER K tb σ H y) (hp : pre x y) : ER K (tOp (rEqO K C (sp2 (α := FVal C) (β := FVal C) (δ := Bool) K pre g) E) ta tb) σ H (g x y) := fun H1 e Q q => ha H1 e _ fun v H2 e2 r => hb H2 (e.trans e2) _ fun w H3 e3 rw' => by
  have r3 := Rep.mono e3 r
  obtain ⟨a, dx, fs, rfl, h2⟩ := fv_ins r3
  obtain ⟨b, dy, gs, rfl, h3⟩ := fv_ins rw'
  exact ⟨a, dx, fs, b, rfl, h2, rfl, .inl ⟨dy, gs, h3⟩, .ref a, .ref b, x, y, rfl, r3, rw', hp, fun u H' e' ru => ⟨g x y, ru, q _ H' ((e2.trans e3).trans e') rfl⟩⟩
theorem er_eqFT {z : Fld} {pre : FVal C → Fld → Prop} {g : FVal C → Fld → Bool} (ha : ER K ta σ H x) (hb : ER K tb σ H z) (hp : pre x z) : ER K (tOp (rEqO K C (sp2 (α := FVal C) (β := Fld) (δ := Bool) K pre g) E) ta tb) σ H (g x z) := fun H1 e Q q => ha H1 e _ fun v H2 e2 r => hb H2 (e.trans e2) _ fun w H3 e3 rw' => by
  have r3 := Rep.mono e3 r
  obtain ⟨a, dx, fs, rfl, h2⟩ := fv_ins r3
  obtain ⟨b, rfl, h3⟩ := id rw'
  exact ⟨a, dx, fs, b, rfl, h2, rfl, .inr ⟨_, h3⟩, .ref a, .ref b, x, z, rfl, r3, rw', hp, fun u H' e' ru => ⟨g x z, ru, q _ H' ((e2.trans e3).trans e') rfl⟩⟩
theorem er_isFV (c : ClsI K C) (h : ER K ta σ H x) : ER K (tCB (rIsi K) (tCons ta (tCons (tC (.ref C)) tNil))) σ H true := fun H1 e Q q => h H1 e _ fun v H2 e2 r => by
  obtain ⟨a, dx, fs, rfl, h2⟩ := fv_ins r
  exact ⟨.ref a, .ref C, _, _, true, rfl, .own C, .base (.ins h2 c.cl c.ha c.hn c.ht c.hm), c.me, q _ H2 e2 rfl⟩
theorem er_isFT {z : Fld} (c : ClsI K C) (h : ER K ta σ H z) : ER K (tCB (rIsi K) (tCons ta (tCons (tC (.ref C)) tNil))) σ H false := fun H1 e Q q => h H1 e _ fun v H2 e2 r =>
  ⟨v, .ref C, _, _, false, rfl, .own C, dp_ty (Enc.dp (α := Fld) r), c.tup, q _ H2 e2 rfl⟩
theorem er_prop {δ : Type} [Rep δ] {pre : FVal C → Prop} {g : FVal C → δ} (h : ER K ta σ H x) (hp : pre x) : ER K (tProp C (sp1 (α := FVal C) (δ := δ) K pre g) [] E ta) σ H (g x) := fun H1 e Q q => h H1 e _ fun v H2 e2 r => by
  obtain ⟨a, dx, fs, rfl, h2⟩ := fv_ins r
  exact ⟨a, dx, fs, rfl, h2, .ref a, x, rfl, r, hp, fun u H' e' ru => q u H' (e2.trans e') ru⟩
theorem er_lenFV {pre : FVal C → Prop} {g : FVal C → Int} (h : ER K ta σ H x) (hp : pre x) (h0 : 0 ≤ g x ∧ g x < 9223372036854775808) : ER K (tCB (rLenO C (sp1 (α := FVal C) (δ := Int) K pre g) E) (tCons ta tNil)) σ H (g x) := fun H1 e Q q => h H1 e _ fun v H2 e2 r => by
  obtain ⟨a, dx, fs, rfl, h2⟩ := fv_ins r
  exact ⟨a, dx, fs, rfl, h2, .ref a, x, rfl, r, hp, fun u H' e' ru => ⟨g x, ru, h0.1, h0.2, q _ H' (e2.trans e') rfl⟩⟩
theorem er_callFV {α β δ : Type} [Rep α] [Rep β] [Rep δ] {a : α} {b : β} {pre : FVal C → α → β → Prop} {g : FVal C → α → β → δ} (h : ER K ta σ H x) (h1 : ER K tb σ H a) (h2 : ER K tc σ H b) (hp : pre x a b) :
    ER K (tCallI C (fun vs H Q E => sp3 (α := FVal C) (β := α) (γ := β) (δ := δ) K pre g (vs ++ []) H Q E) E ta (tCons tb (tCons tc tNil))) σ H (g x a b) := fun H1 e Q q => h H1 e _ fun v H2 e2 r => by
  obtain ⟨p, dx, fs, rfl, hh⟩ := fv_ins r
  exact ⟨p, rfl, h1 H2 (e.trans e2) _ fun v1 H3 e3 r1 => h2 H3 ((e.trans e2).trans e3) _ fun v2 H4 e4 r2 => ⟨⟨dx, fs, (e3.trans e4) _ _ hh⟩, .ref p, v1, v2, x, a, b, rfl, Rep.mono (e3.trans e4) r, Rep.mono e4 r1, r2, hp, fun u H' e' ru => q u H' (((e2.trans e3).trans e4).trans e') ru⟩⟩
/-- with defaults -/
theorem er_mkFVd {f : Fld} {us dvs : List V} (hA : EVs tA σ H us) (hd : us ++ dvs = f.vs) (ok : FOk f) : ER K (tMake C (spInitF K C) dvs E tA) σ H (FVal.mk f : FVal C) := fun H1 e Q q => hA H1 e _ fun H2 e2 => fun x dx hx hdx ne => by
  refine ⟨x, dx, f, by rw [hd], ok, upd_same, fun p H' eo h1 h2 => ⟨rfl, q (.ref x) H' (e2.trans fun a o ha => eo a o (ne_of_none ha hx) ?_) ⟨x, dx, p, rfl, h1, h2⟩⟩⟩
  rw [upd_ne (ne_of_none ha hx), upd_ne (ne_of_none ha hdx)]
  exact ha
/-! what raises -/
/-- an own method of a field that raises: its other arguments are data -/
def spEM1 (K : PySem.W.Frag) (C : Addr) (n : Nat) (bad : Fld → List PyData → Str → Prop) : Sp := fun vs H _ E => ∃ v us ds c, vs = v :: us ∧ us.length = n ∧ ∃ x : FVal C, Rep.rel K H v x ∧ rels K H us (ds : List PyData) ∧ bad x.f ds c ∧ XE1 K E c H
theorem rx_ixO {bad : Fld → List PyData → Str → Prop} {d : PyData} (ha : ER K ta σ H x) (hb : ER K tb σ H d) (h : bad x.f [d] c) : RX K (tOp (rIxO C (spEM1 K C 1 bad) E) ta tb) σ H E c := fun H1 e X Q => ha H1 e _ fun v H2 e2 r => hb H2 (e.trans e2) _ fun w H3 e3 rw' => by
  have r3 := Rep.mono e3 r
  obtain ⟨a, dx, fs, rfl, h2⟩ := fv_ins r3
  exact ⟨a, dx, fs, rfl, h2, .ref a, [w], [d], c, rfl, rfl, x, r3, .cons rw' .nil, h, X.ex (e2.trans e3)⟩
theorem rx_callFV {bad : Fld → List PyData → Str → Prop} {ds : List PyData} {n : Nat} (ha : ER K ta σ H x) (hb : EAs K tA σ H ds) (hn : ds.length = n) (h : bad x.f ds c) : RX K (tCallI C (fun vs H Q E => spEM1 K C n bad (vs ++ []) H Q E) E ta tA) σ H E c := fun H1 e X Q => ha H1 e _ fun v H2 e2 r => by
  obtain ⟨p, dx, fs, rfl, hh⟩ := fv_ins r
  exact ⟨p, rfl, hb H2 (e.trans e2) _ fun us H3 e3 rs => ⟨⟨dx, fs, e3 _ _ hh⟩, .ref p, us, ds, c, by rw [List.append_nil], (rels_len rs).trans hn, x, Rep.mono e3 r, rs, h, X.ex (e2.trans e3)⟩⟩
/-- the maker that refuses -/
def spInitE (K : PySem.W.Frag) (C : Addr) : Sp := fun vs H _ E => ∃ x us, vs = .ref x :: us ∧ us.length = 7 ∧ ∃ ds : List PyData, rels K H us ds ∧ isField (.tuple ds) = false ∧ XE1 K E "InvalidField" H
/-- args of which the last may be drawn -/
def EAn (K : PySem.W.Frag) (tA : TA) (σ : L2.St) (H : Hp) (P : List PyData → Prop) : Prop := ∀ H1, Ex H H1 → ∀ Q : List V → Hp → Prop, (∀ vs ds H2, P ds → Ex H1 H2 → rels K H2 vs (ds : List PyData) → Q vs H2) → tA σ H1 Q
theorem ean_of {ds : List PyData} (h : EAs K tA σ H ds) : EAn K tA σ H (fun z => z = ds) := fun H1 e Q q => h H1 e Q fun vs H2 e2 r => q vs ds H2 rfl e2 r
theorem ean_1 {P : PyData → Prop} (h : EN K ta σ H P) : EAn K (tCons ta tNil) σ H (fun z => ∃ d, P d ∧ z = [d]) := fun H1 e Q q => h H1 e _ fun d v H2 p e2 r => q [v] [d] H2 ⟨d, p, rfl⟩ e2 (.cons r .nil)
theorem ean_cons {P : List PyData → Prop} {d : PyData} (h : ER K ta σ H d) (hr : EAn K tA σ H P) : EAn K (tCons ta tA) σ H (fun z => ∃ ds, P ds ∧ z = d :: ds) := fun H1 e Q q => h H1 e _ fun v H2 e2 r => hr H2 (e.trans e2) _ fun vs ds H3 p e3 rs => q (v :: vs) (d :: ds) H3 ⟨ds, p, rfl⟩ (e2.trans e3) (.cons (Rep.mono e3 r) rs)
theorem rx_mkE {P : List PyData → Prop} {dvs : List V} {ddv : List PyData} (h : EAn K tA σ H P) (hd : ∀ H', rels K H' dvs ddv) (hn : ∀ ds, P ds → (ds ++ ddv).length = 7 ∧ isField (.tuple (ds ++ ddv)) = false) : RX K (tMake C (spInitE K C) dvs E tA) σ H E "InvalidField" := fun H1 e X Q => h H1 e _ fun vs ds H2 p e2 rs => fun x dx hx hdx ne => by
  have e3 : Ex H2 (upd (upd H2 dx (.own x)) x (.ins C dx [])) := fun a o ha => by
    rw [upd_ne (ne_of_none ha hx), upd_ne (ne_of_none ha hdx)]
    exact ha
  have rr := rels_app (rels_mono e3 rs) (hd _)
  exact ⟨x, vs ++ dvs, rfl, by rw [rels_len rr]; exact (hn ds p).1, ds ++ ddv, rr, (hn ds p).2, X.ex (e2.trans e3)⟩
theorem rx_mkO {P : List PyData → Prop} {sp : Sp} {dvs : List V} {ddv : List PyData} (h : EAn K tA σ H P) (hd : ∀ H', rels K H' dvs ddv) (hn : ∀ ds, P ds → (ds ++ ddv).length = 7 ∧ isField (.tuple (ds ++ ddv)) = false) : RX K (tMake C (spOr sp (spInitE K C)) dvs E tA) σ H E "InvalidField" := fun H1 e X Q => h H1 e _ fun vs ds H2 p e2 rs => fun x dx hx hdx ne => by
  have e3 : Ex H2 (upd (upd H2 dx (.own x)) x (.ins C dx [])) := fun a o ha => by
    rw [upd_ne (ne_of_none ha hx), upd_ne (ne_of_none ha hdx)]
    exact ha
  have rr := rels_app (rels_mono e3 rs) (hd _)
  exact .inr ⟨x, vs ++ dvs, rfl, by rw [rels_len rr]; exact (hn ds p).1, ds ++ ddv, rr, (hn ds p).2, X.ex (e2.trans e3)⟩
theorem er_mkFVo {f : Fld} {us dvs : List V} {sp : Sp} (hA : EVs tA σ H us) (hd : us ++ dvs = f.vs) (ok : FOk f) : ER K (tMake C (spOr (spInitF K C) sp) dvs E tA) σ H (FVal.mk f : FVal C) := fun H1 e Q q => hA H1 e _ fun H2 e2 => fun x dx hx hdx ne => by
  refine .inl ⟨x, dx, f, by rw [hd], ok, upd_same, fun p H' eo h1 h2 => ⟨rfl, q (.ref x) H' (e2.trans fun a o ha => eo a o (ne_of_none ha hx) ?_) ⟨x, dx, p, rfl, h1, h2⟩⟩⟩
  rw [upd_ne (ne_of_none ha hx), upd_ne (ne_of_none ha hdx)]
  exact ha
end
/-- an instance called -/
theorem pe_callI {X : Cx} {CX : CXT} {k : Nat} {C g : Addr} {fd : FuncData} {ps : List Str} {sp : Sp} {E : XK} {fe e : Expr} {es : List Expr} {tf : TE} {t : TA} {pos : Pos} (hf : PE X fe tf) (me : Meth X.K C "__call__" g) (fi : PySem.W.fnIn X.K g = true) (F : FnOk X.prog X.w X.K X.mg X.base CX k g fd ps sp) (hr : Room k X.A) (hb : Binds X.K fd ps []) (hx : Passes CX X E) (ha : PA X (e :: es) t)
    (ht : eval (.Call fe (e :: es) [] pos) X.env = (do callWith pos (← eval fe X.env) [] (backTo pos (starEach (e :: es) X.env)) (backToKw pos (keywordEach [] X.env))) := by rfl)
    (he : starEach (e :: es) X.env = (false, eval e X.env) :: starEach es X.env := by rfl) (hpl : (backTo pos (starEach es X.env)).any (·.1) = false := by rfl) : PE X (.Call fe (e :: es) [] pos) (tCallI C (fun vs H Q E => sp (vs ++ []) H Q E) E tf t) := by
  refine ⟨fun pins s σ H Q I h => ?_⟩
  refine Call_ (thn (hf.run pins s σ H _ I h) fun u s1 ⟨y, H1, I1, ry, a, ey, q⟩ => ?_) ht
  subst ey
  obtain rfl : u = Value.ref a := ry
  refine StX.callO_with (thn (ha.run pos pins s1 σ H1 _ I1 q) fun us s2 ⟨vs, H2, I2, r, hi, q2⟩ => ?_) he hpl
  obtain ⟨dx, fs, hi⟩ := hi
  have hi2 : StX.InsC X H2 a C := .inr ⟨dx, fs, hi⟩
  obtain ⟨ox, od, J, hd⟩ := StX.insC_at I2 hi2
  exact ⟨⟨C, ox, od, J, hd⟩, StX.run_callO ⟨me.at_, me.fn, fi⟩ (F.raw hb .nil) hr hx I2 hi2 r q2⟩
/-- a property's getter -/
structure CalPr (P : Program) (w : World) (K : PySem.W.Frag) (mg : Str → Option Value) (base : Heap) (k : Nat) (x f : Str) (ps : List Str) (sp : Sp) (fd : FuncData) : Prop where
  ok : FnOk P w K mg base CX0 k (pgA K (He.ga K x) f) fd ps sp
  pr : PropOf K (He.ga K x) f (He.ma K (He.ga K x) f) (pgA K (He.ga K x) f)
  bd : Binds K fd ps []
/-- with the last parameters left out -/
def BndD (K : PySem.W.Frag) (fd : FuncData) (ps : List Str) (dvs : List V) : Prop := ∃ ds, Vals dvs ds ∧ Binds K fd ps ds
/-- methods that raise, or do both -/
theorem CalM.or {P : Program} {w : World} {K : PySem.W.Frag} {mg : Str → Option Value} {base : Heap} {CX : CXT} {k : Nat} {x m : Str} {ps : List Str} {a b : Sp} {fd : FuncData} (C : CalM P w K mg base CX0 k x m ps a fd) (D : CalM P w K mg base CX k x m ps b fd) : CalM P w K mg base CX k x m ps (spOr a b) fd := ⟨fnOk_or C.ok D.ok, C.me, C.bd, C.fi⟩
section
variable {K : PySem.W.Frag} {Ts : List (Addr × Str)} {σ : L2.St} {H : Hp} {te tb : TE}
theorem ety_neX {x w : Str} (h : EY K Ts te σ H x) (h2 : ∀ H1, ExtT H H1 → LamX.Tabs Ts H1 → ER K tb σ H1 w) : ETY Ts (tTest (tOp rNe te tb)) σ H (!decide (x = w)) := fun Q k => h _ fun v H1 e t r => by
  cases r
  exact h2 H1 e t H1 (Ex.refl _) _ fun u H2 e2 r2 => by
    cases r2
    refine ⟨rfl, _, rfl, ?_⟩
    have e3 : (!decide (V.str x = V.str w)) = !decide (x = w) := by simp only [V.str.injEq]
    rw [e3]
    exact k H2 (e.trans (.of e2)) (t.ext e2)
end
end Sf

namespace Sf
open PySem PySem.Spec PyProof.Rows L2 Evl
/-! ### fields as values -/
def inFld (f : Fld) : PyData → Bool
  | .int i => isBetween (.int i) f.low f.high && isOn f i
  | _ => false
def eqFV (f g : Fld) : Bool := decide ((f.low, f.high) = (g.low, g.high)) && (partOf f g).isNone
def badIx (f : Fld) (ds : List PyData) (c : Str) : Prop := FOk f ∧ ∃ d, ds = [d] ∧ isBetween d 0 (((gridOf f).2 - (gridOf f).1) / f.step) = false ∧ c = "InvalidIndex"
def badCall (f : Fld) (ds : List PyData) (c : Str) : Prop := (∃ d z, ds = [d, z] ∧ isBetween d f.low f.high = false ∧ c = "InvalidValue") ∨ (∃ (i : Int) (d : PyData), ds = [Enc.enc i, d] ∧ FOk f ∧ (f.low ≤ i ∧ i ≤ f.high) ∧ (isRow d = false ∧ SZ d) ∧ c = "InvalidRow")
theorem eqFV_no {f g : Fld} (h : (!true || !decide ((f.low, f.high) = (g.low, g.high))) = true) : false = eqFV f g := by
  unfold eqFV
  rw [Bool.not_true, Bool.false_or, Bool.not_eq_true'] at h
  rw [h]
  rfl
theorem eqFV_yes {f g : Fld} (h : (!true || !decide ((f.low, f.high) = (g.low, g.high))) = false) : (partOf f g).isNone = eqFV f g := by
  unfold eqFV
  rw [Bool.not_true, Bool.false_or, Bool.not_eq_false'] at h
  rw [h]
  rfl
theorem fv_len {f : Fld} (ok : FOk f) (h : everyOf f ≤ 100000) : (gridOf f).2 + 1 - (gridOf f).1 ≤ 100000 * f.step := by
  unfold everyOf at h
  have hs : 1 ≤ f.step := ok.fl.2.2.2.1
  have h1 := Int.emod_add_mul_ediv ((gridOf f).2 - (gridOf f).1) f.step
  have h2 := Int.emod_lt_of_pos ((gridOf f).2 - (gridOf f).1) (show 0 < f.step by omega)
  have h3 : f.step * (((gridOf f).2 - (gridOf f).1) / f.step) ≤ f.step * 99999 := Int.mul_le_mul_of_nonneg_left (by omega) (by omega)
  omega
theorem fv_every {f : Fld} (ok : FOk f) (hg : (gridOf f).1 ≤ (gridOf f).2) : ((rgC (gridOf f).1 f.step (if (gridOf f).1 < (gridOf f).2 + 1 then (((gridOf f).2 + 1 - (gridOf f).1 - 1) / f.step + 1).toNat else 0)).length : Int) = everyOf f := by
  have hs : 1 ≤ f.step := ok.fl.2.2.2.1
  rw [rgC_len, if_pos (by omega)]
  unfold everyOf
  have h0 := Int.ediv_nonneg (show 0 ≤ (gridOf f).2 - (gridOf f).1 by omega) (show 0 ≤ f.step by omega)
  rw [show (gridOf f).2 + 1 - (gridOf f).1 - 1 = (gridOf f).2 - (gridOf f).1 by omega]
  omega
theorem fv_cdiv {f : Fld} (ok : FOk f) : CDivW ((gridOf f).2 - (gridOf f).1) f.step := by
  have := ok.fl
  exact cdivw (by have := this.2.2.2.1; omega) (by have := this.2.2.2.2.1; omega)
theorem er_tupD {K : PySem.W.Frag} {σ : L2.St} {H : Hp} {tA : TA} {ds : List PyData} (h : EAs K tA σ H ds) (hl : ds.length ≤ 100000) : ER K (tTup tA) σ H (PyData.tuple ds) := fun H1 e Q q => er_tpl h hl H1 e Q fun v H2 e2 ⟨p, vs, h1, h2, h3⟩ => by
  subst h1
  exact q (.ref p) H2 e2 (.tup h2 (rels_dpE h3))
/-! ### the law's math -/
def k21o : PyData → Out
  | .int _ => .ret
  | _ => .own "InvalidField"
abbrev Odd4 (d : PyData) : Prop := d = Enc.enc (() : Unit) ∨ d = Enc.enc ("x" : Str) ∨ d = Enc.enc (repS ("u" : Str) 41) ∨ d = Enc.enc (5 : Int)
theorem k21_oko {K : PySem.W.Frag} {cs : List Str} {d : PyData} (h : Odd4 d) (hc : ("InvalidField" : Str) ∈ cs) : OkO K cs (k21o d) := by
  rcases h with rfl | rfl | rfl | rfl
  · exact hc
  · exact hc
  · exact hc
  · trivial
theorem k21_sh {d : PyData} (h : Odd4 d) : SeqAt.shaped d = true := by
  rcases h with rfl | rfl | rfl | rfl <;> decide +kernel
theorem k21_bad {f : Fld} (ok : FOk f) {d : PyData} (h : d ∈ ([Enc.enc (-1 : Int), Enc.enc (everyOf f), Enc.enc (() : Unit), Enc.enc (true : Bool), Enc.enc ("0" : Str)] : List PyData)) : isBetween d 0 (((gridOf f).2 - (gridOf f).1) / f.step) = false := by
  simp only [List.mem_cons, List.not_mem_nil, or_false] at h
  rcases h with rfl | rfl | rfl | rfl | rfl
  · rfl
  · show (decide (0 ≤ everyOf f) && decide (everyOf f ≤ ((gridOf f).2 - (gridOf f).1) / f.step)) = false
    rw [decide_eq_false (show ¬ everyOf f ≤ ((gridOf f).2 - (gridOf f).1) / f.step by unfold everyOf; omega), Bool.and_false]
  · rfl
  · rfl
  · rfl
theorem k21_inD {f : Fld} {d : PyData} (h : isBetween d f.low f.high = false) : inFld f d = false := by
  cases d with
  | int i =>
    show (isBetween (.int i) f.low f.high && isOn f i) = false
    rw [h]
    rfl
  | _ => rfl
theorem k21_row {d : PyData} (h : Odd4 d) : isRow d = false ∧ SZ d := by
  rcases h with rfl | rfl | rfl | rfl
  · exact ⟨rfl, sz_no fun w z => nomatch z⟩
  · exact ⟨by decide +kernel, sz_str (by decide +kernel)⟩
  · exact ⟨by decide +kernel, sz_str (by decide +kernel)⟩
  · exact ⟨rfl, sz_no fun w z => nomatch z⟩
theorem k21_f3 {d : PyData} (h : Odd4 d) (h5 : d ≠ Enc.enc (5 : Int)) : isField (.tuple [.int 0, .int 5, d, .int 0, .str "next", .str "stop", .int 10]) = false := by
  rcases h with rfl | rfl | rfl | rfl
  · rfl
  · decide +kernel
  · decide +kernel
  · exact absurd rfl h5
theorem k21_c1 {f g : Fld} (hl : g.low = f.low) (hh : g.high = f.high) {y : Option (Int × Sg)} (e : y = partOf f g) : (!decide (eqFV f g = y.isNone)) = false := by
  rw [e]
  unfold eqFV
  rw [hl, hh, decide_eq_true rfl, Bool.true_and, decide_eq_true rfl]
  rfl
theorem k21_idx {f : Fld} (ok : FOk f) : ((rng 0 (everyOf f).toNat).map fun i => (gridOf f).1 + i * f.step) = stepsL f := rfl
theorem every_pos {f : Fld} (ok : FOk f) : 1 ≤ everyOf f := by
  have hg : (gridOf f).1 ≤ (gridOf f).2 := ok.on
  have h0 := Int.ediv_nonneg (show 0 ≤ (gridOf f).2 - (gridOf f).1 by omega) (show 0 ≤ f.step by have := ok.fl.2.2.2.1; omega)
  unfold everyOf
  omega
theorem k21_good {f : Fld} (hf : FOk f) : EqT.good f := by
  obtain ⟨l0, lh, h1, s0, s1, b0, b1, off, ends, g0, g1, on⟩ := hf
  constructor
  · rcases off with z | z | z <;> rw [z] <;> (unfold strG; decide +kernel)
  · rcases ends with z | z | z <;> rw [z] <;> (unfold strG; decide +kernel)
theorem k21_ix {f : Fld} (ok : FOk f) {i : Int} (h : i ∈ rng 0 (everyOf f).toNat) : FOk f ∧ 0 ≤ i ∧ i ≤ ((gridOf f).2 - (gridOf f).1) / f.step := by
  have h1 := rng_mem.mp h
  have h2 := every_pos ok
  unfold everyOf at h1 h2
  exact ⟨ok, by omega, by omega⟩
theorem k21_in {f : Fld} (ok : FOk f) {v : Int} : inFld f (Enc.enc v) = decide (v ∈ stepsL f) := by
  have hs : 1 ≤ f.step := ok.fl.2.2.2.1
  have hg : (gridOf f).1 ≤ (gridOf f).2 := ok.on
  have g1 := div_abs (x := f.base - f.low) hs
  have hF : (gridOf f).1 = f.base - (f.base - f.low) / f.step * f.step := rfl
  have hT : (gridOf f).2 = f.base + (f.high - f.base) / f.step * f.step := rfl
  have e1 := Int.emod_add_mul_ediv (f.base - f.low) f.step
  have e2 := Int.emod_nonneg (f.base - f.low) (show f.step ≠ 0 by omega)
  have e3 := Int.emod_lt_of_pos (f.base - f.low) (show 0 < f.step by omega)
  have e4 := Int.emod_add_mul_ediv (f.high - f.base) f.step
  have e5 := Int.emod_nonneg (f.high - f.base) (show f.step ≠ 0 by omega)
  have e6 := Int.emod_lt_of_pos (f.high - f.base) (show 0 < f.step by omega)
  have hn := every_pos ok
  show ((decide (f.low ≤ v) && decide (v ≤ f.high)) && isOn f v) = _
  unfold isOn
  rw [Bool.eq_iff_iff]
  simp only [Bool.and_eq_true, decide_eq_true_eq]
  unfold stepsL
  rw [List.mem_map]
  have hd : (f.base - f.low) / f.step * f.step = f.step * ((f.base - f.low) / f.step) := Int.mul_comm _ _
  have hd2 : (f.high - f.base) / f.step * f.step = f.step * ((f.high - f.base) / f.step) := Int.mul_comm _ _
  have hdiff : (gridOf f).2 - (gridOf f).1 = f.step * ((f.high - f.base) / f.step + (f.base - f.low) / f.step) := by
    rw [hF, hT, hd, hd2, Int.mul_add]
    omega
  have hev : everyOf f = (f.high - f.base) / f.step + (f.base - f.low) / f.step + 1 := by
    unfold everyOf
    rw [hdiff, Int.mul_ediv_cancel_left _ (by omega)]
  constructor
  · rintro ⟨⟨h1, h2⟩, h3⟩
    have h4 := Int.emod_add_mul_ediv (v - f.base) f.step
    rw [h3] at h4
    refine ⟨(v - f.base) / f.step + (f.base - f.low) / f.step, rng_mem.mpr ?_, ?_⟩
    · rw [hev]
      have a1 : 0 ≤ (v - f.base) / f.step + (f.base - f.low) / f.step := by
        by_cases z : 0 ≤ (v - f.base) / f.step + (f.base - f.low) / f.step
        · exact z
        · have k := Int.mul_le_mul_of_nonneg_left (show (v - f.base) / f.step + (f.base - f.low) / f.step ≤ -1 by omega) (show 0 ≤ f.step by omega)
          rw [Int.mul_add] at k
          omega
      have a2 : (v - f.base) / f.step ≤ (f.high - f.base) / f.step := Int.ediv_le_ediv (by omega) (by omega)
      omega
    · unfold valI
      rw [hF, hd, Int.add_mul, Int.mul_comm ((v - f.base) / f.step), Int.mul_comm ((f.base - f.low) / f.step)]
      omega
  · rintro ⟨i, hi, rfl⟩
    have hi := rng_mem.mp hi
    rw [hev] at hi
    have b1 : 0 ≤ i * f.step := Int.mul_nonneg (by omega) (by omega)
    have b2 : i * f.step ≤ ((f.high - f.base) / f.step + (f.base - f.low) / f.step) * f.step := Int.mul_le_mul_of_nonneg_right (by omega) (by omega)
    rw [Int.mul_comm ((f.high - f.base) / f.step + _)] at b2
    unfold valI
    have gi := grid_in ok.fl
    refine ⟨⟨by omega, by omega⟩, ?_⟩
    rw [hF, show f.base - (f.base - f.low) / f.step * f.step + i * f.step - f.base = (i - (f.base - f.low) / f.step) * f.step by rw [Int.sub_mul]; omega]
    exact Int.mul_emod_left _ _
end Sf

namespace Sf
open PySem PySem.Spec PyProof.Rows L2 Evl
structure Top (K : PySem.W.Frag) (mg : Str → Option Value) : Prop where
  b_len : mg "len" = none
  b_abs : mg "abs" = none
  b_all : mg "all" = none
  b_any : mg "any" = none
  b_range : mg "range" = none
  b_int : mg "int" = none
  b_str : mg "str" = none
  b_tuple : mg "tuple" = none
  b_bool : mg "bool" = none
  b_isinstance : mg "isinstance" = none
  b_min : mg "min" = none
  b_max : mg "max" = none
  b_list : mg "list" = none
  b_sum : mg "sum" = none
  b_sorted : mg "sorted" = none
  b_set : mg "set" = none
  b_zip : mg "zip" = none
  b_enumerate : mg "enumerate" = none
  b_dict : mg "dict" = none
  x_InvalidField : ExcT K mg "InvalidField"
  x_InvalidValue : ExcT K mg "InvalidValue"
  x_InvalidRow : ExcT K mg "InvalidRow"
  x_InvalidIndex : ExcT K mg "InvalidIndex"
  x_Unlike : ExcT K mg "Unlike"
  E : ErrTop K mg errAl errCs
  k_Field : ClsT K mg "Field" ["parts"]
  i_Field : ClsI K (He.ga K "Field")
  g_MOST : ∃ t, mg "MOST" = some (.int 1000000000000 t)
  g_MOST_KEYS : ∃ t, mg "MOST_KEYS" = some (.int 40 t)
  g_KEYS : ∃ t, mg "KEYS" = some (.str "udUDhe" t)
  g_OFFS : ∃ a, mg "OFFS" = some (.ref a) ∧ ∀ H, SqT K H a [.str "add", .str "near", .str "next"]
  g_ENDS : ∃ a, mg "ENDS" = some (.ref a) ∧ ∀ H, SqT K H a [.str "round", .str "stay", .str "stop"]
  g_FEW : ∃ t, mg "FEW" = some (.int 400 t)
/-! the readings' own lines: ev (an expression), rl (what is known of a value), ex (heaps in a row), mc, dv (the sizes), pr (a premise) -/
local macro_rules | `(tactic| walk_at "ex") => `(tactic| first
  | assumption
  | exact Ex.refl _
  | (refine Ex.trans ?_ (by assumption); walk_at "ex"))
local macro_rules | `(tactic| walk_at "rl") => `(tactic| first
  | assumption
  | (refine Rep.mono ?_ (by assumption); walk_at "ex"))
local macro_rules | `(tactic| walk_at "mc") => `(tactic| first
  | exact Or.inl ⟨by omega, by omega⟩
  | exact Or.inr ⟨by omega, by omega⟩)
local macro_rules | `(tactic| walk_at "pr") => `(tactic| first
  | assumption
  | exact True.intro
  | (refine ⟨?_, ?_⟩ <;> walk_at "pr")
  | omega)
local macro_rules | `(tactic| walk_at "et") => `(tactic| first
  | ((with_reducible show @ET _ (tTest _) _ _ _); exact et_t (by walk_at "ev"))
  | ((with_reducible show @ET _ (tB _) _ _ _); exact et_b (by walk_at "ev"))
  | ((with_reducible show @ET _ (tAnd _ _) _ _ _); exact ett_and (by walk_at "et") (fun _ => by walk_at "et"))
  | ((with_reducible show @ET _ (tOr _ _) _ _ _); exact ett_or (by walk_at "et") (fun _ => by walk_at "et"))
  | ((with_reducible show @ET _ (tNot _) _ _ _); exact ett_not (by walk_at "et")))
local macro_rules | `(tactic| walk_at "evo") => `(tactic| first
  | ((with_reducible show @ER _ _ _ (tOp (rI0 fun i j => V.int (i + j)) _ _) _ _ _); exact er_add (by walk_at "ev") (by walk_at "ev"))
  | ((with_reducible show @ER _ _ _ (tOp (rI0 fun i j => V.int (i - j)) _ _) _ _ _); exact er_sub (by walk_at "ev") (by walk_at "ev"))
  | ((with_reducible show @ER _ _ _ (tOp (rI0 fun i j => V.bl (decide (i < j))) _ _) _ _ _); exact er_lt (by walk_at "ev") (by walk_at "ev"))
  | ((with_reducible show @ER _ _ _ (tOp (rI0 fun i j => V.bl (decide (i ≤ j))) _ _) _ _ _); exact er_le (by walk_at "ev") (by walk_at "ev"))
  | ((with_reducible show @ER _ _ _ (tOp (rI0 fun i j => V.bl (decide (j < i))) _ _) _ _ _); exact er_gt (by walk_at "ev") (by walk_at "ev"))
  | ((with_reducible show @ER _ _ _ (tOp (rI0 fun i j => V.bl (decide (j ≤ i))) _ _) _ _ _); exact er_ge (by walk_at "ev") (by walk_at "ev"))
  | ((with_reducible show @ER _ _ _ (tOp (rI CMul _) _ _) _ _ _); exact er_mul (by walk_at "ev") (by walk_at "ev") (by walk_at "mc"))
  | ((with_reducible show @ER _ _ _ (tOp (rI CDivW _) _ _) _ _ _); exact er_div (by walk_at "ev") (by walk_at "ev") (cdivw (by omega) (by omega)))
  | ((with_reducible show @ER _ _ _ (tOp (rI _ fun i j => V.int (i % j)) _ _) _ _ _); exact er_mod (by walk_at "ev") (by walk_at "ev") (by omega))
  | ((with_reducible show @ER _ _ _ (tOp (rI CPow _) _ _) _ _ _); exact er_pow (by walk_at "ev") (by walk_at "ev") (by decide))
  | ((with_reducible show @ER _ _ _ (tOp (rEq) _ _) _ _ _); first | exact er_eqI (by walk_at "ev") (by walk_at "ev") | exact er_eqS (by walk_at "ev") (by walk_at "ev") | exact er_eqB (by walk_at "ev") (by walk_at "ev"))
  | ((with_reducible show @ER _ _ _ (tOp (rNe) _ _) _ _ _); first | exact er_neI (by walk_at "ev") (by walk_at "ev") | exact er_neS (by walk_at "ev") (by walk_at "ev") | exact er_neB (by walk_at "ev") (by walk_at "ev"))
  | ((with_reducible show @ER _ _ _ (tOp (rIn _ false) _ _) _ _ _); first | exact er_inL (by walk_at "ev") (by walk_at "ev") | exact er_inT (by walk_at "ev") (by walk_at "ev"))
  | ((with_reducible show @ER _ _ _ (tOp (rIn _ true) _ _) _ _ _); exact er_ninL (by walk_at "ev") (by walk_at "ev"))
  | ((with_reducible show @ER _ _ _ (tOp (rNotInS) _ _) _ _ _); exact er_notInS (by walk_at "ev") (by walk_at "ev"))
  | ((with_reducible show @ER _ _ _ (tOp (rInS) _ _) _ _ _); exact er_inS (by walk_at "ev") (by walk_at "ev"))
  | ((with_reducible show @ER _ _ _ (tOp (rIxT _) _ (tC (V.int 0))) _ _ _); exact er_f0 (by walk_at "ev"))
  | ((with_reducible show @ER _ _ _ (tOp (rIxT _) _ (tC (V.int 1))) _ _ _); exact er_f1 (by walk_at "ev"))
  | ((with_reducible show @ER _ _ _ (tOp (rIxT _) _ (tC (V.int 2))) _ _ _); exact er_f2 (by walk_at "ev"))
  | ((with_reducible show @ER _ _ _ (tOp (rIxT _) _ (tC (V.int 3))) _ _ _); exact er_f3 (by walk_at "ev"))
  | ((with_reducible show @ER _ _ _ (tOp (rIxT _) _ (tC (V.int 4))) _ _ _); exact er_f4 (by walk_at "ev"))
  | ((with_reducible show @ER _ _ _ (tOp (rIxT _) _ (tC (V.int 5))) _ _ _); exact er_f5 (by walk_at "ev"))
  | ((with_reducible show @ER _ _ _ (tOp (rIxT _) _ (tC (V.int 6))) _ _ _); exact er_f6 (by walk_at "ev"))
  | ((with_reducible show @ER _ _ _ (tOp (rIxT _) _ (tC (V.int 0))) _ _ _); exact er_p0 (by walk_at "ev"))
  | ((with_reducible show @ER _ _ _ (tOp (rIxT _) _ (tC (V.int 1))) _ _ _); exact er_p1 (by walk_at "ev")))
local macro_rules | `(tactic| walk_at "nr") => `(tactic| first
  | (rw [between_enc (by omega)]; rfl)
  | (simp only [Bool.or_eq_false_iff, Bool.not_eq_false', Bool.not_eq_true', decide_eq_false_iff_not]; omega)
  | rfl)
local macro_rules | `(tactic| walk_at "sd") => `(tactic| first
  | assumption
  | exact True.intro
  | omega
  | exact FOk.fl (by assumption)
  | exact FOk.withEnds (by first | assumption | (constructor <;> decide)) (by first | assumption | decide)
  | exact FOk.withOff (by first | assumption | (constructor <;> decide)) (by first | assumption | decide)
  | exact FOk.withBoth (by first | assumption | (constructor <;> decide)) (by first | assumption | decide) (by first | assumption | decide)
  | exact FOk.litOff (by constructor <;> decide) (by assumption)
  | exact FOk.litEnds (by constructor <;> decide) (by assumption)
  | (show FOk _; constructor <;> decide)
  | exact rowOkB_ok (by decide)
  | (refine And.intro ?_ ?_ <;> walk_at "sd")
  | decide
  | (dsimp only; omega)
  | (intro _ _; walk_at "sd"))
local macro_rules | `(tactic| walk_at "ea") => `(tactic| first | exact eas_nil | exact eas_cons (by walk_at "ev") (by walk_at "ea"))
local macro_rules | `(tactic| walk_at "ev") => `(tactic| first
  | ((with_reducible show @ER _ _ _ (tVar _) _ _ _); first | exact er_varI rfl | exact er_varB rfl | exact er_varS rfl | exact er_var rfl (by walk_at "rl") | exact er_sg (er_var rfl (by walk_at "rl")))
  | ((with_reducible show @ER _ _ _ (tC _) _ _ _); first | exact er_int | exact er_str | exact er_bl | exact er_ref (by walk_at "rl"))
  | ((with_reducible show @ER _ _ _ (tOp _ _ _) _ _ _); walk_at "evo")
  | ((with_reducible show @ER _ _ _ (tUn _ _) _ _ _); exact er_neg (by walk_at "ev"))
  | ((with_reducible show @ER _ _ _ (tChain _ _ _ _ _) _ _ _); exact er_chain (by walk_at "ev") (by walk_at "ev") (by walk_at "ev"))
  | ((with_reducible show @ER _ _ _ (tCall _ _ _ (tCons _ tNil)) _ _ _); exact er_call1 (by walk_at "ev") (by walk_at "pr"))
  | ((with_reducible show @ER _ _ _ (tCall _ _ _ (tCons _ (tCons _ tNil))) _ _ _); exact er_call2 (by walk_at "ev") (by walk_at "ev") (by walk_at "pr"))
  | ((with_reducible show @ER _ _ _ (tCall _ _ _ (tCons _ (tCons _ (tCons _ tNil)))) _ _ _); exact er_call3 (by walk_at "ev") (by walk_at "ev") (by walk_at "ev") (by walk_at "pr"))
  | ((with_reducible show @ER _ _ _ (tCall _ _ _ (tCons _ (tCons _ (tCons _ (tCons _ tNil))))) _ _ _); exact er_call4 (by walk_at "ev") (by walk_at "ev") (by walk_at "ev") (by walk_at "ev") (by walk_at "pr"))
  | ((with_reducible show @ER _ _ _ (tAndV _ _) _ _ _); exact er_and (by walk_at "ev") (fun _ => by walk_at "ev"))
  | ((with_reducible show @ER _ _ _ (tOrV _ _) _ _ _); exact er_or (by walk_at "ev") (fun _ => by walk_at "ev"))
  | ((with_reducible show @ER _ _ _ (tNotV _) _ _ _); exact er_not (by walk_at "ev"))
  | ((with_reducible show @ER _ _ _ (tIf _ _ _) _ _ _); exact er_if (by walk_at "et") (fun _ => by walk_at "ev") (fun _ => by walk_at "ev"))
  | ((with_reducible show @ER _ _ _ (tTup (tCons _ (tCons _ tNil))) _ _ _); exact er_tup2 (by walk_at "ev") (by walk_at "ev"))
  | ((with_reducible show @ER _ _ _ (tTup (tCons _ (tCons _ (tCons _ tNil)))) _ _ _); exact er_tup3 (by walk_at "ev") (by walk_at "ev") (by walk_at "ev"))
  | ((with_reducible show @ER _ _ _ (tCB rAbs _) _ _ _); exact er_abs (by walk_at "ev"))
  | ((with_reducible show @ER _ _ _ (tCB rMax2' _) _ _ _); exact er_max2 (by walk_at "ev") (by walk_at "ev"))
  | ((with_reducible show @ER _ _ _ (tCB rMin2' _) _ _ _); exact er_min2 (by walk_at "ev") (by walk_at "ev"))
  | ((with_reducible show @ER _ _ _ (tCB rInt1 _) _ _ _); first | exact er_int1 (by walk_at "ev") | exact er_intB (by walk_at "ev"))
  | ((with_reducible show @ER _ _ _ (tCB (rAll _) _) _ _ _); exact er_all (by walk_at "ev"))
  | ((with_reducible show @ER _ _ _ (tCB (rAny _) _) _ _ _); exact er_any (by walk_at "ev"))
  | ((with_reducible show @ER _ _ _ (tCB (rSum _) _) _ _ _); exact er_sum (by walk_at "ev"))
  | ((with_reducible show @ER _ _ _ (tCB (rLenQ _) _) _ _ _); first | exact er_lenL (by walk_at "ev") | exact er_lenT (by walk_at "ev"))
  | ((with_reducible show @ER _ _ _ (tLst _) _ _ _); exact er_lst (by walk_at "ea") (Nat.le_of_ble_eq_true rfl))
  | ((with_reducible show @ER _ _ _ (tTup (tCons _ (tCons _ (tCons _ (tCons _ (tCons _ (tCons _ (tCons _ tNil)))))))) _ _ _); exact er_mkF (by walk_at "ev") (by walk_at "ev") (by walk_at "ev") (by walk_at "ev") (by walk_at "ev") (by walk_at "ev") (by walk_at "ev")))
theorem sc_is_between : FnScope ["thing", "low", "high"] ["thing", "low", "high"] (defScope s_is_between) := ⟨rfl, rfl, rfl, by decide +kernel, rfl, by decide +kernel, by decide +kernel⟩
abbrev SP_is_between (K : PySem.W.Frag) : Sp := sp3 (α := PyData) (β := Int) (γ := Int) (δ := Bool) K (fun _ _ _ => True) (isBetween)
theorem ok_is_between {P : Program} {w : World} {K : PySem.W.Frag} {mg : Str → Option Value} {base : Heap} (T : Top K mg) {f : Addr} {fd : FuncData} (F : FnP K "is_between" s_is_between f fd) : FnOk P w K mg base CX0 1 f fd ["thing", "low", "high"] (SP_is_between K) := by
  refine ok3 F sc_is_between rfl (fun x0 x1 x2 => [some x0, some x1, some x2]) (fun _ _ _ => rfl) (fun H Q x0 x1 x2 a0 a1 a2 h0 h1 h2 hp q cdv A outer s E hr => ⟨_, PSs.nox (pss_one (ps_ret (pe_and (pe_callB call_isi (by rfl) T.b_isinstance (by decide +kernel) (pa_cons (pv 0) (pa_cons (pe_bltn (v := .ty "int") (by rfl) T.b_int (by decide +kernel) rfl) pa_nil))) (pe_and (pe_not (pe_callB call_isi (by rfl) T.b_isinstance (by decide +kernel) (pa_cons (pv 0) (pa_cons (pe_bltn (v := .ty "bool") (by rfl) T.b_bool (by decide +kernel) rfl) pa_nil)))) (pe_one (pe_chain op_le op_le (pv 1) (pv 0) (pv 2))))))), ?_⟩)
  cases h1
  cases h2
  cases a0 with
  | int i =>
    cases h0
    refine l_ret (α := Bool) K (er_and (er_isi (er_enc (α := Int) (by walk_at "ev")) rfl) (fun _ => er_and (er_not (er_isi (er_enc (α := Int) (by walk_at "ev")) rfl)) (fun _ => by walk_at "ev"))) (fun v H1 e1 r => ?_)
    exact q v H1 e1 r
  | bool b =>
    exact l_ret (α := Bool) K (er_and (er_isi (er_var rfl h0) rfl) (fun _ => er_and (b := false) (er_not (er_isi (er_var rfl h0) rfl)) (fun z => (by cases z)))) (fun v H1 e1 r => q v H1 e1 r)
  | _ => exact l_ret (α := Bool) K (er_and (b := false) (er_isi (er_var rfl h0) rfl) (fun z => (by cases z))) (fun v H1 e1 r => q v H1 e1 r)
theorem sc_is_row : FnScope ["thing", "key"] ["thing"] (defScope s_is_row) := ⟨rfl, rfl, rfl, by decide +kernel, rfl, by decide +kernel, by decide +kernel⟩
abbrev SP_is_row (K : PySem.W.Frag) : Sp := sp1 (α := PyData) (δ := Bool) K (fun d => ∀ z, d = .str z → z.length ≤ 100000) (isRow)
theorem ok_is_row {P : Program} {w : World} {K : PySem.W.Frag} {mg : Str → Option Value} {base : Heap} (T : Top K mg) {f : Addr} {fd : FuncData} (F : FnP K "is_row" s_is_row f fd) : FnOk P w K mg base CX0 1 f fd ["thing"] (SP_is_row K) := by
  obtain ⟨tk_KEYS, g_KEYS⟩ := T.g_KEYS
  obtain ⟨tk_MOST_KEYS, g_MOST_KEYS⟩ := T.g_MOST_KEYS
  refine ok1 F sc_is_row rfl (fun x0 => [some x0, none]) (fun _ => rfl) (fun H Q x0 a0 h0 hp q cdv A outer s E hr => ⟨_, PSs.nox (pss_one (ps_ret (pe_and (pe_callB call_isi (by rfl) T.b_isinstance (by decide +kernel) (pa_cons (pv 0) (pa_cons (pe_bltn (v := .ty "str") (by rfl) T.b_str (by decide +kernel) rfl) pa_nil))) (pe_and (pe_cmpR op_le (pe_callB call_len_str (by rfl) T.b_len (by decide +kernel) (pa_cons (pv 0) pa_nil)) (pe_glob (v := .int 40) (by rfl) g_MOST_KEYS ⟨_, rfl⟩) (nomark _)) (pe_one (pe_callB (cr_all rfl) (by rfl) T.b_all (by decide +kernel) (pa_cons (pe_lc (own := [("key", 1)]) (g := gName 1) (tt := tYes)  rfl sc_is_row.nd (pi_str (pv 0)) (blkOk_by (own := [("key", 1)]) (N := ["thing", "key"]) (sc := defScope s_is_row) (by decide +kernel)) (fun _ _ _ _ _ => (pg_name (i := 1) sc_is_row.nd rfl (.inl rfl))) (fun _ _ _ _ _ => pts_nil) (fun _ _ _ _ _ => (pe_cmpR op_inS (pv 1) (pe_glob (v := .str "udUDhe") (by rfl) g_KEYS ⟨_, rfl⟩) rfl))) pa_nil))))))), ?_⟩)
  cases a0 with
  | str z =>
    cases h0
    have hz := hp z rfl
    have hlc : z.cps.toList.length ≤ 40 → ∀ H1, Ex H H1 → ER K (tLc (iStr (tVar 0)) (gName 1) tYes (tOp rInS (tVar 1) (tC (.str "udUDhe"))) [1]) [some (.str z), none] H1 ((sgs z).map fun s => decide (s.c ∈ ("udUDhe" : Str).cps.toList)) := by
      intro hl H1 e1
      refine er_lcY _ (wk_str (er_varS rfl)) (by simp only [sgs, List.length_map]; omega) ?_
      intro s v H2 hs e2 r Q' q'
      exact gn_ok (s1 := fun v => [some (.str z), some v]) rfl (.s .z) rfl (fun hw => q' _ H2 (Ex.refl _) hw (er_inS (er_var rfl r) er_str))
    have hle : (z.length : Int) ≤ 40 ↔ z.cps.toList.length ≤ 40 := by
      show ((z.cps.size : Nat) : Int) ≤ 40 ↔ _
      simp only [Array.length_toList]
      omega
    refine l_ret (α := Bool) K (er_and (er_isi (er_enc (α := Str) (er_varS rfl)) rfl) (fun _ => er_and (er_le (er_lenS (er_varS rfl) hz) er_int) (fun hl => er_all (hlc (hle.mp (of_decide_eq_true hl)) _ (Ex.refl _))))) (fun v H1 e1 r => q v H1 e1 ?_)
    refine (congrArg (Rep.rel K H1 v) ?_).mp r
    simp only [isRow, Bool.true_and, hle, sgs, List.map_map, List.all_map]
    congr 1
    refine List.all_congr rfl fun c => ?_
    simp only [Function.comp, id, keys_mem]
  | _ => exact l_ret (α := Bool) K (er_and (b := false) (er_isi (er_var rfl h0) rfl) (fun z => (by cases z))) (fun v H1 e1 r => q v H1 e1 r)
theorem sc_L_source : FnScope ["_law_script", "_law_index", "_law_cell"] ["_law_script", "_law_index"] (defScope s_L_source) := ⟨rfl, rfl, rfl, by decide +kernel, rfl, by decide +kernel, by decide +kernel⟩
abbrev SP_L_source (K : PySem.W.Frag) : Sp := SP_source K
theorem ok_L_source {P : Program} {w : World} {K : PySem.W.Frag} {mg : Str → Option Value} {base : Heap} (T : Top K mg) {f : Addr} {fd : FuncData} (F : FnP K "_law_source" s_L_source f fd) : FnOk P w K mg base CX0 1 f fd ["_law_script", "_law_index"] (SP_L_source K) := by
  refine source_of (F.ok sc_L_source (sp := spSource K) ?_ (fun cdv A outer s H vs Q E hr hs => ?_))
  · rintro vs H Q E ⟨a, ns, n, rfl, _⟩
    rfl
  obtain ⟨a, ns, n, rfl, hs, n0, n1, q⟩ := hs
  refine ⟨_, PSs.nox (pss_cons (ps_set (i := 2) sc_L_source.nd rfl (.inl rfl) pe_int)
      (pss_cons (ps_if (pt_cmpR op_lt (pv 1) (pe_callB call_len_seq (by rfl) T.b_len (by decide +kernel) (pa_cons (pv 0) pa_nil)) (nomark _)) (pss_one (ps_set (i := 2) sc_L_source.nd rfl (.inl rfl) (pe_callB call_abs (by rfl) T.b_abs (by decide +kernel) (pa_cons (pe_ix ix_list (pv 0) (pv 1) (fun _ _ => rfl)) pa_nil)))) pss_nil)
      (pss_cons (ps_if (pt_cmpR op_lt (pv 2) (pe_op op_pow pe_int pe_int) (nomark _)) (pss_one (ps_ret (pe_lst (pa_cons pe_int (pa_cons (pe_op op_add pe_int (pe_op op_mod (pe_callTy call_int1 (by rfl) T.b_int (by decide +kernel) (pa_cons (pe_op op_add (pe_op op_mul (pv 2) pe_int) (pe_op op_mul pe_int (pv 1))) pa_nil)) pe_int)) pa_nil))))) pss_nil)
      (pss_one (ps_ret (pe_lst (pa_cons (pv 2) (pa_cons (pe_op op_add pe_int (pe_op op_mod (pe_callTy call_int1 (by rfl) T.b_int (by decide +kernel) (pa_cons (pe_op op_add (pv 2) (pv 1)) pa_nil)) pe_int)) pa_nil)))))))), ?_⟩
  show (_ : TS) _ [some (V.ref a), some (V.int n), none] H
  have hpow : ((10 : Int) ^ (18 : Int).toNat) = 1000000000000000000 := by decide
  have fin : ∀ (c : Int) H', Ex H H' → (tSeq (tIfS (tTest (tOp (rI0 fun i j => .bl (decide (i < j))) (tVar 2) (tOp (rI CPow fun i j => .int (i ^ j.toNat)) (tC (.int 10)) (tC (.int 18)))))
      (tRet (tLst (tCons (tC (.int 0)) (tCons (tOp (rI0 fun i j => .int (i + j)) (tC (.int 1)) (tOp (rI (fun _ j => 0 < j) fun i j => .int (i % j)) (tCB rInt1 (tCons (tOp (rI0 fun i j => .int (i + j)) (tOp (rI CMul fun i j => .int (i * j)) (tVar 2) (tC (.int 7919))) (tOp (rI CMul fun i j => .int (i * j)) (tC (.int 104729)) (tVar 1))) tNil)) (tC (.int 2147483646)))) tNil)))) tNext)
      (tRet (tLst (tCons (tVar 2) (tCons (tOp (rI0 fun i j => .int (i + j)) (tC (.int 1)) (tOp (rI (fun _ j => 0 < j) fun i j => .int (i % j)) (tCB rInt1 (tCons (tOp (rI0 fun i j => .int (i + j)) (tVar 2) (tVar 1)) tNil)) (tC (.int 2147483646)))) tNil))))) ({ nx := fun _ H' => Q .non H', rt := Q } : Ends) [some (V.ref a), some (V.int n), some (V.int c)] H' := by
    intro c H' e
    have m0 : ∀ z : Int, 0 ≤ 1 + z % 2147483646 ∧ 1 + z % 2147483646 < 2147483647 := fun z => by
      have h1 := Int.emod_nonneg z (show (2147483646 : Int) ≠ 0 by decide)
      have h2 := Int.emod_lt_of_pos z (show (0 : Int) < 2147483646 by decide)
      omega
    refine q_if0 K (et_t (er_lt (er_varI rfl) (er_powc ⟨by decide, by decide, by decide⟩ hpow))) (fun c1 H1 e1 => ?_) (fun c1 H1 e1 => ?_)
    · have ev : ER K (tOp (rI0 fun i j => .int (i + j)) (tC (.int 1)) (tOp (rI (fun _ j => 0 < j) fun i j => .int (i % j)) (tCB rInt1 (tCons (tOp (rI0 fun i j => .int (i + j)) (tOp (rI CMul fun i j => .int (i * j)) (tVar 2) (tC (.int 7919))) (tOp (rI CMul fun i j => .int (i * j)) (tC (.int 104729)) (tVar 1))) tNil)) (tC (.int 2147483646)))) [some (V.ref a), some (V.int n), some (V.int c)] H1 (1 + (c * 7919 + 104729 * n) % 2147483646) :=
        er_add er_int (er_mod (er_int1 (er_add (er_mul (er_varI rfl) er_int (.inr ⟨by decide, by decide⟩)) (er_mul er_int (er_varI rfl) (.inl ⟨by decide, by decide⟩)))) er_int (by decide))
      refine ev H1 (Ex.refl _) _ fun v H2 e2 r => ?_
      cases r
      refine ⟨sz_of (by show 2 ≤ 100000; decide), fun p hp => q p 0 _ _ (fresh_back ((e.trans e1).trans e2) hp) (((e.trans e1).trans e2).trans (Ex.new hp)) (m0 _).1 (m0 _).2 upd_same⟩
    · refine ⟨_, rfl, ?_⟩
      have ev : ER K (tOp (rI0 fun i j => .int (i + j)) (tC (.int 1)) (tOp (rI (fun _ j => 0 < j) fun i j => .int (i % j)) (tCB rInt1 (tCons (tOp (rI0 fun i j => .int (i + j)) (tVar 2) (tVar 1)) tNil)) (tC (.int 2147483646)))) [some (V.ref a), some (V.int n), some (V.int c)] H1 (1 + (c + n) % 2147483646) :=
        er_add er_int (er_mod (er_int1 (er_add (er_varI rfl) (er_varI rfl))) er_int (by decide))
      refine ev H1 (Ex.refl _) _ fun v H2 e2 r => ?_
      cases r
      refine ⟨sz_of (by show 2 ≤ 100000; decide), fun p hp => q p c _ _ (fresh_back ((e.trans e1).trans e2) hp) (((e.trans e1).trans e2).trans (Ex.new hp)) (m0 _).1 (m0 _).2 upd_same⟩
  refine q_setI K er_int (fun _ => .s (.s .z)) (fun H1 e1 => ?_)
  have hl : ER K (tCB (rLenQ K) (tCons (tVar 0) tNil)) [some (V.ref a), some (V.int n), some (V.int 0)] H1 (ns.length : Int) := fun H2 e2 Q q => ⟨.ref a, rfl, a, ns.map V.int, rfl, .inl (ex_l (e1.trans e2) hs), by
    rw [List.length_map]
    exact q _ H2 (Ex.refl _) rfl⟩
  refine q_if0 K (et_t (er_lt (er_varI rfl) hl)) (fun c1 H2 e2 => ?_) (fun c1 H2 e2 => fin 0 H2 (e1.trans e2))
  have hlt : n.toNat < ns.length := by
    simp only [decide_eq_true_eq] at c1
    omega
  have hat : atI (ns.map V.int) n = some (.int ns[n.toNat]) := by
    refine at_of (show n = (n.toNat : Int) by omega) ?_
    rw [List.getElem?_map, List.getElem?_eq_getElem hlt]
    rfl
  have hx : ER K (tOp (rIxL K) (tVar 0) (tVar 1)) [some (V.ref a), some (V.int n), some (V.int 0)] H2 (ns[n.toNat]) := fun H3 e3 Q q => ⟨.ref a, rfl, .int n, rfl, a, _, n, _, rfl, rfl, ex_l ((e1.trans e2).trans e3) hs, hat, q _ H3 (Ex.refl _) rfl⟩
  refine l_set (α := Int) K (er_abs hx) (fun _ => .s (.s .z)) (fun v H3 e3 r => ?_)
  cases r
  exact fin _ H3 ((e1.trans e2).trans e3)
theorem sc_L_draw : FnScope ["_law_source_here", "_law_size", "_law_drawn"] ["_law_source_here", "_law_size"] (defScope s_L_draw) := ⟨rfl, rfl, rfl, by decide +kernel, rfl, by decide +kernel, by decide +kernel⟩
abbrev SP_L_draw (K : PySem.W.Frag) : Sp := SP_draw K
theorem ok_L_draw {P : Program} {w : World} {K : PySem.W.Frag} {mg : Str → Option Value} {base : Heap} (T : Top K mg) {f : Addr} {fd : FuncData} (F : FnP K "_law_draw" s_L_draw f fd) : FnOk P w K mg base CX0 1 f fd ["_law_source_here", "_law_size"] (SP_L_draw K) := by
  refine draw_of (F.ok sc_L_draw (sp := spDraw) ?_ (fun cdv A outer s H vs Q E hr hs => ?_)) rfl
  · rintro vs H Q E ⟨S, x, y, n, rfl, _⟩
    rfl
  obtain ⟨S, x, y, n, rfl, hS, y0, y1, n0, n1, q⟩ := hs
  refine ⟨_, PSs.nox (pss_cons (ps_if (pt_cmpR op_gt (pe_ix ix_list (pv 0) pe_int (fun _ _ => rfl)) pe_int (nomark _)) (pss_cons (ps_set (i := 2) sc_L_draw.nd rfl (.inl rfl) (pe_op op_mod (pe_callTy call_int1 (by rfl) T.b_int (by decide +kernel) (pa_cons (pe_ix ix_list (pv 0) pe_int (fun _ _ => rfl)) pa_nil)) (pv 1)))
      (pss_cons (ps_asg (pe_op op_fdivW (pe_ix ix_list (pv 0) pe_int (fun _ _ => rfl)) (pv 1)) (pg_sub (pv 0) pe_int set_list))
      (pss_one (ps_ret (pv 2))))) pss_nil)
      (pss_cons (ps_asg (pe_op op_mod (pe_callTy call_int1 (by rfl) T.b_int (by decide +kernel) (pa_cons (pe_op op_mul (pe_ix ix_list (pv 0) pe_int (fun _ _ => rfl)) pe_int) pa_nil)) pe_int) (pg_sub (pv 0) pe_int set_list))
      (pss_one (ps_ret (pe_op op_mod (pe_callTy call_int1 (by rfl) T.b_int (by decide +kernel) (pa_cons (pe_op op_fdivW (pe_op op_mod (pe_callTy call_int1 (by rfl) T.b_int (by decide +kernel) (pa_cons (pe_op op_mul (pe_ix ix_list (pv 0) pe_int (fun _ _ => rfl)) (pe_ix ix_list (pv 0) pe_int (fun _ _ => rfl))) pa_nil)) pe_int) pe_int) pa_nil)) (pv 1)))))), ?_⟩
  show (_ : TS) _ [some (V.ref S), some (V.int n), none] H
  have rl : ∀ x y H', H' S = some (.lst [V.int x, V.int y]) → Rep.rel K H' (V.ref S) [x, y] := fun x y H' h => ⟨S, [.int x, .int y], rfl, h, .cons rfl (.cons rfl .nil)⟩
  have m1 : ∀ z : Int, 0 ≤ z % n ∧ z % n < n := fun z => ⟨Int.emod_nonneg z (by omega), Int.emod_lt_of_pos z (by omega)⟩
  refine q_if0 K (et_t (er_gt (er_ixL (er_var rfl (rl x y H hS)) er_int rfl) er_int)) (fun c1 H1 e1 => ?_) (fun c1 H1 e1 => ?_)
  · refine q_setI K (er_mod (er_int1 (er_ixL (er_var rfl (rl x y H1 (e1 _ _ hS))) er_int rfl)) (er_varI rfl) (by omega)) (fun _ => .s (.s .z)) (fun H2 e2 => ?_)
    have ev : ER K (tOp (rI CDivW fun i j => .int (i / j)) (tOp (rIxL K) (tVar 0) (tC (.int 0))) (tVar 1)) [some (V.ref S), some (V.int n), some (V.int (x % n))] H2 (x / n) :=
      er_div (er_ixL (er_var rfl (rl x y H2 (e2 _ _ (e1 _ _ hS)))) er_int rfl) (er_varI rfl) (cdivw (by omega) (by omega))
    refine ev H2 (Ex.refl _) _ fun v H3 e3 r => ?_
    cases r
    have hS3 := e3 _ _ (e2 _ _ (e1 _ _ hS))
    refine ⟨.ref S, rfl, S, _, 0, 0, rfl, rfl, hS3, rfl, ?_⟩
    refine ⟨_, rfl, q (x % n) (x / n) y _ (m1 x).1 (m1 x).2 y0 y1 (fun a o ha h => ?_) upd_same⟩
    rw [upd_ne ha]
    exact e3 _ _ (e2 _ _ (e1 _ _ h))
  · have ev : ER K (tOp (rI (fun _ j => 0 < j) fun i j => .int (i % j)) (tCB rInt1 (tCons (tOp (rI CMul fun i j => .int (i * j)) (tOp (rIxL K) (tVar 0) (tC (.int 1))) (tC (.int 48271))) tNil)) (tC (.int 2147483647))) [some (V.ref S), some (V.int n), none] H1 (y * 48271 % 2147483647) :=
      er_mod (er_int1 (er_mul (er_ixL (er_var rfl (rl x y H1 (e1 _ _ hS))) er_int rfl) er_int (.inr ⟨by decide, by decide⟩))) er_int (by decide)
    refine ev H1 (Ex.refl _) _ fun v H3 e3 r => ?_
    cases r
    have hS3 := e3 _ _ (e1 _ _ hS)
    refine ⟨.ref S, rfl, S, _, 1, 1, rfl, rfl, hS3, rfl, ?_⟩
    have z0 := Int.emod_nonneg (y * 48271) (show (2147483647 : Int) ≠ 0 by decide)
    have z1 := Int.emod_lt_of_pos (y * 48271) (show (0 : Int) < 2147483647 by decide)
    generalize y * 48271 % 2147483647 = z at z0 z1
    have hS4 : (upd H3 S (.lst ([V.int x, V.int y].set 1 (V.int z)))) S = some (.lst [V.int x, V.int z]) := upd_same
    have hr4 := rl x z _ hS4
    refine l_ret (α := Int) K (er_mod (er_int1 (er_div (er_mod (er_int1 (er_mul (er_ixL (er_var rfl hr4) er_int rfl) (er_ixL (er_var rfl hr4) er_int rfl) (.inl ⟨by omega, by omega⟩))) er_int (by decide)) er_int (cdivw (by decide) (by decide)))) (er_varI rfl) (by omega)) (fun v H5 e5 r => ?_)
    cases r
    refine q _ x z H5 (m1 _).1 (m1 _).2 z0 z1 (fun a o ha h => ?_) (e5 _ _ hS4)
    refine e5 _ _ ?_
    rw [upd_ne ha]
    exact e3 _ _ (e1 _ _ h)
theorem sc_L_choice : FnScope ["_law_source_here", "_law_items"] ["_law_source_here", "_law_items"] (defScope s_L_choice) := ⟨rfl, rfl, rfl, by decide +kernel, rfl, by decide +kernel, by decide +kernel⟩
abbrev SP_L_choice (K : PySem.W.Frag) : Sp := SP_choice K
theorem ok_L_choice {P : Program} {w : World} {K : PySem.W.Frag} {mg : Str → Option Value} {base : Heap} (T : Top K mg) {f_L_draw : Addr} {fd_L_draw : FuncData} (C_L_draw : Cal P w K mg base CX0 1 "_law_draw" ["_law_source_here", "_law_size"] (SP_L_draw K) f_L_draw fd_L_draw) {f : Addr} {fd : FuncData} (F : FnP K "_law_choice" s_L_choice f fd) : FnOk P w K mg base CX0 2 f fd ["_law_source_here", "_law_items"] (SP_L_choice K) := by
  refine F.ok sc_L_choice (fun vs H Q E hs => ?_) (fun cdv A outer s H vs Q E hr hs => ?_)
  · obtain ⟨v, l, xs, rfl, _⟩ := hs
    rfl
  obtain ⟨v, l, xs, rfl, hS, hl, l1, l2, q⟩ := hs
  refine ⟨_, PSs.nox (pss_one (ps_ret (pe_ix ix_list (pv 1) (pe_call C_L_draw.ok (hr.mono (by decide)) (by rfl) C_L_draw.mg C_L_draw.kp C_L_draw.bd .nil pass0 (pa_cons (pv 0) (pa_cons (pe_callB call_len_seq (by rfl) T.b_len (by decide +kernel) (pa_cons (pv 1) pa_nil)) pa_nil))) (fun _ _ => rfl)))), ?_⟩
  show (_ : TS) _ [some v, some (V.ref l)] H
  have hlen : EN K (tCB (rLenQ K) (tCons (tVar 1) tNil)) [some v, some (V.ref l)] H (fun n : Int => n = (xs.length : Int)) := fun H2 e2 Q q => ⟨.ref l, rfl, l, xs, rfl, .inl (sq_of (e2 _ _ hl)), q _ _ H2 rfl (Ex.refl _) rfl⟩
  have hd := en_draw (K := K) (E := E0) (P := fun d => 0 ≤ d ∧ d < (xs.length : Int)) (er_var (n := 0) rfl hS) hlen (fun n hn => by omega) (fun n d hn d0 d1 => ⟨d0, by omega⟩)
  refine ⟨.ref l, rfl, ?_⟩
  refine hd H (Ex.refl _) _ fun d v2 H2 ⟨d0, d1⟩ e2 r => ?_
  cases r
  have hlt : d.toNat < xs.length := by omega
  refine ⟨l, xs, d, xs[d.toNat], rfl, rfl, sq_of (e2 _ _ hl), ?_, q _ H2 (List.getElem_mem hlt) e2⟩
  exact at_of (show d = (d.toNat : Int) by omega) (List.getElem?_eq_getElem hlt)
theorem sc_L_field : FnScope ["_law_source_here", "_law_wide", "_law_step", "_law_low", "_law_more", "_law_high", "_law_inside", "_law_base", "_law_first", "_law_big", "_law_off", "_law_ends"] ["_law_source_here", "_law_wide"] (defScope s_L_field) := ⟨rfl, rfl, rfl, by decide +kernel, rfl, by decide +kernel, by decide +kernel⟩
abbrev SP_L_field (K : PySem.W.Frag) : Sp := spn2 (α := Src) (β := Int) (δ := Fld) K (fun _ w => 1 ≤ w ∧ w ≤ 1000000000000) (fun _ w f => FieldPost w f)
theorem ok_L_field {P : Program} {w : World} {K : PySem.W.Frag} {mg : Str → Option Value} {base : Heap} (T : Top K mg) {f_L_draw : Addr} {fd_L_draw : FuncData} (C_L_draw : Cal P w K mg base CX0 1 "_law_draw" ["_law_source_here", "_law_size"] (SP_L_draw K) f_L_draw fd_L_draw) {f_L_choice : Addr} {fd_L_choice : FuncData} (C_L_choice : Cal P w K mg base CX0 2 "_law_choice" ["_law_source_here", "_law_items"] (SP_L_choice K) f_L_choice fd_L_choice) {f : Addr} {fd : FuncData} (F : FnP K "_law_field" s_L_field f fd) : FnOk P w K mg base CX0 3 f fd ["_law_source_here", "_law_wide"] (SP_L_field K) := by
  refine okn2 F sc_L_field rfl (fun x0 x1 => [some x0, some x1, none, none, none, none, none, none, none, none, none, none]) (fun _ _ => rfl) (fun H Q x0 x1 a0 wide h0 h1 hp q cdv A outer s E hr => ⟨_, PSs.nox (pss_cons (ps_set (i := 2) sc_L_field.nd rfl (.inl rfl) (pe_call C_L_choice.ok (hr.mono (by decide)) (by rfl) C_L_choice.mg C_L_choice.kp C_L_choice.bd .nil pass0 (pa_cons (pv 0) (pa_cons (pe_lst (pa_cons pe_int (pa_cons pe_int (pa_cons pe_int (pa_cons pe_int (pa_cons pe_int (pa_cons (pe_op op_add pe_int (pe_call C_L_draw.ok (hr.mono (by decide)) (by rfl) C_L_draw.mg C_L_draw.kp C_L_draw.bd .nil pass0 (pa_cons (pv 0) (pa_cons pe_int pa_nil)))) pa_nil))))))) pa_nil))))
      (pss_cons (ps_if (PW.pt (pw_and (pt_cmpR op_gt (pv 1) pe_int (nomark _)) (pw_and1 (pt_cmpR op_eq (pe_call C_L_draw.ok (hr.mono (by decide)) (by rfl) C_L_draw.mg C_L_draw.kp C_L_draw.bd .nil pass0 (pa_cons (pv 0) (pa_cons pe_int pa_nil))) pe_int (nomark _))))) (pss_one (ps_set (i := 2) sc_L_field.nd rfl (.inl rfl) (pe_op op_add pe_int (pe_call C_L_draw.ok (hr.mono (by decide)) (by rfl) C_L_draw.mg C_L_draw.kp C_L_draw.bd .nil pass0 (pa_cons (pv 0) (pa_cons (pe_op op_fdivW (pv 1) pe_int) pa_nil)))))) pss_nil)
      (pss_cons (ps_set (i := 3) sc_L_field.nd rfl (.inl rfl) (pe_call C_L_choice.ok (hr.mono (by decide)) (by rfl) C_L_choice.mg C_L_choice.kp C_L_choice.bd .nil pass0 (pa_cons (pv 0) (pa_cons (pe_lst (pa_cons pe_int (pa_cons pe_int (pa_cons (pe_un un_neg pe_int) (pa_cons (pe_op op_sub (pe_call C_L_draw.ok (hr.mono (by decide)) (by rfl) C_L_draw.mg C_L_draw.kp C_L_draw.bd .nil pass0 (pa_cons (pv 0) (pa_cons pe_int pa_nil))) pe_int) pa_nil))))) pa_nil))))
      (pss_cons (ps_set (i := 4) sc_L_field.nd rfl (.inl rfl) (pe_lst (pa_cons (pv 2) (pa_cons (pe_op op_mul pe_int (pv 2)) (pa_cons (pe_op op_add (pv 2) pe_int) (pa_cons (pe_op op_add pe_int (pe_call C_L_draw.ok (hr.mono (by decide)) (by rfl) C_L_draw.mg C_L_draw.kp C_L_draw.bd .nil pass0 (pa_cons (pv 0) (pa_cons (pe_op op_mul pe_int (pv 2)) pa_nil)))) (pa_cons (pe_op op_add pe_int (pe_call C_L_draw.ok (hr.mono (by decide)) (by rfl) C_L_draw.mg C_L_draw.kp C_L_draw.bd .nil pass0 (pa_cons (pv 0) (pa_cons (pv 1) pa_nil)))) pa_nil)))))))
      (pss_cons (ps_set (i := 5) sc_L_field.nd rfl (.inl rfl) (pe_callB (call_min2 rfl) (by rfl) T.b_min (by decide +kernel) (pa_cons (pe_op op_pow pe_int pe_int) (pa_cons (pe_op op_add (pv 3) (pe_call C_L_choice.ok (hr.mono (by decide)) (by rfl) C_L_choice.mg C_L_choice.kp C_L_choice.bd .nil pass0 (pa_cons (pv 0) (pa_cons (pv 4) pa_nil)))) pa_nil))))
      (pss_cons (ps_set (i := 6) sc_L_field.nd rfl (.inl rfl) (pe_op op_add (pv 3) (pe_call C_L_draw.ok (hr.mono (by decide)) (by rfl) C_L_draw.mg C_L_draw.kp C_L_draw.bd .nil pass0 (pa_cons (pv 0) (pa_cons (pe_op op_add (pe_op op_sub (pv 5) (pv 3)) pe_int) pa_nil)))))
      (pss_cons (ps_set (i := 7) sc_L_field.nd rfl (.inl rfl) (pe_call C_L_choice.ok (hr.mono (by decide)) (by rfl) C_L_choice.mg C_L_choice.kp C_L_choice.bd .nil pass0 (pa_cons (pv 0) (pa_cons (pe_lst (pa_cons pe_int (pa_cons (pv 3) (pa_cons (pv 5) (pa_cons (pv 6) (pa_cons (pe_op op_sub (pv 6) (pv 2)) pa_nil)))))) pa_nil))))
      (pss_cons (ps_set (i := 8) sc_L_field.nd rfl (.inl rfl) (pe_op op_sub (pv 7) (pe_op op_mul (pe_op op_fdivW (pe_op op_sub (pv 7) (pv 3)) (pv 2)) (pv 2))))
      (pss_cons (ps_if (pt_cmpR op_gt (pv 8) (pv 5) (nomark _)) (pss_one (ps_set (i := 7) sc_L_field.nd rfl (.inl rfl) (pv 6))) pss_nil)
      (pss_cons (ps_set (i := 9) sc_L_field.nd rfl (.inl rfl) (pe_op op_add pe_int (pe_call C_L_draw.ok (hr.mono (by decide)) (by rfl) C_L_draw.mg C_L_draw.kp C_L_draw.bd .nil pass0 (pa_cons (pv 0) (pa_cons (pe_call C_L_choice.ok (hr.mono (by decide)) (by rfl) C_L_choice.mg C_L_choice.kp C_L_choice.bd .nil pass0 (pa_cons (pv 0) (pa_cons (pe_lst (pa_cons pe_int (pa_cons pe_int (pa_cons pe_int pa_nil)))) pa_nil))) pa_nil)))))
      (pss_cons (ps_par (i := 10) (j := 11) rfl sc_L_field.nd rfl rfl (by decide) rfl rfl (pa_cons (pe_call C_L_choice.ok (hr.mono (by decide)) (by rfl) C_L_choice.mg C_L_choice.kp C_L_choice.bd .nil pass0 (pa_cons (pv 0) (pa_cons (pe_lst (pa_cons pe_str (pa_cons pe_str (pa_cons pe_str pa_nil)))) pa_nil))) (pa_cons (pe_call C_L_choice.ok (hr.mono (by decide)) (by rfl) C_L_choice.mg C_L_choice.kp C_L_choice.bd .nil pass0 (pa_cons (pv 0) (pa_cons (pe_lst (pa_cons pe_str (pa_cons pe_str (pa_cons pe_str pa_nil)))) pa_nil))) pa_nil)) (by rfl))
      (pss_one (ps_ret (pe_tup (pa_cons (pv 3) (pa_cons (pv 5) (pa_cons (pv 2) (pa_cons (pv 7) (pa_cons (pv 10) (pa_cons (pv 11) (pa_cons (pv 9) pa_nil))))))))))))))))))))), ?_⟩)
  cases h1
  obtain ⟨w0, w1⟩ := hp
  have sr : ∀ {H' : Hp} {a b c d e f g h i j k : Option V}, Ex H H' → ER K (tVar 0) [some x0, a, b, c, d, e, f, g, h, i, j, k] H' Src.mk := fun e => er_var rfl (Rep.mono e h0)
  refine n_setI K (P := fun s => 1 ≤ s ∧ s ≤ 12) (en_pick (sr (Ex.refl _)) (ens_cons (en_of er_int (by omega)) (ens_cons (en_of er_int (by omega)) (ens_cons (en_of er_int (by omega)) (ens_cons (en_of er_int (by omega)) (ens_cons (en_of er_int (by omega)) (ens_cons (en_add en_c (en_draw (P := fun d => 0 ≤ d ∧ d < 12) (sr (Ex.refl _)) en_c (fun n hn => by omega) (fun n d hn d0 d1 => by omega)) (fun i j hi hj => by omega)) ens_nil)))))) (by omega) (by omega)) (fun _ => .s (.s .z)) (fun st0 H1 hst e1 => ?_)
  refine q_ifJ K (P := fun b => b = true → 1000 < wide) (fun σ' H' => ∃ st : Int, σ' = [some x0, some (.int wide), some (.int st), none, none, none, none, none, none, none, none, none] ∧ Ex H H' ∧ 1 ≤ st ∧ (st ≤ 12 ∨ (1000 < wide ∧ st ≤ wide / 5))) ?cont
    (etn_and (P1 := fun b => b = true → 1000 < wide) (etn_of (et_t (er_gt (er_varI rfl) er_int)) (fun z => of_decide_eq_true z)) (fun z => etn_t (en_eqI (en_draw (P := fun _ => True) (sr e1) en_c (fun n hn => by omega) (fun _ _ _ _ _ => trivial)) en_c)) (fun _ z => (by cases z)) (fun b z _ _ => z rfl)) ?c1 ?c2
  case c1 =>
    intro D2 hW hb H2 e2
    have hb' := hb rfl
    refine nl_set (α := Int) K (P := fun st => 1 ≤ st ∧ st ≤ wide / 5) (en_add en_c (en_draw (P := fun d => 0 ≤ d ∧ d < wide / 5) (sr (e1.trans e2)) (en_of (P := fun n => n = wide / 5) (er_div (er_varI rfl) er_int (cdivw (by omega) (by omega))) rfl) (fun n hn => by omega) (fun n d hn d0 d1 => by omega)) (fun i j hi hj => by omega)) (fun _ => .s (.s .z)) (fun st v H3 hst e3 r => ?_)
    cases r
    exact hW _ _ ⟨st, rfl, (e1.trans e2).trans e3, hst.1, .inr ⟨hb', hst.2⟩⟩
  case c2 =>
    intro D2 hW hb H2 e2
    exact hW _ _ ⟨st0, rfl, e1.trans e2, hst.1, .inl hst.2⟩
  rintro _ H2 ⟨st, rfl, e2, s0, sst⟩
  have s1 : st ≤ 1000000000000 := by omega
  refine n_setI K (P := fun z => -30 ≤ z ∧ z ≤ 29) (en_pick (sr e2) (ens_cons (en_of er_int (by omega)) (ens_cons (en_of er_int (by omega)) (ens_cons (en_of (er_neg er_int) (by omega)) (ens_cons (en_sub (en_draw (P := fun d => 0 ≤ d ∧ d < 60) (sr e2) en_c (fun n hn => by omega) (fun n d hn d0 d1 => by omega)) en_c (fun i j hi hj => by omega)) ens_nil)))) (by omega) (by omega)) (fun _ => .s (.s (.s .z))) (fun low H3 hlow e3 => ?_)
  have e03 := e2.trans e3
  refine n_set (α := List Int) K (P := fun xs => xs.length = 5 ∧ ∀ z ∈ xs, 1 ≤ z ∧ z ≤ max (8 * st) wide) (en_lst (ens_cons (en_of (er_varI rfl) (by omega)) (ens_cons (en_of (er_mul er_int (er_varI rfl) (.inl ⟨by omega, by omega⟩)) (by omega)) (ens_cons (en_of (er_add (er_varI rfl) er_int) (by omega)) (ens_cons (en_add en_c (en_draw (P := fun d => 0 ≤ d ∧ d < 8 * st) (sr e03) (en_of (P := fun n => n = 8 * st) (er_mul er_int (er_varI rfl) (.inl ⟨by omega, by omega⟩)) rfl) (fun n hn => by omega) (fun n d hn d0 d1 => by omega)) (fun i j hi hj => by omega)) (ens_cons (en_add en_c (en_draw (P := fun d => 0 ≤ d ∧ d < wide) (sr e03) (en_v rfl) (fun n hn => by omega) (fun n d hn d0 d1 => by omega)) (fun i j hi hj => by omega)) ens_nil))))) (by omega)) (fun _ => .s (.s (.s (.s .z)))) (fun more vm H4 hmore e4 rm => ?_)
  have e04 := e03.trans e4
  have hpow : ((10 : Int) ^ (12 : Int).toNat) = 1000000000000 := by decide
  refine n_setI K (P := fun z => low < z ∧ z ≤ 1000000000000 ∧ z - low ≤ max (8 * st) wide) (en_min2 (en_of (P := fun z => z = 1000000000000) (er_powc ⟨by decide, by decide, by decide⟩ hpow) rfl) (en_add (en_v rfl) (en_choice (P := fun z => 1 ≤ z ∧ z ≤ max (8 * st) wide) (sr e04) (en_of (er_var rfl rm) ⟨by omega, by omega, hmore.2⟩)) (P := fun z => low < z ∧ z - low ≤ max (8 * st) wide) (fun i j hi hj => by omega)) (fun i j hi hj => by omega)) (fun _ => .s (.s (.s (.s (.s .z))))) (fun high H5 hhigh e5 => ?_)
  have e05 := e04.trans e5
  refine n_setI K (P := fun z => low ≤ z ∧ z ≤ high) (en_add (en_v rfl) (en_draw (P := fun d => 0 ≤ d ∧ d < high - low + 1) (sr e05) (en_of (P := fun n => n = high - low + 1) (er_add (er_sub (er_varI rfl) (er_varI rfl)) er_int) rfl) (fun n hn => by omega) (fun n d hn d0 d1 => by omega)) (fun i j hi hj => by omega)) (fun _ => .s (.s (.s (.s (.s (.s .z)))))) (fun ins H6 hins e6 => ?_)
  have e06 := e05.trans e6
  refine n_setI K (P := fun z => min 0 (low - st) ≤ z ∧ z ≤ max 0 high) (en_pick (sr e06) (ens_cons (en_of er_int (by omega)) (ens_cons (en_of (er_varI rfl) (by omega)) (ens_cons (en_of (er_varI rfl) (by omega)) (ens_cons (en_of (er_varI rfl) (by omega)) (ens_cons (en_of (er_sub (er_varI rfl) (er_varI rfl)) (by omega)) ens_nil))))) (by omega) (by omega)) (fun _ => .s (.s (.s (.s (.s (.s (.s .z))))))) (fun bas0 H7 hbas0 e7 => ?_)
  have e07 := e06.trans e7
  refine q_setI K (er_sub (er_varI rfl) (er_mul (er_div (er_sub (er_varI rfl) (er_varI rfl)) (er_varI rfl) (cdivw (by omega) (by omega))) (er_varI rfl) (.inr ⟨by omega, by omega⟩))) (fun _ => .s (.s (.s (.s (.s (.s (.s (.s .z)))))))) (fun H8 e8 => ?_)
  have e08 := e07.trans e8
  refine q_ifJ K (P := fun b => b = decide (high < bas0 - (bas0 - low) / st * st)) (fun σ' H' => ∃ (bas fst : Int), σ' = [some x0, some (.int wide), some (.int st), some (.int low), some vm, some (.int high), some (.int ins), some (.int bas), some (.int fst), none, none, none] ∧ Ex H H' ∧ min 0 (low - st) ≤ bas ∧ bas ≤ max 0 high ∧ bas - (bas - low) / st * st ≤ high) ?cont2
    (etn_of (et_t (er_gt (er_varI rfl) (er_varI rfl))) rfl) ?d1 ?d2
  case d1 =>
    intro D2 hW hb H9 e9
    refine l_set (α := Int) K (er_varI rfl) (fun _ => .s (.s (.s (.s (.s (.s (.s .z))))))) (fun v H10 e10 r => ?_)
    cases r
    refine hW _ _ ⟨ins, _, rfl, (e08.trans e9).trans e10, by omega, by omega, ?_⟩
    have h1 : (0 : Int) ≤ (ins - low) / st * st := Int.mul_nonneg (Int.ediv_nonneg (by omega) (by omega)) (by omega)
    omega
  case d2 =>
    intro D2 hW hb H9 e9
    refine hW _ _ ⟨bas0, _, rfl, e08.trans e9, hbas0.1, hbas0.2, ?_⟩
    have hb' := of_decide_eq_false hb.symm
    omega
  rintro _ H9 ⟨bas, fst, rfl, e09, bb0, bb1, hon⟩
  refine n_setI K (P := fun g => 2 ≤ g ∧ g ≤ 12) (en_add en_c (en_draw (P := fun d => 0 ≤ d ∧ d < 11) (sr e09) (en_pick (P := fun n => 1 ≤ n ∧ n ≤ 11) (sr e09) (ens_cons (en_of er_int (by omega)) (ens_cons (en_of er_int (by omega)) (ens_cons (en_of er_int (by omega)) ens_nil))) (by omega) (by omega)) (fun n hn => by omega) (fun n d hn d0 d1 => by omega)) (fun i j hi hj => by omega)) (fun _ => .s (.s (.s (.s (.s (.s (.s (.s (.s .z))))))))) (fun big H10 hbig e10 => ?_)
  have e010 := e09.trans e10
  refine n_par (α := Str) (β := Str) K (P1 := fun s => s = "add" ∨ s = "near" ∨ s = "next") (P2 := fun s => s = "round" ∨ s = "stay" ∨ s = "stop") (en_pick (sr e010) (ens_cons (en_of er_str (.inl rfl)) (ens_cons (en_of er_str (.inr (.inl rfl))) (ens_cons (en_of er_str (.inr (.inr rfl))) ens_nil))) (by omega) (by omega))
    (fun H11 e11 => en_pick (sr (e010.trans e11)) (ens_cons (en_of er_str (.inl rfl)) (ens_cons (en_of er_str (.inr (.inl rfl))) (ens_cons (en_of er_str (.inr (.inr rfl))) ens_nil))) (by omega) (by omega)) (fun _ _ => .s (.s (.s (.s (.s (.s (.s (.s (.s (.s .z)))))))))) (fun _ _ => .s (.s (.s (.s (.s (.s (.s (.s (.s (.s (.s .z))))))))))) (fun off ends v w H11 hoff hends e11 r1 r2 => ?_)
  cases r1
  cases r2
  refine l_ret (α := Fld) K (er_mkF (f := ⟨low, high, st, bas, off, ends, big⟩) (er_varI rfl) (er_varI rfl) (er_varI rfl) (er_varI rfl) (er_varS rfl) (er_varS rfl) (er_varI rfl)) (fun v H12 e12 r => ?_)
  refine q _ v H12 ⟨⟨?_, hhigh.1, hhigh.2.1, s0, s1, (by show -1000000000000 ≤ bas; omega), (by show bas ≤ 1000000000000; omega), hoff, hends, hbig.1, hbig.2, on_of (show 0 < st by omega) hon⟩, hlow.1, hlow.2, hhigh.2.2, sst, bb0, bb1⟩ ((e010.trans e11).trans e12) r
  show -1000000000000 ≤ low
  omega
theorem sc_grid_of : FnScope ["field", "low", "high", "step", "base"] ["field"] (defScope s_grid_of) := ⟨rfl, rfl, rfl, by decide +kernel, rfl, by decide +kernel, by decide +kernel⟩
abbrev SP_grid_of (K : PySem.W.Frag) : Sp := sp1 (α := Fld) (δ := (Int × Int)) K (FL) (gridOf)
theorem ok_grid_of {P : Program} {w : World} {K : PySem.W.Frag} {mg : Str → Option Value} {base : Heap} (T : Top K mg) {f : Addr} {fd : FuncData} (F : FnP K "grid_of" s_grid_of f fd) : FnOk P w K mg base CX0 1 f fd ["field"] (SP_grid_of K) := by
  refine ok1 F sc_grid_of rfl (fun x0 => [some x0, none, none, none, none]) (fun _ => rfl) (fun H Q x0 a0 h0 hp q cdv A outer s E hr => ⟨_, PSs.nox (pss_cons (ps_asg (pe_slice sl_tup (pv 0) po_none (po_some pe_int)) (pg_tup rfl (pgs_cons (pg_name (i := 1) sc_grid_of.nd rfl (.inl rfl)) (pgs_cons (pg_name (i := 2) sc_grid_of.nd rfl (.inl rfl)) (pgs_cons (pg_name (i := 3) sc_grid_of.nd rfl (.inl rfl)) (pgs_cons (pg_name (i := 4) sc_grid_of.nd rfl (.inl rfl)) pgs_nil))))))
      (pss_one (ps_ret (pe_tup (pa_cons (pe_op op_sub (pv 4) (pe_op op_mul (pe_op op_fdivW (pe_op op_sub (pv 4) (pv 1)) (pv 3)) (pv 3))) (pa_cons (pe_op op_add (pv 4) (pe_op op_mul (pe_op op_fdivW (pe_op op_sub (pv 2) (pv 4)) (pv 3)) (pv 3))) pa_nil)))))), ?_⟩)
  obtain ⟨l0, lh, hh1, s0, s1, b0, b1⟩ := hp
  refine q_unp (lo := none) (hi := (some 4)) (by walk_at "ev") (fun _ _ h => h) (fun _ _ h => ⟨4, rfl, h⟩) (by decide) rfl rfl (fun H1 e1 => ?_)
  refine (g_cons (.s .z) (g_cons (.s (.s .z)) (g_cons (.s (.s (.s .z))) (g_cons (.s (.s (.s (.s .z)))) (g_nil ?_)))))
  refine l_ret (α := (Int × Int)) K (by walk_at "ev") (fun v2 H2 e2 r2 => ?_)
  refine q v2 H2 (by walk_at "ex") ?_
  refine (congrArg (Rep.rel K H2 v2) ?_).mp r2
  rfl
theorem sc_is_word : FnScope ["thing", "words"] ["thing", "words"] (defScope s_is_word) := ⟨rfl, rfl, rfl, by decide +kernel, rfl, by decide +kernel, by decide +kernel⟩
abbrev SP_is_word (K : PySem.W.Frag) : Sp := sp2 (α := PyData) (β := (Tpl Str)) (δ := Bool) K (fun _ _ => True) (isWord)
theorem ok_is_word {P : Program} {w : World} {K : PySem.W.Frag} {mg : Str → Option Value} {base : Heap} (T : Top K mg) {f : Addr} {fd : FuncData} (F : FnP K "is_word" s_is_word f fd) : FnOk P w K mg base CX0 1 f fd ["thing", "words"] (SP_is_word K) := by
  refine ok2 F sc_is_word rfl (fun x0 x1 => [some x0, some x1]) (fun _ _ => rfl) (fun H Q x0 x1 a0 a1 h0 h1 hp q cdv A outer s E hr => ⟨_, PSs.nox (pss_one (ps_ret (pe_and (pe_callB call_isi (by rfl) T.b_isinstance (by decide +kernel) (pa_cons (pv 0) (pa_cons (pe_bltn (v := .ty "str") (by rfl) T.b_str (by decide +kernel) rfl) pa_nil))) (pe_one (pe_cmpR op_in_seq (pv 0) (pv 1) rfl))))), ?_⟩)
  cases a0 with
  | str s =>
    cases h0
    refine l_ret (α := Bool) K (er_and (er_isi (er_enc (α := Str) (by walk_at "ev")) rfl) (fun _ => er_inT (by walk_at "ev") (er_var rfl h1))) (fun v H1 e1 r => ?_)
    exact q v H1 e1 r
  | _ => exact l_ret (α := Bool) K (er_and (b := false) (er_isi (er_var rfl h0) rfl) (fun z => (by cases z))) (fun v H1 e1 r => q v H1 e1 r)
theorem sc_is_field : FnScope ["thing", "first", "last", "part"] ["thing"] (defScope s_is_field) := ⟨rfl, rfl, rfl, by decide +kernel, rfl, by decide +kernel, by decide +kernel⟩
abbrev SP_is_field (K : PySem.W.Frag) : Sp := sp1 (α := PyData) (δ := Bool) K (fun _ => True) (isField)
theorem ok_is_field {P : Program} {w : World} {K : PySem.W.Frag} {mg : Str → Option Value} {base : Heap} (T : Top K mg) {f_is_between : Addr} {fd_is_between : FuncData} (C_is_between : Cal P w K mg base CX0 1 "is_between" ["thing", "low", "high"] (SP_is_between K) f_is_between fd_is_between) {f_is_word : Addr} {fd_is_word : FuncData} (C_is_word : Cal P w K mg base CX0 1 "is_word" ["thing", "words"] (SP_is_word K) f_is_word fd_is_word) {f_grid_of : Addr} {fd_grid_of : FuncData} (C_grid_of : Cal P w K mg base CX0 1 "grid_of" ["field"] (SP_grid_of K) f_grid_of fd_grid_of) {f : Addr} {fd : FuncData} (F : FnP K "is_field" s_is_field f fd) : FnOk P w K mg base CX0 2 f fd ["thing"] (SP_is_field K) := by
  obtain ⟨ad_ENDS, g_ENDS, tp_ENDS⟩ := T.g_ENDS
  obtain ⟨tk_MOST, g_MOST⟩ := T.g_MOST
  obtain ⟨ad_OFFS, g_OFFS, tp_OFFS⟩ := T.g_OFFS
  refine ok1 F sc_is_field rfl (fun x0 => [some x0, none, none, none]) (fun _ => rfl) (fun H Q x0 a0 h0 hp q cdv A outer s E hr => ⟨_, PSs.nox (pss_cons (ps_if (PW.pt (pw_or (pt_not (pt_val (pe_callB call_isi (by rfl) T.b_isinstance (by decide +kernel) (pa_cons (pv 0) (pa_cons (pe_bltn (v := .ty "tuple") (by rfl) T.b_tuple (by decide +kernel) rfl) pa_nil))))) (pw_or1 (pt_cmpR op_ne (pe_callB call_len_seq (by rfl) T.b_len (by decide +kernel) (pa_cons (pv 0) pa_nil)) pe_int (nomark _))))) (pss_one (ps_ret pe_bl)) pss_nil)
      (pss_cons (ps_if (PW.pt (pw_or (pt_not (pt_val (pe_callB (cr_all rfl) (by rfl) T.b_all (by decide +kernel) (pa_cons (pe_lc (own := [("part", 3)]) (g := gName 3) (tt := tYes)  rfl sc_is_field.nd (pi_tup (pe_slice sl_tup (pv 0) po_none (po_some pe_int))) (blkOk_by (own := [("part", 3)]) (N := ["thing", "first", "last", "part"]) (sc := defScope s_is_field) (by decide +kernel)) (fun _ _ _ _ _ => (pg_name (i := 3) sc_is_field.nd rfl (.inl rfl))) (fun _ _ _ _ _ => pts_nil) (fun _ _ _ _ _ => (pe_call C_is_between.ok (hr.mono (by decide)) (by rfl) C_is_between.mg C_is_between.kp C_is_between.bd .nil pass0 (pa_cons (pv 3) (pa_cons (pe_un un_neg (pe_glob (v := .int 1000000000000) (by rfl) g_MOST ⟨_, rfl⟩)) (pa_cons (pe_glob (v := .int 1000000000000) (by rfl) g_MOST ⟨_, rfl⟩) pa_nil)))))) pa_nil)))) (pw_or (pt_cmpR op_ge (pe_ix ix_tup (pv 0) pe_int (fun _ _ => rfl)) (pe_ix ix_tup (pv 0) pe_int (fun _ _ => rfl)) (nomark _)) (pw_or1 (pt_cmpR op_lt (pe_ix ix_tup (pv 0) pe_int (fun _ _ => rfl)) pe_int (nomark _)))))) (pss_one (ps_ret pe_bl)) pss_nil)
      (pss_cons (ps_if (PW.pt (pw_or (pt_not (pt_val (pe_call C_is_word.ok (hr.mono (by decide)) (by rfl) C_is_word.mg C_is_word.kp C_is_word.bd .nil pass0 (pa_cons (pe_ix ix_tup (pv 0) pe_int (fun _ _ => rfl)) (pa_cons (pe_glob (v := .ref ad_OFFS) (by rfl) g_OFFS rfl) pa_nil))))) (pw_or (pt_not (pt_val (pe_call C_is_word.ok (hr.mono (by decide)) (by rfl) C_is_word.mg C_is_word.kp C_is_word.bd .nil pass0 (pa_cons (pe_ix ix_tup (pv 0) pe_int (fun _ _ => rfl)) (pa_cons (pe_glob (v := .ref ad_ENDS) (by rfl) g_ENDS rfl) pa_nil))))) (pw_or1 (pt_not (pt_val (pe_call C_is_between.ok (hr.mono (by decide)) (by rfl) C_is_between.mg C_is_between.kp C_is_between.bd .nil pass0 (pa_cons (pe_ix ix_tup (pv 0) pe_int (fun _ _ => rfl)) (pa_cons pe_int (pa_cons pe_int pa_nil)))))))))) (pss_one (ps_ret pe_bl)) pss_nil)
      (pss_cons (ps_asg (pe_call C_grid_of.ok (hr.mono (by decide)) (by rfl) C_grid_of.mg C_grid_of.kp C_grid_of.bd .nil pass0 (pa_cons (pv 0) pa_nil)) (pg_tup rfl (pgs_cons (pg_name (i := 1) sc_is_field.nd rfl (.inl rfl)) (pgs_cons (pg_name (i := 2) sc_is_field.nd rfl (.inl rfl)) pgs_nil))))
      (pss_one (ps_ret (pe_cmpR op_le (pv 1) (pv 2) (nomark _)))))))), ?_⟩)
  cases a0 with
  | tuple ds =>
    cases h0 with
    | @tup p vs _ hs hr0 =>
    have rT : Rep.rel K H (.ref p) (Tpl.mk ds) := ⟨p, vs, rfl, hs, dpAll_rels hr0⟩
    have rD : Rep.rel K H (.ref p) (PyData.tuple ds) := .tup hs hr0
    refine q_if0 K (ett_or (ett_not (et_b (er_isi (er_var rfl rD) rfl))) (fun _ => et_t (er_neI (er_lenT (er_var rfl rT)) er_int))) (fun c1 H1 e1 => ?_) (fun c1 H1 e1 => ?_)
    · refine l_ret (α := Bool) K er_bl (fun v H2 e2 r => q v H2 (e1.trans e2) ?_)
      have hn : ds.length ≠ 7 := by
        simp at c1
        exact fun h => c1 (by omega)
      rw [isField_len hn]
      exact r
    have hn : ds.length = 7 := by
      simp at c1
      omega
    obtain ⟨d0, d1, d2, d3, d4, d5, d6, rfl⟩ : ∃ d0 d1 d2 d3 d4 d5 d6, ds = [d0, d1, d2, d3, d4, d5, d6] := len7 hn
    have hlc : ER K (tLc (iTup K (tSl (rSlT K) (tVar 0) tNoPart (tPart (tC (.int 4))))) (gName 3) tYes (tCall (SP_is_between K) [] E0 (tCons (tVar 3) (tCons (tUn (rU fun i => .int (-i)) (tC (.int 1000000000000))) (tCons (tC (.int 1000000000000)) tNil)))) [3]) [some (.ref p), none, none, none] H1 ([d0, d1, d2, d3].map fun d => isBetween d (-1000000000000) 1000000000000) := by
      refine er_lcY _ (wk_tup (er_slT none (some 4) (er_var rfl (Rep.mono e1 rT)) (fun _ _ h => h) (fun _ _ h => ⟨4, rfl, h⟩) (show ¬ ((0 : Nat) = 0 ∧ (4 : Nat) = 7) by decide) rfl)) (Nat.le_of_ble_eq_true rfl) ?_
      intro d v H2 hd e2 r Q' q'
      exact gn_ok (s1 := fun v => [some (.ref p), none, none, some v]) rfl (.s (.s (.s .z))) rfl (fun hw => q' _ H2 (Ex.refl _) hw (er_call3 (er_var rfl r) (er_neg er_int) er_int trivial))
    by_cases hb : isBetween d0 (-1000000000000) 1000000000000 = true ∧ isBetween d1 (-1000000000000) 1000000000000 = true ∧ isBetween d2 (-1000000000000) 1000000000000 = true ∧ isBetween d3 (-1000000000000) 1000000000000 = true
    · obtain ⟨b0, b1, b2, b3⟩ := hb
      obtain ⟨low, rfl, l0, l1⟩ := isBetween_int b0
      obtain ⟨high, rfl, h0, h1⟩ := isBetween_int b1
      obtain ⟨step, rfl, s0, s1⟩ := isBetween_int b2
      obtain ⟨bas, rfl, bs0, bs1⟩ := isBetween_int b3
      cases hr0 with
      | cons z0 hr1 =>
      cases hr1 with
      | cons z1 hr2 =>
      cases hr2 with
      | cons z2 hr3 =>
      cases hr3 with
      | cons z3 hr4 =>
      cases hr4 with
      | cons z4 hr5 =>
      cases hr5 with
      | cons z5 hr6 =>
      cases hr6 with
      | cons z6 hr7 =>
      cases hr7
      cases z0
      cases z1
      cases z2
      cases z3
      rename_i v4 v5 v6
      have hs1 := ex_t e1 hs
      refine q_if0 K (b := !true || (decide (high ≤ low) || decide (step < 1))) (ett_or (ett_not (et_b (er_is (er_all hlc) (by simp only [List.map, List.all, id, b0, b1, b2, b3]; rfl)))) (fun _ => ett_or (et_t (er_ge (er_ixq rfl hs1 rfl rfl) (er_ixq rfl hs1 rfl rfl))) (fun _ => et_t (er_lt (er_ixq rfl hs1 rfl rfl) er_int)))) (fun c2 H2 e2 => ?_) (fun c2 H2 e2 => ?_)
      · refine l_ret (α := Bool) K er_bl (fun v H3 e3 r => q v H3 (e1.trans (e2.trans e3)) ?_)
        refine (congrArg (Rep.rel K H3 v) ?_).mp r
        symm
        simp at c2
        exact isField_no (by omega)
      have c2' : low < high ∧ 1 ≤ step := by
        simp at c2
        omega
      have hs2 := ex_t e2 hs1
      have eqT : ER K (tCall (SP_is_word K) [] E0 (tCons (tOp (rIxT K) (tVar 0) (tC (.int 4))) (tCons (tC (.ref ad_OFFS)) tNil))) [some (.ref p), none, none, none] H2 (isWord d4 (Tpl.mk ["add", "near", "next"])) :=
        er_call2 (er_ixq rfl hs2 rfl (Rep.mono (e1.trans e2) (show Rep.rel K H v4 d4 from z4))) (er_ref (rel_texts tp_OFFS)) trivial
      have eqE : ER K (tCall (SP_is_word K) [] E0 (tCons (tOp (rIxT K) (tVar 0) (tC (.int 5))) (tCons (tC (.ref ad_ENDS)) tNil))) [some (.ref p), none, none, none] H2 (isWord d5 (Tpl.mk ["round", "stay", "stop"])) :=
        er_call2 (er_ixq rfl hs2 rfl (Rep.mono (e1.trans e2) (show Rep.rel K H v5 d5 from z5))) (er_ref (rel_texts tp_ENDS)) trivial
      have eqB : ER K (tCall (SP_is_between K) [] E0 (tCons (tOp (rIxT K) (tVar 0) (tC (.int 6))) (tCons (tC (.int 2)) (tCons (tC (.int 12)) tNil)))) [some (.ref p), none, none, none] H2 (isBetween d6 2 12) :=
        er_call3 (er_ixq rfl hs2 rfl (Rep.mono (e1.trans e2) (show Rep.rel K H v6 d6 from z6))) er_int er_int trivial
      refine q_if0 K (ett_or (ett_not (et_b eqT)) (fun _ => ett_or (ett_not (et_b eqE)) (fun _ => ett_not (et_b eqB)))) (fun c3 H3 e3 => ?_) (fun c3 H3 e3 => ?_)
      · refine l_ret (α := Bool) K er_bl (fun v H4 e4 r => q v H4 (e1.trans (e2.trans (e3.trans e4))) ?_)
        refine (congrArg (Rep.rel K H4 v) ?_).mp r
        symm
        simp only [Bool.or_eq_true, Bool.not_eq_true'] at c3
        exact isField_words c3
      simp only [Bool.or_eq_false_iff, Bool.not_eq_false'] at c3
      obtain ⟨c4, c5, c6⟩ := c3
      obtain ⟨off, rfl, hoff⟩ := isWord_str c4
      obtain ⟨ends, rfl, hends⟩ := isWord_str c5
      obtain ⟨big, rfl, g0, g1⟩ := isBetween_int c6
      cases z4
      cases z5
      cases z6
      have rF : Rep.rel K H (.ref p) (Fld.mk low high step bas off ends big) := ⟨p, rfl, hs⟩
      refine q_unpII K (er_call1 (er_var rfl (Rep.mono (e1.trans (e2.trans e3)) rF)) ⟨l0, c2'.1, h1, c2'.2, s1, bs0, bs1⟩) (fun H4 e4 => ?_)
      refine g_cons (.s .z) (g_cons (.s (.s .z)) (g_nil ?_))
      refine l_ret (α := Bool) K (er_le (er_varI rfl) (er_varI rfl)) (fun v H5 e5 r => q v H5 (by walk_at "ex") ?_)
      refine (congrArg (Rep.rel K H5 v) ?_).mp r
      exact (isField_yes l0 c2'.1 h1 c2'.2 s1 bs0 bs1 hoff hends g0 g1).symm
    · refine q_if0 K (b := true) (ett_or (a := true) (b := false) (ett_not (et_b (a := false) (er_is (er_all hlc) (by
        simp only [List.map, List.all, id, Bool.and_true]
        rw [← Bool.not_eq_true]
        simp only [Bool.and_eq_true]
        exact hb)))) (fun z => (by cases z))) (fun c2 H2 e2 => ?_) (fun c2 H2 e2 => (by cases c2))
      refine l_ret (α := Bool) K er_bl (fun v H3 e3 r => q v H3 (e1.trans (e2.trans e3)) ?_)
      refine (congrArg (Rep.rel K H3 v) ?_).mp r
      exact (isField_ints hb).symm
  | _ =>
    refine q_if0 K (ett_or (b := false) (ett_not (et_b (er_isi (er_var rfl h0) rfl))) (fun z => (by cases z))) (fun c1 H1 e1 => ?_) (fun c1 H1 e1 => (by cases c1))
    exact l_ret (α := Bool) K er_bl (fun v H2 e2 r => q v H2 (e1.trans e2) r)
theorem sc_L_near : FnScope ["_law_source_here", "_law_field_here", "_law_parts", "_law_at"] ["_law_source_here", "_law_field_here"] (defScope s_L_near) := ⟨rfl, rfl, rfl, by decide +kernel, rfl, by decide +kernel, by decide +kernel⟩
abbrev SP_L_near (K : PySem.W.Frag) : Sp := spn2 (α := Src) (β := Fld) (δ := Fld) K (fun _ f => FOk f) (fun _ f z => NearPost f z)
theorem ok_L_near {P : Program} {w : World} {K : PySem.W.Frag} {mg : Str → Option Value} {base : Heap} (T : Top K mg) {f_L_draw : Addr} {fd_L_draw : FuncData} (C_L_draw : Cal P w K mg base CX0 1 "_law_draw" ["_law_source_here", "_law_size"] (SP_L_draw K) f_L_draw fd_L_draw) {f_L_choice : Addr} {fd_L_choice : FuncData} (C_L_choice : Cal P w K mg base CX0 2 "_law_choice" ["_law_source_here", "_law_items"] (SP_L_choice K) f_L_choice fd_L_choice) {f_is_field : Addr} {fd_is_field : FuncData} (C_is_field : Cal P w K mg base CX0 2 "is_field" ["thing"] (SP_is_field K) f_is_field fd_is_field) {f : Addr} {fd : FuncData} (F : FnP K "_law_near" s_L_near f fd) : FnOk P w K mg base CX0 3 f fd ["_law_source_here", "_law_field_here"] (SP_L_near K) := by
  refine okn2 F sc_L_near rfl (fun x0 x1 => [some x0, some x1, none, none]) (fun _ _ => rfl) (fun H Q x0 x1 a0 a1 h0 h1 hp q cdv A outer s E hr => ⟨_, PSs.nox (pss_cons (ps_par (i := 2) (j := 3) rfl sc_L_near.nd rfl rfl (by decide) rfl rfl (pa_cons (pe_callTy call_list_of (by rfl) T.b_list (by decide +kernel) (pa_cons (pv 1) pa_nil)) (pa_cons (pe_call C_L_draw.ok (hr.mono (by decide)) (by rfl) C_L_draw.mg C_L_draw.kp C_L_draw.bd .nil pass0 (pa_cons (pv 0) (pa_cons pe_int pa_nil))) pa_nil)) (by rfl))
      (pss_close 2 (pss_cons (ps_if (pt_cmpR op_eq (pv 3) pe_int (nomark _)) (pss_one (ps_asg (pe_call C_L_choice.ok (hr.mono (by decide)) (by rfl) C_L_choice.mg C_L_choice.kp C_L_choice.bd .nil pass0 (pa_cons (pv 0) (pa_cons (pe_lst (pa_cons pe_int (pa_cons (pe_ix ix_tup (pv 1) pe_int (fun _ _ => rfl)) (pa_cons (pe_op op_add (pe_ix ix_tup (pv 1) pe_int (fun _ _ => rfl)) pe_int) (pa_cons (pe_op op_mul pe_int (pe_ix ix_tup (pv 1) pe_int (fun _ _ => rfl))) pa_nil))))) pa_nil))) (pg_sub (pv 2) pe_int set_listM))) (pss_one (ps_if (pt_cmpR op_eq (pv 3) pe_int (nomark _)) (pss_one (ps_asg (pe_call C_L_choice.ok (hr.mono (by decide)) (by rfl) C_L_choice.mg C_L_choice.kp C_L_choice.bd .nil pass0 (pa_cons (pv 0) (pa_cons (pe_lst (pa_cons (pe_op op_add (pe_ix ix_tup (pv 1) pe_int (fun _ _ => rfl)) (pe_ix ix_tup (pv 1) pe_int (fun _ _ => rfl))) (pa_cons (pe_op op_add (pe_ix ix_tup (pv 1) pe_int (fun _ _ => rfl)) pe_int) (pa_cons (pe_ix ix_tup (pv 1) pe_int (fun _ _ => rfl)) (pa_cons (pe_ix ix_tup (pv 1) pe_int (fun _ _ => rfl)) (pa_cons (pe_op op_sub (pe_ix ix_tup (pv 1) pe_int (fun _ _ => rfl)) (pe_ix ix_tup (pv 1) pe_int (fun _ _ => rfl))) pa_nil)))))) pa_nil))) (pg_sub (pv 2) pe_int set_listM))) (pss_one (ps_if (pt_cmpR op_eq (pv 3) pe_int (nomark _)) (pss_one (ps_asg (pe_call C_L_choice.ok (hr.mono (by decide)) (by rfl) C_L_choice.mg C_L_choice.kp C_L_choice.bd .nil pass0 (pa_cons (pv 0) (pa_cons (pe_lst (pa_cons pe_str (pa_cons pe_str (pa_cons pe_str pa_nil)))) pa_nil))) (pg_sub (pv 2) pe_int set_listM))) (pss_one (ps_if (pt_cmpR op_eq (pv 3) pe_int (nomark _)) (pss_one (ps_asg (pe_call C_L_choice.ok (hr.mono (by decide)) (by rfl) C_L_choice.mg C_L_choice.kp C_L_choice.bd .nil pass0 (pa_cons (pv 0) (pa_cons (pe_lst (pa_cons pe_str (pa_cons pe_str (pa_cons pe_str pa_nil)))) pa_nil))) (pg_sub (pv 2) pe_int set_listM))) (pss_one (ps_if (pt_cmpR op_eq (pv 3) pe_int (nomark _)) (pss_one (ps_asg (pe_op op_add pe_int (pe_call C_L_draw.ok (hr.mono (by decide)) (by rfl) C_L_draw.mg C_L_draw.kp C_L_draw.bd .nil pass0 (pa_cons (pv 0) (pa_cons pe_int pa_nil)))) (pg_sub (pv 2) pe_int set_listM))) (pss_one (ps_asg (pe_tup (pa_cons pe_int (pa_cons (pe_call C_L_choice.ok (hr.mono (by decide)) (by rfl) C_L_choice.mg C_L_choice.kp C_L_choice.bd .nil pass0 (pa_cons (pv 0) (pa_cons (pe_lst (pa_cons pe_str (pa_cons pe_str (pa_cons pe_str pa_nil)))) pa_nil))) pa_nil))) (pg_tup rfl (pgs_cons (pg_sub (pv 2) pe_int set_listM) (pgs_cons (pg_sub (pv 2) pe_int set_listM) pgs_nil))))))))))))))
      (pss_thaw 2 (pss_one (ps_ret (pe_ifExp (pt_val (pe_call C_is_field.ok (hr.mono (by decide)) (by rfl) C_is_field.mg C_is_field.kp C_is_field.bd .nil pass0 (pa_cons (pe_callTy call_tupC (by rfl) T.b_tuple (by decide +kernel) (pa_cons (pv 2) pa_nil)) pa_nil))) (pe_callTy call_tupC (by rfl) T.b_tuple (by decide +kernel) (pa_cons (pv 2) pa_nil)) (pv 1)))))))), ?_⟩)
  have E0 : Ex H H := Ex.refl H
  have ok_f := hp
  obtain ⟨l0_f, lh_f, h1_f, s0_f, s1_f, b0_f, b1_f, off_f, ends_f, g0_f, g1_f, on_f⟩ := ok_f
  have ok_f : FOk a1 := ⟨l0_f, lh_f, h1_f, s0_f, s1_f, b0_f, b1_f, off_f, ends_f, g0_f, g1_f, on_f⟩
  refine n_parL1 (α := Int) (β := PyData) K (P1 := fun z => 0 ≤ z ∧ z < 6) (el_listF (er_var rfl h1)) (fun H1a e1a => ?_) (fun _ _ => (.s (.s .z))) (fun _ _ => (.s (.s (.s .z)))) (fun _ _ => rfl) (fun at_ v1a l_parts ws1 H1 p_at_ z1 e1 r_at_ mm1 nn1 => ?_)
  · skip
    have h0 := Rep.mono e1a h0
    have h1 := Rep.mono e1a h1
    exact (en_drawE (er_var rfl h0) er_int ⟨by walk_at "sd", by walk_at "sd"⟩)
  have f_parts := fresh_back E0 z1
  have h0 := Rep.mono e1 h0
  have h1 := Rep.mono e1 h1
  have E0 := E0.trans e1
  have m_parts := mm1
  have n_parts := nn1
  cases r_at_
  refine q_ifD K (b := (decide (at_ = 0))) (fun σ' H' => ∃ (ws_parts1 : List V), ∃ (parts1 : List PyData), σ' = [some x0, some x1, some (V.ref l_parts), some (V.int at_)] ∧ Ey H1 H' ∧ (H' l_parts = some (MutO l_parts ws_parts1) ∧ rels K H' ws_parts1 parts1 ∧ (NearDs a1 parts1)) ∧ Ex H H') (fun σ' Z2 pp2 => ?_) (et_t (er_eqI (er_varI rfl) er_int)) (fun c2 H2 e2 D2 dn2 => ?_) (fun c2 H2 e2 D2 dn2 => ?_)
  rotate_left
  · skip
    have h0 := Rep.mono e2 h0
    have h1 := Rep.mono e2 h1
    have E0 := E0.trans e2
    have m_parts := e2 _ _ m_parts
    have n_parts := rels_mono e2 n_parts
    have jx2 := e2.y
    have hcond := c2
    refine nl_put (α := PyData) (P := fun z => (z = (Enc.enc (1 : Int))) ∨ (z = (Enc.enc (a1.step : Int))) ∨ (z = (Enc.enc ((a1.step + 1) : Int))) ∨ (z = (Enc.enc ((2 * a1.step) : Int)))) (j := 2) K rfl m_parts n_parts ?_ er_int (near_ix (by first | exact near_0 | assumption) (by decide)) (fun put ws3 H3 p_put o3 mm3 nn3 => ?_)
    · exact (en_pick (P := fun z => (z = (Enc.enc (1 : Int))) ∨ (z = (Enc.enc (a1.step : Int))) ∨ (z = (Enc.enc ((a1.step + 1) : Int))) ∨ (z = (Enc.enc ((2 * a1.step) : Int)))) (er_var rfl h0) (ens_cons (en_imp (P := fun z => z = (Enc.enc (1 : Int))) (en_is (er_enc (α := Int) er_int)) (fun _ h => .inl h)) (ens_cons (en_imp (P := fun z => z = (Enc.enc (a1.step : Int))) (en_is (er_enc (α := Int) (er_f2 (er_var rfl h1)))) (fun _ h => .inr (.inl h))) (ens_cons (en_imp (P := fun z => z = (Enc.enc ((a1.step + 1) : Int))) (en_is (er_enc (α := Int) (er_add (er_f2 (er_var rfl h1)) er_int))) (fun _ h => .inr (.inr (.inl h)))) (ens_cons (en_imp (P := fun z => z = (Enc.enc ((2 * a1.step) : Int))) (en_is (er_enc (α := Int) (er_mul er_int (er_f2 (er_var rfl h1)) (by walk_at "mc")))) (fun _ h => .inr (.inr (.inr (h))))) ens_nil)))) (by decide) (by decide))
    have y3 := o3.y m_parts
    have h0 := Rep.moY y3 h0
    have h1 := Rep.moY y3 h1
    have jx2 := jx2.trans y3
    have E0 := o3.ex f_parts E0
    have m_parts := mm3
    have n_parts := nn3
    exact dn2 _ _ ⟨_, ((Fld.ds a1).set 2 put), rfl, jx2, ⟨m_parts, n_parts, near_set near_0 (by decide)⟩, E0⟩
  · skip
    have h0 := Rep.mono e2 h0
    have h1 := Rep.mono e2 h1
    have E0 := E0.trans e2
    have m_parts := e2 _ _ m_parts
    have n_parts := rels_mono e2 n_parts
    have jx2 := e2.y
    have hcond := c2
    refine l_if K (b := (decide (at_ = 1))) (et_t (er_eqI (er_varI rfl) er_int)) (fun c4 H4 e4 => ?_) (fun c4 H4 e4 => ?_)
    · skip
      have h0 := Rep.mono e4 h0
      have h1 := Rep.mono e4 h1
      have jx2 := jx2.trans e4.y
      have E0 := E0.trans e4
      have m_parts := e4 _ _ m_parts
      have n_parts := rels_mono e4 n_parts
      have hcond := c4
      refine nl_put (α := PyData) (P := fun z => (z = (Enc.enc ((a1.base + a1.step) : Int))) ∨ (z = (Enc.enc ((a1.base + 1) : Int))) ∨ (z = (Enc.enc (a1.low : Int))) ∨ (z = (Enc.enc (a1.high : Int))) ∨ (z = (Enc.enc ((a1.base - a1.step) : Int)))) (j := 3) K rfl m_parts n_parts ?_ er_int (near_ix (by first | exact near_0 | assumption) (by decide)) (fun put1 ws5 H5 p_put1 o5 mm5 nn5 => ?_)
      · exact (en_pick (P := fun z => (z = (Enc.enc ((a1.base + a1.step) : Int))) ∨ (z = (Enc.enc ((a1.base + 1) : Int))) ∨ (z = (Enc.enc (a1.low : Int))) ∨ (z = (Enc.enc (a1.high : Int))) ∨ (z = (Enc.enc ((a1.base - a1.step) : Int)))) (er_var rfl h0) (ens_cons (en_imp (P := fun z => z = (Enc.enc ((a1.base + a1.step) : Int))) (en_is (er_enc (α := Int) (er_add (er_f3 (er_var rfl h1)) (er_f2 (er_var rfl h1))))) (fun _ h => .inl h)) (ens_cons (en_imp (P := fun z => z = (Enc.enc ((a1.base + 1) : Int))) (en_is (er_enc (α := Int) (er_add (er_f3 (er_var rfl h1)) er_int))) (fun _ h => .inr (.inl h))) (ens_cons (en_imp (P := fun z => z = (Enc.enc (a1.low : Int))) (en_is (er_enc (α := Int) (er_f0 (er_var rfl h1)))) (fun _ h => .inr (.inr (.inl h)))) (ens_cons (en_imp (P := fun z => z = (Enc.enc (a1.high : Int))) (en_is (er_enc (α := Int) (er_f1 (er_var rfl h1)))) (fun _ h => .inr (.inr (.inr (.inl h))))) (ens_cons (en_imp (P := fun z => z = (Enc.enc ((a1.base - a1.step) : Int))) (en_is (er_enc (α := Int) (er_sub (er_f3 (er_var rfl h1)) (er_f2 (er_var rfl h1))))) (fun _ h => .inr (.inr (.inr (.inr (h)))))) ens_nil))))) (by decide) (by decide))
      have y5 := o5.y m_parts
      have h0 := Rep.moY y5 h0
      have h1 := Rep.moY y5 h1
      have jx2 := jx2.trans y5
      have E0 := o5.ex f_parts E0
      have m_parts := mm5
      have n_parts := nn5
      exact dn2 _ _ ⟨_, ((Fld.ds a1).set 3 put1), rfl, jx2, ⟨m_parts, n_parts, by first | exact near_set near_0 (by decide) | exact near_set (near_set near_0 (by decide)) (by decide)⟩, E0⟩
    · skip
      have h0 := Rep.mono e4 h0
      have h1 := Rep.mono e4 h1
      have jx2 := jx2.trans e4.y
      have E0 := E0.trans e4
      have m_parts := e4 _ _ m_parts
      have n_parts := rels_mono e4 n_parts
      have hcond := c4
      refine l_if K (b := (decide (at_ = 2))) (et_t (er_eqI (er_varI rfl) er_int)) (fun c6 H6 e6 => ?_) (fun c6 H6 e6 => ?_)
      · skip
        have h0 := Rep.mono e6 h0
        have h1 := Rep.mono e6 h1
        have jx2 := jx2.trans e6.y
        have E0 := E0.trans e6
        have m_parts := e6 _ _ m_parts
        have n_parts := rels_mono e6 n_parts
        have hcond := c6
        refine nl_put (α := PyData) (P := fun z => (z = (Enc.enc (("add" : Str) : Str))) ∨ (z = (Enc.enc (("near" : Str) : Str))) ∨ (z = (Enc.enc (("next" : Str) : Str)))) (j := 4) K rfl m_parts n_parts ?_ er_int (near_ix (by first | exact near_0 | assumption) (by decide)) (fun put2 ws7 H7 p_put2 o7 mm7 nn7 => ?_)
        · exact (en_pick (P := fun z => (z = (Enc.enc (("add" : Str) : Str))) ∨ (z = (Enc.enc (("near" : Str) : Str))) ∨ (z = (Enc.enc (("next" : Str) : Str)))) (er_var rfl h0) (ens_cons (en_imp (P := fun z => z = (Enc.enc (("add" : Str) : Str))) (en_is (er_enc (α := Str) er_str)) (fun _ h => .inl h)) (ens_cons (en_imp (P := fun z => z = (Enc.enc (("near" : Str) : Str))) (en_is (er_enc (α := Str) er_str)) (fun _ h => .inr (.inl h))) (ens_cons (en_imp (P := fun z => z = (Enc.enc (("next" : Str) : Str))) (en_is (er_enc (α := Str) er_str)) (fun _ h => .inr (.inr (h)))) ens_nil))) (by decide) (by decide))
        have y7 := o7.y m_parts
        have h0 := Rep.moY y7 h0
        have h1 := Rep.moY y7 h1
        have jx2 := jx2.trans y7
        have E0 := o7.ex f_parts E0
        have m_parts := mm7
        have n_parts := nn7
        exact dn2 _ _ ⟨_, ((Fld.ds a1).set 4 put2), rfl, jx2, ⟨m_parts, n_parts, by first | exact near_set near_0 (by decide) | exact near_set (near_set near_0 (by decide)) (by decide)⟩, E0⟩
      · skip
        have h0 := Rep.mono e6 h0
        have h1 := Rep.mono e6 h1
        have jx2 := jx2.trans e6.y
        have E0 := E0.trans e6
        have m_parts := e6 _ _ m_parts
        have n_parts := rels_mono e6 n_parts
        have hcond := c6
        refine l_if K (b := (decide (at_ = 3))) (et_t (er_eqI (er_varI rfl) er_int)) (fun c8 H8 e8 => ?_) (fun c8 H8 e8 => ?_)
        · skip
          have h0 := Rep.mono e8 h0
          have h1 := Rep.mono e8 h1
          have jx2 := jx2.trans e8.y
          have E0 := E0.trans e8
          have m_parts := e8 _ _ m_parts
          have n_parts := rels_mono e8 n_parts
          have hcond := c8
          refine nl_put (α := PyData) (P := fun z => (z = (Enc.enc (("round" : Str) : Str))) ∨ (z = (Enc.enc (("stay" : Str) : Str))) ∨ (z = (Enc.enc (("stop" : Str) : Str)))) (j := 5) K rfl m_parts n_parts ?_ er_int (near_ix (by first | exact near_0 | assumption) (by decide)) (fun put3 ws9 H9 p_put3 o9 mm9 nn9 => ?_)
          · exact (en_pick (P := fun z => (z = (Enc.enc (("round" : Str) : Str))) ∨ (z = (Enc.enc (("stay" : Str) : Str))) ∨ (z = (Enc.enc (("stop" : Str) : Str)))) (er_var rfl h0) (ens_cons (en_imp (P := fun z => z = (Enc.enc (("round" : Str) : Str))) (en_is (er_enc (α := Str) er_str)) (fun _ h => .inl h)) (ens_cons (en_imp (P := fun z => z = (Enc.enc (("stay" : Str) : Str))) (en_is (er_enc (α := Str) er_str)) (fun _ h => .inr (.inl h))) (ens_cons (en_imp (P := fun z => z = (Enc.enc (("stop" : Str) : Str))) (en_is (er_enc (α := Str) er_str)) (fun _ h => .inr (.inr (h)))) ens_nil))) (by decide) (by decide))
          have y9 := o9.y m_parts
          have h0 := Rep.moY y9 h0
          have h1 := Rep.moY y9 h1
          have jx2 := jx2.trans y9
          have E0 := o9.ex f_parts E0
          have m_parts := mm9
          have n_parts := nn9
          exact dn2 _ _ ⟨_, ((Fld.ds a1).set 5 put3), rfl, jx2, ⟨m_parts, n_parts, by first | exact near_set near_0 (by decide) | exact near_set (near_set near_0 (by decide)) (by decide)⟩, E0⟩
        · skip
          have h0 := Rep.mono e8 h0
          have h1 := Rep.mono e8 h1
          have jx2 := jx2.trans e8.y
          have E0 := E0.trans e8
          have m_parts := e8 _ _ m_parts
          have n_parts := rels_mono e8 n_parts
          have hcond := c8
          refine l_if K (b := (decide (at_ = 4))) (et_t (er_eqI (er_varI rfl) er_int)) (fun c10 H10 e10 => ?_) (fun c10 H10 e10 => ?_)
          · skip
            have h0 := Rep.mono e10 h0
            have h1 := Rep.mono e10 h1
            have jx2 := jx2.trans e10.y
            have E0 := E0.trans e10
            have m_parts := e10 _ _ m_parts
            have n_parts := rels_mono e10 n_parts
            have hcond := c10
            refine nl_put (α := PyData) (P := fun z => ∃ y : Int, z = Enc.enc y ∧ (∃ (x12_1 : Int), (0 ≤ x12_1 ∧ x12_1 < 11) ∧ y = (2 + x12_1))) (j := 6) K rfl m_parts n_parts ?_ er_int (near_ix (by first | exact near_0 | assumption) (by decide)) (fun put4 ws11 H11 p_put4 o11 mm11 nn11 => ?_)
            · exact (en_encP (P := fun z => ∃ (x12_1 : Int), (0 ≤ x12_1 ∧ x12_1 < 11) ∧ z = (2 + x12_1)) (en_op2 (P := fun z => ∃ (x12_1 : Int), (0 ≤ x12_1 ∧ x12_1 < 11) ∧ z = (2 + x12_1)) (en_is er_int) (en_drawE (er_var rfl h0) er_int ⟨by walk_at "sd", by walk_at "sd"⟩) (fun x12_0 x12_1 v12_0 v12_1 H12 E12 p12_0 p12_1 r12_0 r12_1 => by replace p12_0 := p12_0.symm; subst p12_0; exact en_of (er_add (er_c (x := 2) r12_0) (er_c (x := x12_1) r12_1)) ⟨x12_1, p12_1, rfl⟩)))
            have y11 := o11.y m_parts
            have h0 := Rep.moY y11 h0
            have h1 := Rep.moY y11 h1
            have jx2 := jx2.trans y11
            have E0 := o11.ex f_parts E0
            have m_parts := mm11
            have n_parts := nn11
            exact dn2 _ _ ⟨_, ((Fld.ds a1).set 6 put4), rfl, jx2, ⟨m_parts, n_parts, by first | exact near_set near_0 (by decide) | exact near_set (near_set near_0 (by decide)) (by decide)⟩, E0⟩
          · skip
            have h0 := Rep.mono e10 h0
            have h1 := Rep.mono e10 h1
            have jx2 := jx2.trans e10.y
            have E0 := E0.trans e10
            have m_parts := e10 _ _ m_parts
            have n_parts := rels_mono e10 n_parts
            have hcond := c10
            refine nl_put2 (α := PyData) (P1 := fun z => z = (Enc.enc (1 : Int))) (P2 := fun z => (z = (Enc.enc (("add" : Str) : Str))) ∨ (z = (Enc.enc (("near" : Str) : Str))) ∨ (z = (Enc.enc (("next" : Str) : Str)))) (j := 2) (j2 := 4) K rfl rfl m_parts n_parts ?_ (fun H13a e13a => ?_) er_int (near_ix (by first | exact near_0 | assumption) (by decide)) (fun _ => er_int) (near_ix (by first | exact near_0 | assumption) (by decide)) (fun put5 put6 ws13 H13 p_put5 p_put6 o13 mm13 nn13 => ?_)
            · exact (en_is (er_enc (α := Int) er_int))
            · skip
              have h0 := Rep.mono e13a h0
              have h1 := Rep.mono e13a h1
              exact (en_pick (P := fun z => (z = (Enc.enc (("add" : Str) : Str))) ∨ (z = (Enc.enc (("near" : Str) : Str))) ∨ (z = (Enc.enc (("next" : Str) : Str)))) (er_var rfl h0) (ens_cons (en_imp (P := fun z => z = (Enc.enc (("add" : Str) : Str))) (en_is (er_enc (α := Str) er_str)) (fun _ h => .inl h)) (ens_cons (en_imp (P := fun z => z = (Enc.enc (("near" : Str) : Str))) (en_is (er_enc (α := Str) er_str)) (fun _ h => .inr (.inl h))) (ens_cons (en_imp (P := fun z => z = (Enc.enc (("next" : Str) : Str))) (en_is (er_enc (α := Str) er_str)) (fun _ h => .inr (.inr (h)))) ens_nil))) (by decide) (by decide))
            have y13 := o13.y m_parts
            have h0 := Rep.moY y13 h0
            have h1 := Rep.moY y13 h1
            have jx2 := jx2.trans y13
            have E0 := o13.ex f_parts E0
            have m_parts := mm13
            have n_parts := nn13
            exact dn2 _ _ ⟨_, (((Fld.ds a1).set 2 put5).set 4 put6), rfl, jx2, ⟨m_parts, n_parts, by first | exact near_set near_0 (by decide) | exact near_set (near_set near_0 (by decide)) (by decide)⟩, E0⟩
  obtain ⟨ws_parts1, parts1, rfl, pp2, ⟨m_parts, n_parts, i_parts1⟩, E0⟩ := pp2
  have h0 := Rep.moY pp2 h0
  have h1 := Rep.moY pp2 h1
  refine q_thaw K rfl m_parts n_parts (fun H14 o14 r_14 => ?_)
  have mm14 := m_parts
  have nn14 := n_parts
  have y14 := o14.y m_parts
  have h0 := Rep.moY y14 h0
  have h1 := Rep.moY y14 h1
  have E0 := o14.ex f_parts E0
  refine l_ret (α := Fld) K (er_if (et_b (er_call1 (er_enc (α := Tpl PyData) (er_tupC (er_var rfl r_14))) trivial)) (fun hc => er_fldOf (er_tupC (er_var rfl r_14)) (by rw [encT] at hc; exact hc)) (fun hc => er_var rfl h1)) (fun v15 H15 e15 r15 => q _ v15 H15 ?_ (E0.trans e15) r15)
  exact near_post ok_f i_parts1
theorem sc_L_value : FnScope ["_law_source_here", "_law_field_here", "_law_low", "_law_high", "_law_step", "_law_base", "_law_way", "_law_found", "_law_more"] ["_law_source_here", "_law_field_here"] (defScope s_L_value) := ⟨rfl, rfl, rfl, by decide +kernel, rfl, by decide +kernel, by decide +kernel⟩
abbrev SP_L_value (K : PySem.W.Frag) : Sp := spn2 (α := Src) (β := Fld) (δ := Int) K (fun _ f => FL f) (fun _ f v => f.low ≤ v ∧ v ≤ f.high)
theorem ok_L_value {P : Program} {w : World} {K : PySem.W.Frag} {mg : Str → Option Value} {base : Heap} (T : Top K mg) {f_L_draw : Addr} {fd_L_draw : FuncData} (C_L_draw : Cal P w K mg base CX0 1 "_law_draw" ["_law_source_here", "_law_size"] (SP_L_draw K) f_L_draw fd_L_draw) {f_L_choice : Addr} {fd_L_choice : FuncData} (C_L_choice : Cal P w K mg base CX0 2 "_law_choice" ["_law_source_here", "_law_items"] (SP_L_choice K) f_L_choice fd_L_choice) {f : Addr} {fd : FuncData} (F : FnP K "_law_value" s_L_value f fd) : FnOk P w K mg base CX0 3 f fd ["_law_source_here", "_law_field_here"] (SP_L_value K) := by
  refine okn2 F sc_L_value rfl (fun x0 x1 => [some x0, some x1, none, none, none, none, none, none, none]) (fun _ _ => rfl) (fun H Q x0 x1 a0 a1 h0 h1 hp q cdv A outer s E hr => ⟨_, PSs.nox (pss_cons (ps_asg (pe_slice sl_tup (pv 1) po_none (po_some pe_int)) (pg_tup rfl (pgs_cons (pg_name (i := 2) sc_L_value.nd rfl (.inl rfl)) (pgs_cons (pg_name (i := 3) sc_L_value.nd rfl (.inl rfl)) (pgs_cons (pg_name (i := 4) sc_L_value.nd rfl (.inl rfl)) (pgs_cons (pg_name (i := 5) sc_L_value.nd rfl (.inl rfl)) pgs_nil))))))
      (pss_cons (ps_set (i := 6) sc_L_value.nd rfl (.inl rfl) (pe_call C_L_draw.ok (hr.mono (by decide)) (by rfl) C_L_draw.mg C_L_draw.kp C_L_draw.bd .nil pass0 (pa_cons (pv 0) (pa_cons pe_int pa_nil))))
      (pss_cons (ps_set (i := 7) sc_L_value.nd rfl (.inl rfl) (pe_op op_add (pv 2) (pe_call C_L_draw.ok (hr.mono (by decide)) (by rfl) C_L_draw.mg C_L_draw.kp C_L_draw.bd .nil pass0 (pa_cons (pv 0) (pa_cons (pe_op op_add (pe_op op_sub (pv 3) (pv 2)) pe_int) pa_nil)))))
      (pss_cons (ps_if (pt_cmpR op_eq (pv 6) pe_int (nomark _)) (pss_one (ps_set (i := 7) sc_L_value.nd rfl (.inl rfl) (pe_call C_L_choice.ok (hr.mono (by decide)) (by rfl) C_L_choice.mg C_L_choice.kp C_L_choice.bd .nil pass0 (pa_cons (pv 0) (pa_cons (pe_lst (pa_cons (pv 2) (pa_cons (pv 3) (pa_cons (pe_op op_add (pv 2) pe_int) (pa_cons (pe_op op_sub (pv 3) pe_int) pa_nil))))) pa_nil))))) (pss_one (ps_if (pt_cmpR op_lt (pv 6) pe_int (nomark _)) (pss_cons (ps_set (i := 8) sc_L_value.nd rfl (.inl rfl) (pe_call C_L_choice.ok (hr.mono (by decide)) (by rfl) C_L_choice.mg C_L_choice.kp C_L_choice.bd .nil pass0 (pa_cons (pv 0) (pa_cons (pe_lst (pa_cons pe_int (pa_cons pe_int (pa_cons pe_int (pa_cons (pe_un un_neg pe_int) (pa_cons (pe_op op_fdivW (pv 4) pe_int) (pa_cons (pe_op op_fdivW (pe_op op_add (pv 4) pe_int) pe_int) pa_nil))))))) pa_nil))))
      (pss_one (ps_set (i := 7) sc_L_value.nd rfl (.inl rfl) (pe_op op_add (pe_op op_add (pv 5) (pe_op op_mul (pe_op op_fdivW (pe_op op_sub (pv 7) (pv 5)) (pv 4)) (pv 4))) (pv 8))))) pss_nil)))
      (pss_one (ps_ret (pe_callB (call_max2 rfl) (by rfl) T.b_max (by decide +kernel) (pa_cons (pv 2) (pa_cons (pe_callB (call_min2 rfl) (by rfl) T.b_min (by decide +kernel) (pa_cons (pv 3) (pa_cons (pv 7) pa_nil))) pa_nil))))))))), ?_⟩)
  obtain ⟨l0, lh, hh1, s0, s1, b0, b1⟩ := hp
  have sr : ∀ {H' : Hp} {b c d e f g h i : Option V}, Ex H H' → ER K (tVar 0) [some x0, b, c, d, e, f, g, h, i] H' Src.mk := fun e => er_var rfl (Rep.mono e h0)
  refine q_unp (lo := none) (hi := (some 4)) (er_var rfl h1) (fun _ _ h => h) (fun _ _ h => ⟨4, rfl, h⟩) (by decide) rfl rfl (fun H1 e1 => ?_)
  refine (g_cons (.s (.s .z)) (g_cons (.s (.s (.s .z))) (g_cons (.s (.s (.s (.s .z)))) (g_cons (.s (.s (.s (.s (.s .z))))) (g_nil ?_)))))
  refine n_setI K (P := fun _ => True) (en_draw (sr e1) en_c (fun n hn => by omega) (fun _ _ _ _ _ => trivial)) (fun _ => .s (.s (.s (.s (.s (.s .z)))))) (fun way H2 _ e2 => ?_)
  have e02 := e1.trans e2
  refine n_setI K (P := fun _ => True) (en_add (P2 := fun _ => True) (en_v rfl) (en_draw (sr e02) (en_of (P := fun n => n = a1.high - a1.low + 1) (er_add (er_sub (er_varI rfl) (er_varI rfl)) er_int) rfl) (fun n hn => by omega) (fun _ _ _ _ _ => trivial)) (fun _ _ _ _ => trivial)) (fun _ => .s (.s (.s (.s (.s (.s (.s .z))))))) (fun fnd H3 _ e3 => ?_)
  have e03 := e02.trans e3
  refine q_ifJ K (P := fun _ => True) (fun σ' H' => ∃ (fnd : Int) (o : Option V), σ' = [some x0, some x1, some (.int a1.low), some (.int a1.high), some (.int a1.step), some (.int a1.base), some (.int way), some (.int fnd), o] ∧ Ex H H') ?cont
    (etn_of (et_t (er_eqI (er_varI rfl) er_int)) trivial) ?c1 ?c2
  case c1 =>
    intro D2 hW hb H4 e4
    refine nl_set (α := Int) K (P := fun _ => True) (en_pick (sr (e03.trans e4)) (ens_cons (en_of (er_varI rfl) trivial) (ens_cons (en_of (er_varI rfl) trivial) (ens_cons (en_of (er_add (er_varI rfl) er_int) trivial) (ens_cons (en_of (er_sub (er_varI rfl) er_int) trivial) ens_nil)))) (by omega) (by omega)) (fun _ => .s (.s (.s (.s (.s (.s (.s .z))))))) (fun st v H5 _ e5 r => ?_)
    cases r
    exact hW _ _ ⟨st, _, rfl, (e03.trans e4).trans e5⟩
  case c2 =>
    intro D2 hW hb H4 e4
    refine l_if0 K (et_t (er_lt (er_varI rfl) er_int)) (fun c5 H5 e5 => ?_) (fun c5 H5 e5 => hW _ _ ⟨fnd, _, rfl, (e03.trans e4).trans e5⟩)
    have e05 := (e03.trans e4).trans e5
    refine n_setI K (P := fun _ => True) (en_pick (sr e05) (ens_cons (en_of er_int trivial) (ens_cons (en_of er_int trivial) (ens_cons (en_of er_int trivial) (ens_cons (en_of (er_neg er_int) trivial) (ens_cons (en_of (er_div (er_varI rfl) er_int (cdivw (by omega) (by omega))) trivial) (ens_cons (en_of (er_div (er_add (er_varI rfl) er_int) er_int (cdivw (by omega) (by omega))) trivial) ens_nil)))))) (by omega) (by omega)) (fun _ => .s (.s (.s (.s (.s (.s (.s (.s .z)))))))) (fun more H6 _ e6 => ?_)
    refine l_set (α := Int) K (er_add (er_add (er_varI rfl) (er_mul (er_div (er_sub (er_varI rfl) (er_varI rfl)) (er_varI rfl) (cdivw (by omega) (by omega))) (er_varI rfl) (.inr ⟨by omega, by omega⟩))) (er_varI rfl)) (fun _ => .s (.s (.s (.s (.s (.s (.s .z))))))) (fun v H7 e7 r => ?_)
    cases r
    exact hW _ _ ⟨_, _, rfl, (e05.trans e6).trans e7⟩
  rintro _ H4 ⟨fnd, o, rfl, e04⟩
  refine l_ret (α := Int) K (er_max2 (er_varI rfl) (er_min2 (er_varI rfl) (er_varI rfl))) (fun v H5 e5 r => ?_)
  exact q _ v H5 (by omega) (e04.trans e5) r
theorem sc_L_row : FnScope ["_law_source_here", "_law_most", "_law_signs", "_law_key_so"] ["_law_source_here", "_law_most"] (defScope s_L_row) := ⟨rfl, rfl, rfl, by decide +kernel, rfl, by decide +kernel, by decide +kernel⟩
abbrev SP_L_row (K : PySem.W.Frag) : Sp := spn2 (α := Src) (β := Int) (δ := Str) K (fun _ n => 0 ≤ n ∧ n ≤ 40) (fun _ n z => (z.cps.toList.length : Int) ≤ n ∧ ∀ c ∈ z.cps.toList, isKey c)
theorem ok_L_row {P : Program} {w : World} {K : PySem.W.Frag} {mg : Str → Option Value} {base : Heap} (T : Top K mg) {f_L_choice : Addr} {fd_L_choice : FuncData} (C_L_choice : Cal P w K mg base CX0 2 "_law_choice" ["_law_source_here", "_law_items"] (SP_L_choice K) f_L_choice fd_L_choice) {f_L_draw : Addr} {fd_L_draw : FuncData} (C_L_draw : Cal P w K mg base CX0 1 "_law_draw" ["_law_source_here", "_law_size"] (SP_L_draw K) f_L_draw fd_L_draw) {f : Addr} {fd : FuncData} (F : FnP K "_law_row" s_L_row f fd) : FnOk P w K mg base CX0 3 f fd ["_law_source_here", "_law_most"] (SP_L_row K) := by
  refine okn2 F sc_L_row rfl (fun x0 x1 => [some x0, some x1, none, none]) (fun _ _ => rfl) (fun H Q x0 x1 a0 a1 h0 h1 hp q cdv A outer s E hr => ⟨_, PSs.nox (pss_cons (ps_set (i := 2) sc_L_row.nd rfl (.inr rfl) (pe_call C_L_choice.ok (hr.mono (by decide)) (by rfl) C_L_choice.mg C_L_choice.kp C_L_choice.bd .nil pass0 (pa_cons (pv 0) (pa_cons (pe_lst (pa_cons pe_str (pa_cons pe_str (pa_cons pe_str (pa_cons pe_str (pa_cons pe_str pa_nil)))))) pa_nil))))
      (pss_one (ps_ret (pe_join pe_str (pe_lc (own := [("_law_key_so", 3)]) (g := gName 3) (tt := tYes)  rfl sc_L_row.nd (pi_range1 (by rfl) T.b_range (pa_cons (pe_call C_L_draw.ok (hr.mono (by decide)) (by rfl) C_L_draw.mg C_L_draw.kp C_L_draw.bd .nil pass0 (pa_cons (pv 0) (pa_cons (pe_op op_add (pv 1) pe_int) pa_nil))) pa_nil)) (blkOk_by (own := [("_law_key_so", 3)]) (N := ["_law_source_here", "_law_most", "_law_signs", "_law_key_so"]) (sc := defScope s_L_row) (by decide +kernel)) (fun _ _ _ _ _ => (pg_name (i := 3) sc_L_row.nd rfl (.inl rfl))) (fun _ _ _ _ _ => pts_nil) (fun _ _ _ _ _ => (pe_call C_L_choice.ok (hr.mono (by decide)) (by rfl) C_L_choice.mg C_L_choice.kp C_L_choice.bd .nil pass0 (pa_cons (pv 0) (pa_cons (pe_callTy (call_listZ rfl) (by rfl) T.b_list (by decide +kernel) (pa_cons (pv 2) pa_nil)) pa_nil))))))))), ?_⟩)
  cases h1
  have sr : ∀ {H' : Hp} {b c d : Option V}, Ex H H' → ER K (tVar 0) [some x0, b, c, d] H' Src.mk := fun e => er_var rfl (Rep.mono e h0)
  refine n_set (α := Str) K (P := fun z => z.length ≤ 100000 ∧ z.cps.toList ≠ [] ∧ ∀ c ∈ z.cps.toList, isKey c) (en_pick (sr (Ex.refl _)) (ens_cons (en_of er_str (by decide)) (ens_cons (en_of er_str (by decide)) (ens_cons (en_of er_str (by decide)) (ens_cons (en_of er_str (by decide)) (ens_cons (en_of er_str (by decide)) ens_nil))))) (by omega) (by omega)) (fun _ => .s (.s .z)) (fun z v H1 hz e1 r => ?_)
  cases r
  have hlc : EN K (tLc (iRng1 (tCons (tCall (SP_draw K) [] E0 (tCons (tVar 0) (tCons (tOp (rI0 fun i j => .int (i + j)) (tVar 1) (tC (.int 1))) tNil))) tNil)) (gName 3) tYes (tCall (SP_choice K) [] E0 (tCons (tVar 0) (tCons (tCB rListZ (tCons (tVar 2) tNil)) tNil))) [3]) [some x0, some (V.int a1), some (V.str z), none] H1 (fun ys : List Sg => ∃ xs, (∃ n, (0 ≤ n ∧ n < a1 + 1) ∧ xs = rng 0 n.toNat) ∧ Paired (fun (_ : Int) (s : Sg) => isKey s.c) xs ys) := by
    refine en_lcY (fun (_ : Int) (s : Sg) => isKey s.c) (wkn_rng1 (P1 := fun n => 0 ≤ n ∧ n < a1 + 1) (en_draw (sr e1) (en_add (P := fun n => n = a1 + 1) (en_v rfl) en_c (fun i j hi hj => by omega)) (fun n hn => by omega) (fun n d hn d0 d1 => by omega)) (fun n hn => by omega)) ?_ ?_
    · rintro xs ⟨n, hn, rfl⟩
      rw [rng_len]
      omega
    · intro xs x v H2 _ _ e2 r Q' q'
      refine gn_ok (s1 := fun v => [some x0, some (V.int a1), some (V.str z), some v]) rfl (.s (.s (.s .z))) rfl (fun hw => q' _ H2 (Ex.refl _) hw ?_)
      refine en_choice (sr (e1.trans e2)) (en_of (er_listZ (er_varS rfl) hz.1) ⟨?_, ?_, ?_⟩)
      · have h1 := hz.2.1
        have h2 : z.cps.toList.length ≠ 0 := fun h => h1 (List.length_eq_zero_iff.mp h)
        simp only [sgs, List.length_map]
        omega
      · have h1 : z.cps.size ≤ 100000 := hz.1
        simp only [sgs, List.length_map, Array.length_toList]
        exact h1
      · intro s hs
        simp only [sgs, List.mem_map] at hs
        obtain ⟨c, hc, rfl⟩ := hs
        exact hz.2.2 c hc
  refine n_ret (α := Str) K (en_joinG hlc ?_) (fun y v H2 hy e2 r => ?_)
  · rintro ys ⟨xs, ⟨n, hn, rfl⟩, hp2⟩
    rw [paired_len hp2, rng_len]
    omega
  · obtain ⟨ys, ⟨xs, ⟨n, hn, rfl⟩, hp2⟩, rfl⟩ := hy
    refine q _ v H2 ⟨?_, ?_⟩ (e1.trans e2) r
    · rw [unsg_codes, List.length_map, paired_len hp2, rng_len]
      omega
    · intro c hc
      rw [unsg_codes] at hc
      obtain ⟨s, hs, rfl⟩ := List.mem_map.mp hc
      exact paired_all hp2 (fun _ _ h => h) s hs
theorem sc_Field___init__ : FnScope ["self", "low", "high", "step", "base", "off", "ends", "big", "found"] ["self", "low", "high", "step", "base", "off", "ends", "big"] (defScope s_Field___init__) := ⟨rfl, rfl, rfl, by decide +kernel, rfl, by decide +kernel, by decide +kernel⟩
abbrev SP_Field___init__ (K : PySem.W.Frag) : Sp := spInitF K (He.ga K "Field")
theorem ok_Field___init__ {P : Program} {w : World} {K : PySem.W.Frag} {mg : Str → Option Value} {base : Heap} (T : Top K mg) {f_is_field : Addr} {fd_is_field : FuncData} (C_is_field : Cal P w K mg base CX0 2 "is_field" ["thing"] (SP_is_field K) f_is_field fd_is_field) {f : Addr} {fd : FuncData} (F : FnM K "__init__" "Field.__init__" [.int 1, .int 0, .str "next", .str "stop", .int 10] s_Field___init__ f fd) : FnOk P w K mg base CX0 3 f fd ["self", "low", "high", "step", "base", "off", "ends", "big"] (SP_Field___init__ K) := by
  refine F.ok sc_Field___init__ (fun vs H Q E hs => ?_) (fun cdv A outer s H vs Q E hr hs => ?_)
  · obtain ⟨x, dx, f, rfl, _⟩ := hs
    rfl
  · obtain ⟨x, dx, f, rfl, ok, hx, q⟩ := hs
    refine ⟨_, PSs.nox (pss_cons (ps_set (i := 8) sc_Field___init__.nd rfl (.inl rfl) (pe_tup (pa_cons (pv 1) (pa_cons (pv 2) (pa_cons (pv 3) (pa_cons (pv 4) (pa_cons (pv 5) (pa_cons (pv 6) (pa_cons (pv 7) pa_nil)))))))))
      (pss_cons (ps_if (pt_not (pt_val (pe_call C_is_field.ok (hr.mono (by decide)) (by rfl) C_is_field.mg C_is_field.kp C_is_field.bd .nil pass0 (pa_cons (pv 8) pa_nil)))) pss_never pss_nil)
      (pss_one (ps_fld (pv 0) (pv 8) rfl)))), ?_⟩
    refine q_set (α := Fld) K (x := f) (er_mkF (f := f) (er_varI rfl) (er_varI rfl) (er_varI rfl) (er_varI rfl) (er_varS rfl) (er_varS rfl) (er_varI rfl)) (fun _ => .s (.s (.s (.s (.s (.s (.s (.s .z)))))))) (fun v1 H1 e1 r1 => ?_)
    refine q_no K (et_is (ett_not (et_b (er_call1 (er_enc (α := Fld) (er_var rfl r1)) trivial))) (by rw [ok.isField]; rfl)) (fun H2 e2 => ?_)
    obtain ⟨p, rfl, hs⟩ := r1
    have hx2 := (e1.trans e2) _ _ hx
    exact ⟨.ref p, rfl, .ref x, rfl, x, He.ga K "Field", dx, [], rfl, hx2, T.k_Field.c, T.k_Field.no "parts" (by decide), by decide, q p _ (Eo.upd (e1.trans e2)) upd_same (sqT_ins hx2 (ex_t e2 hs))⟩
theorem sc_L_made : FnScope ["_law_field_here", "_law_low", "_law_high", "_law_step", "_law_base", "_law_off", "_law_ends", "_law_big"] ["_law_field_here"] (defScope s_L_made) := ⟨rfl, rfl, rfl, by decide +kernel, rfl, by decide +kernel, by decide +kernel⟩
abbrev SP_L_made (K : PySem.W.Frag) : Sp := sp1 (α := Fld) (δ := (FVal (He.ga K "Field"))) K (FOk) (fun f_ => (FVal.mk (C := He.ga K "Field") f_))
theorem ok_L_made {P : Program} {w : World} {K : PySem.W.Frag} {mg : Str → Option Value} {base : Heap} (T : Top K mg) {fd_Field___init__ : FuncData} (C_Field___init__ : CalM P w K mg base CX0 3 "Field" "__init__" ["self", "low", "high", "step", "base", "off", "ends", "big"] (SP_Field___init__ K) fd_Field___init__) {f : Addr} {fd : FuncData} (F : FnP K "_law_made" s_L_made f fd) : FnOk P w K mg base CX0 7 f fd ["_law_field_here"] (SP_L_made K) := by
  refine ok1 F sc_L_made rfl (fun x0 => [some x0, none, none, none, none, none, none, none]) (fun _ => rfl) (fun H Q x0 a0 h0 hp q cdv A outer s E hr => ⟨_, PSs.nox (pss_cons (ps_asg (pv 0) (pg_tup rfl (pgs_cons (pg_name (i := 1) sc_L_made.nd rfl (.inl rfl)) (pgs_cons (pg_name (i := 2) sc_L_made.nd rfl (.inl rfl)) (pgs_cons (pg_name (i := 3) sc_L_made.nd rfl (.inl rfl)) (pgs_cons (pg_name (i := 4) sc_L_made.nd rfl (.inl rfl)) (pgs_cons (pg_name (i := 5) sc_L_made.nd rfl (.inl rfl)) (pgs_cons (pg_name (i := 6) sc_L_made.nd rfl (.inl rfl)) (pgs_cons (pg_name (i := 7) sc_L_made.nd rfl (.inl rfl)) pgs_nil)))))))))
      (pss_one (ps_ret (pe_make T.k_Field.mkr C_Field___init__.ok (hr.mono (by decide)) (by rfl) T.k_Field.g C_Field___init__.bd .nil pass0 (pa_cons (pv 1) (pa_cons (pv 2) (pa_cons (pv 3) (pa_cons (pv 4) (pa_cons (pv 5) (pa_cons (pv 6) (pa_cons (pv 7) pa_nil))))))))))), ?_⟩)
  have E0 : Ex H H := Ex.refl H
  refine q_unpF rfl (er_var rfl h0) (fun H1 e1 => ?_)
  have h0 := Rep.mono e1 h0
  have E0 := E0.trans e1
  refine (g_cons (.s .z) (g_cons (.s (.s .z)) (g_cons (.s (.s (.s .z))) (g_cons (.s (.s (.s (.s .z)))) (g_cons (.s (.s (.s (.s (.s .z))))) (g_cons (.s (.s (.s (.s (.s (.s .z)))))) (g_cons (.s (.s (.s (.s (.s (.s (.s .z))))))) (g_nil ?_))))))))
  refine l_ret (α := (FVal (He.ga K "Field"))) K (er_mkFV (f := (Fld.mk a0.low a0.high a0.step a0.base a0.off a0.ends a0.big)) (evs_I (K := K) (er_varI rfl) (evs_I (K := K) (er_varI rfl) (evs_I (K := K) (er_varI rfl) (evs_I (K := K) (er_varI rfl) (evs_S (K := K) (er_varS rfl) (evs_S (K := K) (er_varS rfl) (evs_I (K := K) (er_varI rfl) evs_nil))))))) hp) (fun v2 H2 e2 r2 => q v2 H2 (E0.trans e2) ?_)
  refine (congrArg (Rep.rel K H2 v2) (?_ : ((FVal.mk (C := He.ga K "Field") (Fld.mk a0.low a0.high a0.step a0.base a0.off a0.ends a0.big)) : (FVal (He.ga K "Field"))) = _)).mp r2
  rfl
theorem sc_L_steps : FnScope ["_law_field_here", "_law_low", "_law_high", "_law_step", "_law_base"] ["_law_field_here"] (defScope s_L_steps) := ⟨rfl, rfl, rfl, by decide +kernel, rfl, by decide +kernel, by decide +kernel⟩
abbrev SP_L_steps (K : PySem.W.Frag) : Sp := sp1 (α := Fld) (δ := (List Int)) K (fun f_ => FOk f_ ∧ f_.step < 1073741824 ∧ f_.high - f_.low ≤ 90000 * f_.step) (fun f_ => stepsL f_)
theorem ok_L_steps {P : Program} {w : World} {K : PySem.W.Frag} {mg : Str → Option Value} {base : Heap} (T : Top K mg) {f : Addr} {fd : FuncData} (F : FnP K "_law_steps" s_L_steps f fd) : FnOk P w K mg base CX0 1 f fd ["_law_field_here"] (SP_L_steps K) := by
  refine ok1 F sc_L_steps rfl (fun x0 => [some x0, none, none, none, none]) (fun _ => rfl) (fun H Q x0 a0 h0 hp q cdv A outer s E hr => ⟨_, PSs.nox (pss_cons (ps_asg (pe_slice sl_tup (pv 0) po_none (po_some pe_int)) (pg_tup rfl (pgs_cons (pg_name (i := 1) sc_L_steps.nd rfl (.inl rfl)) (pgs_cons (pg_name (i := 2) sc_L_steps.nd rfl (.inl rfl)) (pgs_cons (pg_name (i := 3) sc_L_steps.nd rfl (.inl rfl)) (pgs_cons (pg_name (i := 4) sc_L_steps.nd rfl (.inl rfl)) pgs_nil))))))
      (pss_one (ps_ret (pe_listRgC rfl (by rfl) T.b_list (by rfl) T.b_range (pa_cons (pe_op op_sub (pv 4) (pe_op op_mul (pe_op op_fdivW (pe_op op_sub (pv 4) (pv 1)) (pv 3)) (pv 3))) (pa_cons (pe_op op_add (pv 2) pe_int) (pa_cons (pv 3) pa_nil))))))), ?_⟩)
  have E0 : Ex H H := Ex.refl H
  obtain ⟨ok_f, hw⟩ := hp
  obtain ⟨l0_f, lh_f, h1_f, s0_f, s1_f, b0_f, b1_f, off_f, ends_f, g0_f, g1_f, on_f⟩ := ok_f
  have ok_f : FOk a0 := ⟨l0_f, lh_f, h1_f, s0_f, s1_f, b0_f, b1_f, off_f, ends_f, g0_f, g1_f, on_f⟩
  have hgi := grid_in ok_f.fl
  have hF : (gridOf a0).1 = a0.base - (a0.base - a0.low) / a0.step * a0.step := rfl
  have hT : (gridOf a0).2 = a0.base + (a0.high - a0.base) / a0.step * a0.step := rfl
  rw [hF, hT] at hgi
  refine q_unp (lo := none) (hi := (some 4)) (er_var rfl h0) (fun _ _ h => h) (fun _ _ h => ⟨4, rfl, h⟩) (by decide) rfl rfl (fun H1 e1 => ?_)
  have h0 := Rep.mono e1 h0
  have E0 := E0.trans e1
  refine (g_cons (.s .z) (g_cons (.s (.s .z)) (g_cons (.s (.s (.s .z))) (g_cons (.s (.s (.s (.s .z)))) (g_nil ?_)))))
  refine l_ret (α := (List Int)) K (er_listRgC (er_sub (er_varI rfl) (er_mul (er_div (er_sub (er_varI rfl) (er_varI rfl)) (er_varI rfl) (cdivw (by walk_at "sd") (by walk_at "sd"))) (er_varI rfl) (by walk_at "mc"))) (er_add (er_varI rfl) er_int) (er_varI rfl) (by omega) (by omega) (by omega) (by omega) (by omega)) (fun v2 H2 e2 r2 => q v2 H2 (E0.trans e2) ?_)
  refine (congrArg (Rep.rel K H2 v2) (?_ : ((rgC (a0.base - (((a0.base - a0.low) / a0.step) * a0.step)) a0.step (if (a0.base - (((a0.base - a0.low) / a0.step) * a0.step)) < (a0.high + 1) then (((a0.high + 1) - (a0.base - (((a0.base - a0.low) / a0.step) * a0.step)) - 1) / a0.step + 1).toNat else 0)) : (List Int)) = _)).mp r2
  exact steps_rgC ok_f.fl ok_f.on
theorem sc_Field_source : FnScope ["self"] ["self"] (defScope s_Field_source) := ⟨rfl, rfl, rfl, by decide +kernel, rfl, by decide +kernel, by decide +kernel⟩
abbrev SP_Field_source (K : PySem.W.Frag) : Sp := sp1 (α := (FVal (He.ga K "Field"))) (δ := Fld) K (fun _ => True) (fun x_ => x_.f)
theorem ok_Field_source {P : Program} {w : World} {K : PySem.W.Frag} {mg : Str → Option Value} {base : Heap} (T : Top K mg) {f : Addr} {fd : FuncData} (F : FnM K "source" "Field.source" [] s_Field_source f fd) : FnOk P w K mg base CX0 1 f fd ["self"] (SP_Field_source K) := by
  refine ok1 F sc_Field_source rfl (fun x0 => [some x0]) (fun _ => rfl) (fun H Q x0 a0 h0 hp q cdv A outer s E hr => ⟨_, PSs.nox (pss_one (ps_ret (pe_fld (pv 0) rfl))), ?_⟩)
  have E0 : Ex H H := Ex.refl H
  refine l_ret (α := Fld) K (er_parts T.k_Field.c (T.k_Field.no "parts" (by decide)) (er_var rfl h0)) (fun v1 H1 e1 r1 => q v1 H1 (E0.trans e1) ?_)
  refine (congrArg (Rep.rel K H1 v1) (?_ : (a0.f : Fld) = _)).mp r1
  rfl
theorem sc_rests_of : FnScope ["field", "low", "high", "step", "base", "half", "some", "end", "more", "rest"] ["field"] (defScope s_rests_of) := ⟨rfl, rfl, rfl, by decide +kernel, rfl, by decide +kernel, by decide +kernel⟩
abbrev SP_rests_of (K : PySem.W.Frag) : Sp := sp1 (α := Fld) (δ := (List Int)) K (FOk) (restsOf)
theorem ok_rests_of {P : Program} {w : World} {K : PySem.W.Frag} {mg : Str → Option Value} {base : Heap} (T : Top K mg) {f : Addr} {fd : FuncData} (F : FnP K "rests_of" s_rests_of f fd) : FnOk P w K mg base CX0 1 f fd ["field"] (SP_rests_of K) := by
  refine ok1 F sc_rests_of rfl (fun x0 => [some x0, none, none, none, none, none, none, none, none, none]) (fun _ => rfl) (fun H Q x0 a0 h0 hp q cdv A outer s E hr => ⟨_, PSs.nox (pss_cons (ps_asg (pe_slice sl_tup (pv 0) po_none (po_some pe_int)) (pg_tup rfl (pgs_cons (pg_name (i := 1) sc_rests_of.nd rfl (.inl rfl)) (pgs_cons (pg_name (i := 2) sc_rests_of.nd rfl (.inl rfl)) (pgs_cons (pg_name (i := 3) sc_rests_of.nd rfl (.inr rfl)) (pgs_cons (pg_name (i := 4) sc_rests_of.nd rfl (.inr rfl)) pgs_nil))))))
      (pss_cons (ps_set (i := 5) sc_rests_of.nd rfl (.inl rfl) (pe_op op_fdivW (pe_op op_add (pv 3) pe_int) pe_int))
      (pss_cons (ps_set (i := 6) sc_rests_of.nd rfl (.inl rfl) (pe_lst (pa_cons pe_int (pa_cons pe_int (pa_cons (pe_op op_sub (pv 5) pe_int) (pa_cons (pv 5) (pa_cons (pe_op op_add (pv 5) pe_int) (pa_cons (pe_op op_sub (pv 3) pe_int) pa_nil))))))))
      (pss_cons (ps_for PassesOwn.never rfl (pi_tup (pe_tup (pa_cons (pv 1) (pa_cons (pv 2) pa_nil)))) (pg_name (i := 7) sc_rests_of.nd rfl (.inr rfl)) (pss_one (ps_set (i := 6) sc_rests_of.nd rfl (.inl rfl) (pe_op op_cat (pv 6) (pe_lc (own := [("more", 8)]) (g := gName 8) (tt := tYes)  rfl sc_rests_of.nd (pi_tup (pe_tup (pa_cons (pe_un un_neg pe_int) (pa_cons pe_int (pa_cons pe_int pa_nil))))) (blkOk_by (own := [("more", 8)]) (N := ["field", "low", "high", "step", "base", "half", "some", "end", "more", "rest"]) (sc := defScope s_rests_of) (by decide +kernel)) (fun _ _ _ _ _ => (pg_name (i := 8) sc_rests_of.nd rfl (.inl rfl))) (fun _ _ _ _ _ => pts_nil) (fun _ _ _ _ _ => (pe_op op_add (pe_op op_mod (pe_op op_sub (pv 7) (pv 4)) (pv 3)) (pv 8))))))))
      (pss_one (ps_ret (pe_sortSet (by rfl) T.b_sorted (by rfl) T.b_set (pe_lc (own := [("rest", 9)]) (g := gName 9) (tt := tYes)  rfl sc_rests_of.nd (pi_list (pv 6)) (blkOk_by (own := [("rest", 9)]) (N := ["field", "low", "high", "step", "base", "half", "some", "end", "more", "rest"]) (sc := defScope s_rests_of) (by decide +kernel)) (fun _ _ _ _ _ => (pg_name (i := 9) sc_rests_of.nd rfl (.inl rfl))) (fun _ _ _ _ _ => pts_nil) (fun _ _ _ _ _ => (pe_op op_mod (pv 9) (pv 3))))))))))), ?_⟩)
  have E0 : Ex H H := Ex.refl H
  have ok_f := hp
  obtain ⟨l0_f, lh_f, h1_f, s0_f, s1_f, b0_f, b1_f, off_f, ends_f, g0_f, g1_f, on_f⟩ := ok_f
  have ok_f : FOk a0 := ⟨l0_f, lh_f, h1_f, s0_f, s1_f, b0_f, b1_f, off_f, ends_f, g0_f, g1_f, on_f⟩
  refine q_unp (lo := none) (hi := (some 4)) (er_var rfl h0) (fun _ _ h => h) (fun _ _ h => ⟨4, rfl, h⟩) (by decide) rfl rfl (fun H1 e1 => ?_)
  have h0 := Rep.mono e1 h0
  have E0 := E0.trans e1
  refine (g_cons (.s .z) (g_cons (.s (.s .z)) (g_cons (.s (.s (.s .z))) (g_cons (.s (.s (.s (.s .z)))) (g_nil ?_)))))
  obtain ⟨half, d_half⟩ : ∃ z : Int, z = ((a0.step + 1) / 2) := ⟨_, rfl⟩
  refine q_setI K (er_is (er_div (er_add (er_varI rfl) er_int) er_int (cdivw (by walk_at "sd") (by walk_at "sd"))) d_half.symm) (fun _ => (.s (.s (.s (.s (.s .z)))))) (fun H2 e2 => ?_)
  have h0 := Rep.mono e2 h0
  have E0 := E0.trans e2
  refine q_set (α := (List Int)) K (er_lst (eas_cons er_int (eas_cons er_int (eas_cons (er_sub (er_varI rfl) er_int) (eas_cons (er_varI rfl) (eas_cons (er_add (er_varI rfl) er_int) (eas_cons (er_sub (er_varI rfl) er_int) eas_nil)))))) (Nat.le_of_ble_eq_true rfl)) (fun _ => (.s (.s (.s (.s (.s (.s .z))))))) (fun v3 H3 e3 r_3 => ?_)
  have h0 := Rep.mono e3 h0
  have E0 := E0.trans e3
  refine q_for K (α := Int) (xs := ([a0.low, a0.high] : List Int)) (wk_tup (er_tpl (eas_cons (er_varI rfl) (eas_cons (er_varI rfl) eas_nil)) (Nat.le_of_ble_eq_true rfl))) (fun pre4 σ' H' => ∃ o4_7, ∃ (w_some_ : V), ∃ (some_ : (List Int)), σ' = [some x0, some (V.int a0.low), some (V.int a0.high), some (V.int a0.step), some (V.int a0.base), some (V.int half), some w_some_, o4_7, none, none] ∧ Ey H3 H' ∧ (Rep.rel K H' w_some_ some_ ∧ (some_ = rests0 a0 ++ pre4.flatMap (restsE a0))) ∧ Ex H H') (fun H1 e1 => ⟨_, _, ([0, 1, (half - 1), half, (half + 1), (a0.step - 1)] : List Int), rfl, e1.y, ⟨(Rep.mono e1 r_3), by rw [List.flatMap_nil, List.append_nil, d_half]; rfl⟩, E0.trans e1⟩) (fun L4 pre4 y4 post4 v4 σ' A4 B4 b4 hx4 p4 pp4 c4 r4 => ?_) (fun σ' Z4 z4 pp4 => ?_)
  · obtain ⟨o4_7, w_some_, some_, rfl, q4, ⟨r_some_, i_some_⟩, E0⟩ := pp4
    have hm4 : y4 ∈ ([a0.low, a0.high] : List Int) := by
      rw [hx4]
      exact List.mem_append_right _ (List.mem_cons_self ..)
    have t4 := p4.trans c4.y
    have g4 := q4.trans c4.y
    have h0 := Rep.moY g4 h0
    have E0 := E0.trans c4
    have r_some_ := Rep.mono c4 r_some_
    cases r4
    refine g_name1 (.s (.s (.s (.s (.s (.s (.s .z))))))) ?_
    obtain ⟨some_1, d_some_1⟩ : ∃ z : (List Int), z = (some_ ++ (([(-1), 0, 1] : List Int).map fun more => (((y4 - a0.base) % a0.step) + more))) := ⟨_, rfl⟩
    refine l_set (α := (List Int)) K (er_is (er_cat (er_var rfl r_some_) (er_lcY (fun more : Int => (((y4 - a0.base) % a0.step) + more)) (wk_tup (er_tpl (eas_cons (er_neg er_int) (eas_cons er_int (eas_cons er_int eas_nil))) (Nat.le_of_ble_eq_true rfl))) (Nat.le_of_ble_eq_true rfl) (fun more w6 H6 hx6 e6 r6 Q6 q6 => gn_ok (s0 := [some x0, some (V.int a0.low), some (V.int a0.high), some (V.int a0.step), some (V.int a0.base), some (V.int half), some w_some_, some (V.int y4), none, none]) (s1 := fun w6 => [some x0, some (V.int a0.low), some (V.int a0.high), some (V.int a0.step), some (V.int a0.base), some (V.int half), some w_some_, some (V.int y4), some w6, none]) rfl (.s (.s (.s (.s (.s (.s (.s (.s .z)))))))) rfl (fun hw => q6 _ H6 (Ex.refl _) hw (er_add (er_mod (er_sub (er_varI rfl) (er_varI rfl)) (er_varI rfl) (by walk_at "sd")) (er_var rfl r6))))) (by rw [i_some_, List.length_append]; have := flat_pre (g := restsE a0) (n := 3) (m := 2) hx4 (Nat.le_refl 2) (fun _ => Nat.le_refl 3); show 6 + _ + 3 ≤ 100000; omega)) d_some_1.symm) (fun _ => (.s (.s (.s (.s (.s (.s .z))))))) (fun v5 H5 e5 r_5 => ?_)
    have h0 := Rep.mono e5 h0
    have r_some_ := Rep.mono e5 r_some_
    have g4 := g4.trans e5.y
    have t4 := t4.trans e5.y
    have E0 := E0.trans e5
    exact ⟨t4, _, _, some_1, rfl, g4, ⟨r_5, by rw [d_some_1, i_some_, List.flatMap_append, List.append_assoc]; simp only [List.flatMap_cons, List.flatMap_nil, List.append_nil]; rfl⟩, E0⟩
  obtain ⟨o4_7, w_some_, some_, rfl, q4, ⟨r_some_, i_some_⟩, E0⟩ := pp4
  have h0 := Rep.moY q4 h0
  refine l_ret (α := (List Int)) K (er_sortSet (er_lcY (fun rest : Int => (rest % a0.step)) (wk_list (er_var rfl r_some_)) (by rw [i_some_]; exact Nat.le_of_ble_eq_true rfl) (fun rest w8 H8 hx8 e8 r8 Q8 q8 => gn_ok (s0 := [some x0, some (V.int a0.low), some (V.int a0.high), some (V.int a0.step), some (V.int a0.base), some (V.int half), some w_some_, o4_7, none, none]) (s1 := fun w8 => [some x0, some (V.int a0.low), some (V.int a0.high), some (V.int a0.step), some (V.int a0.base), some (V.int half), some w_some_, o4_7, none, some w8]) rfl (.s (.s (.s (.s (.s (.s (.s (.s (.s .z))))))))) rfl (fun hw => q8 _ H8 (Ex.refl _) hw (er_mod (er_var rfl r8) (er_varI rfl) (by walk_at "sd"))))) (by rw [List.length_map, i_some_]; exact Nat.le_of_ble_eq_true rfl)) (fun v7 H7 e7 r7 => q v7 H7 (E0.trans e7) ?_)
  refine (congrArg (Rep.rel K H7 v7) (?_ : ((sortU (some_.map fun rest => (rest % a0.step))) : (List Int)) = _)).mp r7
  rw [i_some_]
  rfl
theorem sc_values_of : FnScope ["field", "many", "low", "high", "step", "base", "found", "centre", "place", "near", "index", "value", "rest"] ["field", "many"] (defScope s_values_of) := ⟨rfl, rfl, rfl, by decide +kernel, rfl, by decide +kernel, by decide +kernel⟩
abbrev SP_values_of (K : PySem.W.Frag) : Sp := sp2 (α := Fld) (β := Int) (δ := (List Int)) K (fun f_ m_ => FOk f_ ∧ (f_.high - f_.low ≤ 400 ∨ (0 ≤ m_ ∧ m_ ≤ 79))) (fun f_ m_ => valuesOf f_ m_)
theorem ok_values_of {P : Program} {w : World} {K : PySem.W.Frag} {mg : Str → Option Value} {base : Heap} (T : Top K mg) {f_rests_of : Addr} {fd_rests_of : FuncData} (C_rests_of : Cal P w K mg base CX0 1 "rests_of" ["field"] (SP_rests_of K) f_rests_of fd_rests_of) {f : Addr} {fd : FuncData} (F : FnP K "values_of" s_values_of f fd) : FnOk P w K mg base CX0 2 f fd ["field", "many"] (SP_values_of K) := by
  obtain ⟨tk_FEW, g_FEW⟩ := T.g_FEW
  refine ok2 F sc_values_of rfl (fun x0 x1 => [some x0, some x1, none, none, none, none, none, none, none, none, none, none, none]) (fun _ _ => rfl) (fun H Q x0 x1 a0 a1 h0 h1 hp q cdv A outer s E hr => ⟨_, PSs.nox (pss_cons (ps_asg (pe_slice sl_tup (pv 0) po_none (po_some pe_int)) (pg_tup rfl (pgs_cons (pg_name (i := 2) sc_values_of.nd rfl (.inr rfl)) (pgs_cons (pg_name (i := 3) sc_values_of.nd rfl (.inr rfl)) (pgs_cons (pg_name (i := 4) sc_values_of.nd rfl (.inr rfl)) (pgs_cons (pg_name (i := 5) sc_values_of.nd rfl (.inr rfl)) pgs_nil))))))
      (pss_cons (ps_if (pt_cmpR op_le (pe_op op_sub (pv 3) (pv 2)) (pe_glob (v := .int 400) (by rfl) g_FEW ⟨_, rfl⟩) (nomark _)) (pss_one (ps_ret (pe_listRg rfl (by rfl) T.b_list (prg_2 (by rfl) T.b_range (pv 2) (pe_op op_add (pv 3) pe_int))))) pss_nil)
      (pss_cons (ps_set (i := 6) sc_values_of.nd rfl (.inl rfl) (pe_lst (pa_cons (pv 2) (pa_cons (pe_op op_add (pv 2) pe_int) (pa_cons (pe_op op_sub (pv 3) pe_int) (pa_cons (pv 3) pa_nil))))))
      (pss_cons (ps_for PassesOwn.never rfl (pi_tup (pe_tup (pa_cons (pv 2) (pa_cons (pe_op op_fdivW (pe_op op_add (pv 2) (pv 3)) pe_int) (pa_cons (pv 3) pa_nil))))) (pg_name (i := 7) sc_values_of.nd rfl (.inl rfl)) (pss_cons (ps_set (i := 8) sc_values_of.nd rfl (.inl rfl) (pe_op op_fdivW (pe_op op_sub (pv 7) (pv 5)) (pv 4)))
      (pss_cons (ps_set (i := 9) sc_values_of.nd rfl (.inl rfl) (pe_ifExp (pt_cmpR op_ne (pv 7) (pe_op op_fdivW (pe_op op_add (pv 2) (pv 3)) pe_int) (nomark _)) (pe_op op_add (pv 1) pe_int) pe_int))
      (pss_one (ps_for PassesOwn.never rfl (pi_range2 (by rfl) T.b_range (pa_cons (pe_op op_sub (pv 8) (pv 9)) (pa_cons (pe_op op_add (pe_op op_add (pv 8) (pv 9)) pe_int) pa_nil))) (pg_name (i := 10) sc_values_of.nd rfl (.inr rfl)) (pss_one (ps_set (i := 6) sc_values_of.nd rfl (.inl rfl) (pe_op op_cat (pv 6) (pe_lc (own := [("rest", 12)]) (g := gName 12) (tt := tYes)  rfl sc_values_of.nd (pi_list (pe_call C_rests_of.ok (hr.mono (by decide)) (by rfl) C_rests_of.mg C_rests_of.kp C_rests_of.bd .nil pass0 (pa_cons (pv 0) pa_nil))) (blkOk_by (own := [("rest", 12)]) (N := ["field", "many", "low", "high", "step", "base", "found", "centre", "place", "near", "index", "value", "rest"]) (sc := defScope s_values_of) (by decide +kernel)) (fun _ _ _ _ _ => (pg_name (i := 12) sc_values_of.nd rfl (.inl rfl))) (fun _ _ _ _ _ => pts_nil) (fun _ _ _ _ _ => (pe_op op_add (pe_op op_add (pv 5) (pe_op op_mul (pv 10) (pv 4))) (pv 12))))))))))))
      (pss_one (ps_ret (pe_sortSet (by rfl) T.b_sorted (by rfl) T.b_set (pe_lc (own := [("value", 11)]) (g := gName 11)  rfl sc_values_of.nd (pi_list (pv 6)) (blkOk_by (own := [("value", 11)]) (N := ["field", "many", "low", "high", "step", "base", "found", "centre", "place", "near", "index", "value", "rest"]) (sc := defScope s_values_of) (by decide +kernel)) (fun _ _ _ _ _ => (pg_name (i := 11) sc_values_of.nd rfl (.inl rfl))) (fun _ _ _ _ _ => (pts_one (pt_chain op_le op_le (pv 2) (pv 11) (pv 3)))) (fun _ _ _ _ _ => (pv 11)))))))))), ?_⟩)
  cases h1
  have E0 : Ex H H := Ex.refl H
  obtain ⟨ok_f, hw⟩ := hp
  obtain ⟨l0_f, lh_f, h1_f, s0_f, s1_f, b0_f, b1_f, off_f, ends_f, g0_f, g1_f, on_f⟩ := ok_f
  have ok_f : FOk a0 := ⟨l0_f, lh_f, h1_f, s0_f, s1_f, b0_f, b1_f, off_f, ends_f, g0_f, g1_f, on_f⟩
  refine q_unp (lo := none) (hi := (some 4)) (er_var rfl h0) (fun _ _ h => h) (fun _ _ h => ⟨4, rfl, h⟩) (by decide) rfl rfl (fun H1 e1 => ?_)
  have h0 := Rep.mono e1 h0
  have E0 := E0.trans e1
  refine (g_cons (.s (.s .z)) (g_cons (.s (.s (.s .z))) (g_cons (.s (.s (.s (.s .z)))) (g_cons (.s (.s (.s (.s (.s .z))))) (g_nil ?_)))))
  refine q_if0 K (b := (decide ((a0.high - a0.low) ≤ 400))) (et_t (er_le (er_sub (er_varI rfl) (er_varI rfl)) er_int)) (fun c2 H2 e2 => ?_) (fun c2 H2 e2 => ?_)
  · skip
    have h0 := Rep.mono e2 h0
    have E0 := E0.trans e2
    have hcond := c2
    refine l_ret (α := (List Int)) K (er_listRg2 (er_varI rfl) (er_add (er_varI rfl) er_int) ⟨by omega, by omega, by omega, by omega⟩ (by simp only [decide_eq_true_eq] at hcond; omega)) (fun v3 H3 e3 r3 => q v3 H3 (E0.trans e3) ?_)
    refine (congrArg (Rep.rel K H3 v3) (?_ : ((rng a0.low ((a0.high + 1) - a0.low : Int).toNat) : (List Int)) = _)).mp r3
    unfold valuesOf
    rw [if_pos (of_decide_eq_true hcond)]
  have h0 := Rep.mono e2 h0
  have E0 := E0.trans e2
  have hcond := c2
  have hmm : 0 ≤ a1 ∧ a1 ≤ 79 := by
    simp only [decide_eq_false_iff_not] at hcond
    omega
  refine q_set (α := (List Int)) K (er_lst (eas_cons (er_varI rfl) (eas_cons (er_add (er_varI rfl) er_int) (eas_cons (er_sub (er_varI rfl) er_int) (eas_cons (er_varI rfl) eas_nil)))) (Nat.le_of_ble_eq_true rfl)) (fun _ => (.s (.s (.s (.s (.s (.s .z))))))) (fun v4 H4 e4 r_4 => ?_)
  have h0 := Rep.mono e4 h0
  have E0 := E0.trans e4
  refine q_for K (α := Int) (xs := ([a0.low, ((a0.low + a0.high) / 2), a0.high] : List Int)) (wk_tup (er_tpl (eas_cons (er_varI rfl) (eas_cons (er_div (er_add (er_varI rfl) (er_varI rfl)) er_int (cdivw (by walk_at "sd") (by walk_at "sd"))) (eas_cons (er_varI rfl) eas_nil))) (Nat.le_of_ble_eq_true rfl))) (fun pre5 σ' H' => ∃ o5_7 o5_8 o5_9 o5_10, ∃ (w_found : V), ∃ (found : (List Int)), σ' = [some x0, some (V.int a1), some (V.int a0.low), some (V.int a0.high), some (V.int a0.step), some (V.int a0.base), some w_found, o5_7, o5_8, o5_9, o5_10, none, none] ∧ Ey H4 H' ∧ (Rep.rel K H' w_found found ∧ (found = spots0 a0 ++ pre5.flatMap (blockAt a0 a1))) ∧ Ex H H') (fun H1 e1 => ⟨_, _, _, _, _, ([a0.low, (a0.low + 1), (a0.high - 1), a0.high] : List Int), rfl, e1.y, ⟨(Rep.mono e1 r_4), by rw [List.flatMap_nil, List.append_nil]; rfl⟩, E0.trans e1⟩) (fun L5 pre5 y5 post5 v5 σ' A5 B5 b5 hx5 p5 pp5 c5 r5 => ?_) (fun σ' Z5 z5 pp5 => ?_)
  · obtain ⟨o5_7, o5_8, o5_9, o5_10, w_found, found, rfl, q5, ⟨r_found, i_found⟩, E0⟩ := pp5
    have hm5 : y5 ∈ ([a0.low, ((a0.low + a0.high) / 2), a0.high] : List Int) := by
      rw [hx5]
      exact List.mem_append_right _ (List.mem_cons_self ..)
    have t5 := p5.trans c5.y
    have g5 := q5.trans c5.y
    have h0 := Rep.moY g5 h0
    have E0 := E0.trans c5
    have r_found := Rep.mono c5 r_found
    cases r5
    refine g_name1 (.s (.s (.s (.s (.s (.s (.s .z))))))) ?_
    have hy : y5 = a0.low ∨ y5 = (a0.low + a0.high) / 2 ∨ y5 = a0.high := by
      simp only [List.mem_cons, List.not_mem_nil, or_false] at hm5
      exact hm5
    obtain ⟨place, d_place⟩ : ∃ z : Int, z = ((y5 - a0.base) / a0.step) := ⟨_, rfl⟩
    refine q_setI K (er_is (er_div (er_sub (er_varI rfl) (er_varI rfl)) (er_varI rfl) (cdivw (by walk_at "sd") (by walk_at "sd"))) d_place.symm) (fun _ => (.s (.s (.s (.s (.s (.s (.s (.s .z))))))))) (fun H6 e6 => ?_)
    have h0 := Rep.mono e6 h0
    have r_found := Rep.mono e6 r_found
    have g5 := g5.trans e6.y
    have t5 := t5.trans e6.y
    have E0 := E0.trans e6
    have hda := div_abs (x := y5 - a0.base) s0_f
    have hpl : -4000000000000 ≤ place ∧ place ≤ 4000000000000 := by omega
    obtain ⟨near, d_near⟩ : ∃ z : Int, z = (if (!decide (y5 = ((a0.low + a0.high) / 2))) = true then (a1 + 2) else 1) := ⟨_, rfl⟩
    refine q_setI K (er_is (er_if (et_t (er_neI (er_varI rfl) (er_div (er_add (er_varI rfl) (er_varI rfl)) er_int (cdivw (by walk_at "sd") (by walk_at "sd"))))) (fun hc => (er_add (er_varI rfl) er_int)) (fun hc => er_int)) d_near.symm) (fun _ => (.s (.s (.s (.s (.s (.s (.s (.s (.s .z)))))))))) (fun H7 e7 => ?_)
    have h0 := Rep.mono e7 h0
    have r_found := Rep.mono e7 r_found
    have g5 := g5.trans e7.y
    have t5 := t5.trans e7.y
    have E0 := E0.trans e7
    have hnr : 1 ≤ near ∧ near ≤ 81 := by
      rw [d_near]
      split <;> omega
    refine for_wk K (α := Int) (xs := (rng (place - near) (((place + near) + 1) - (place - near) : Int).toNat)) (wk_rng2 (er_sub (er_varI rfl) (er_varI rfl)) (er_add (er_add (er_varI rfl) (er_varI rfl)) er_int) ⟨by walk_at "sd", by walk_at "sd", by walk_at "sd", by walk_at "sd"⟩) (fun pre8 σ' H' => ∃ o8_10, ∃ (w_found1 : V), ∃ (found1 : (List Int)), σ' = [some x0, some (V.int a1), some (V.int a0.low), some (V.int a0.high), some (V.int a0.step), some (V.int a0.base), some w_found1, some (V.int y5), some (V.int place), some (V.int near), o8_10, none, none] ∧ Ey H7 H' ∧ (Rep.rel K H' w_found1 found1 ∧ (found1 = found ++ pre8.flatMap (rowAt a0))) ∧ Ex H H') (fun H1 e1 => ⟨_, _, found, rfl, e1.y, ⟨(Rep.mono e1 r_found), by rw [List.flatMap_nil, List.append_nil]⟩, E0.trans e1⟩) (fun L8 pre8 y8 post8 v8 σ' A8 B8 b8 hx8 p8 pp8 c8 r8 => ?_) (fun σ' Z8 z8 pp8 => ?_)
    · obtain ⟨o8_10, w_found1, found1, rfl, q8, ⟨r_found1, i_found1⟩, E0⟩ := pp8
      have hm8 : y8 ∈ (rng (place - near) (((place + near) + 1) - (place - near) : Int).toNat) := by
        rw [hx8]
        exact List.mem_append_right _ (List.mem_cons_self ..)
      have hr8 := rng_mem.mp hm8
      have t8 := p8.trans c8.y
      have g8 := q8.trans c8.y
      have h0 := Rep.moY g8 h0
      have g5 := g5.trans g8
      have t5 := t5.trans g8
      have E0 := E0.trans c8
      have r_found1 := Rep.mono c8 r_found1
      cases r8
      refine g_name1 (.s (.s (.s (.s (.s (.s (.s (.s (.s (.s .z)))))))))) ?_
      
      obtain ⟨found2, d_found2⟩ : ∃ z : (List Int), z = (found1 ++ ((restsOf a0).map fun rest => ((a0.base + (y8 * a0.step)) + rest))) := ⟨_, rfl⟩
      refine l_set (α := (List Int)) K (er_is (er_cat (er_var rfl r_found1) (er_lcY (fun rest : Int => ((a0.base + (y8 * a0.step)) + rest)) (wk_list (er_call1 (er_var rfl h0) ok_f)) (Nat.le_trans restsOf_len (by decide)) (fun rest w10 H10 hx10 e10 r10 Q10 q10 => gn_ok (s0 := [some x0, some (V.int a1), some (V.int a0.low), some (V.int a0.high), some (V.int a0.step), some (V.int a0.base), some w_found1, some (V.int y5), some (V.int place), some (V.int near), some (V.int y8), none, none]) (s1 := fun w10 => [some x0, some (V.int a1), some (V.int a0.low), some (V.int a0.high), some (V.int a0.step), some (V.int a0.base), some w_found1, some (V.int y5), some (V.int place), some (V.int near), some (V.int y8), none, some w10]) rfl (.s (.s (.s (.s (.s (.s (.s (.s (.s (.s (.s (.s .z)))))))))))) rfl (fun hw => q10 _ H10 (Ex.refl _) hw (er_add (er_add (er_varI rfl) (er_mul (er_varI rfl) (er_varI rfl) (by walk_at "mc"))) (er_var rfl r10))))) (by rw [i_found1, i_found, List.length_append, List.length_append, List.length_map]; have k1 := flat_pre (g := blockAt a0 a1) (n := 1956) (m := 3) hx5 (Nat.le_refl 3) (fun _ => (block_len hmm).1); have k2 := flat_pre (g := rowAt a0) (n := 12) (m := 163) hx8 (by rw [rng_len]; omega) (fun _ => row_len); have k3 := restsOf_len (f := a0); show (4 + _) + _ + _ ≤ 100000; omega)) d_found2.symm) (fun _ => (.s (.s (.s (.s (.s (.s .z))))))) (fun v9 H9 e9 r_9 => ?_)
      have h0 := Rep.mono e9 h0
      have r_found1 := Rep.mono e9 r_found1
      have g5 := g5.trans e9.y
      have t5 := t5.trans e9.y
      have g8 := g8.trans e9.y
      have t8 := t8.trans e9.y
      have E0 := E0.trans e9
      exact ⟨t8, _, _, found2, rfl, g8, ⟨r_9, by rw [d_found2, i_found1, List.flatMap_append, List.append_assoc]; simp only [List.flatMap_cons, List.flatMap_nil, List.append_nil]; rfl⟩, E0⟩
    obtain ⟨o8_10, w_found1, found1, rfl, q8, ⟨r_found1, i_found1⟩, E0⟩ := pp8
    have h0 := Rep.moY q8 h0
    have g5 := g5.trans q8
    have t5 := t5.trans q8
    exact ⟨t5, _, _, _, _, _, found1, rfl, g5, ⟨r_found1, by rw [i_found1, i_found, block_eq d_place d_near, List.flatMap_append, List.append_assoc]; simp only [List.flatMap_cons, List.flatMap_nil, List.append_nil]⟩, E0⟩
  obtain ⟨o5_7, o5_8, o5_9, o5_10, w_found, found, rfl, q5, ⟨r_found, i_found⟩, E0⟩ := pp5
  have h0 := Rep.moY q5 h0
  refine l_ret (α := (List Int)) K (er_sortSet (er_lc (fun value : Int => ((decide (a0.low ≤ value)) && (decide (value ≤ a0.high)))) (fun value : Int => value) (wk_list (er_var rfl r_found)) (by rw [i_found]; exact Nat.le_trans (spots_len hmm) (by decide)) (fun value w12 H12 hx12 e12 r12 Q12 q12 => gn_ok (s0 := [some x0, some (V.int a1), some (V.int a0.low), some (V.int a0.high), some (V.int a0.step), some (V.int a0.base), some w_found, o5_7, o5_8, o5_9, o5_10, none, none]) (s1 := fun w12 => [some x0, some (V.int a1), some (V.int a0.low), some (V.int a0.high), some (V.int a0.step), some (V.int a0.base), some w_found, o5_7, o5_8, o5_9, o5_10, some w12, none]) rfl (.s (.s (.s (.s (.s (.s (.s (.s (.s (.s (.s .z))))))))))) rfl (fun hw => q12 _ H12 (Ex.refl _) hw (et_t (er_chain (r1 := (fun i j => (decide (i ≤ j)))) (r2 := (fun i j => (decide (i ≤ j)))) (er_varI rfl) (er_var rfl r12) (er_varI rfl))) (fun hf => (er_var rfl r12))))) (by rw [List.length_map]; exact Nat.le_trans (List.length_filter_le ..) (by rw [i_found]; exact spots_len hmm))) (fun v11 H11 e11 r11 => q v11 H11 (E0.trans e11) ?_)
  refine (congrArg (Rep.rel K H11 v11) (?_ : ((sortU ((found.filter fun value => ((decide (a0.low ≤ value)) && (decide (value ≤ a0.high)))).map fun value => value)) : (List Int)) = _)).mp r11
  unfold valuesOf
  rw [if_neg (of_decide_eq_false hcond), i_found, List.map_id']
  rfl
theorem sc_aim_of : FnScope ["field", "value", "many", "step", "base", "off"] ["field", "value", "many"] (defScope s_aim_of) := ⟨rfl, rfl, rfl, by decide +kernel, rfl, by decide +kernel, by decide +kernel⟩
abbrev SP_aim_of (K : PySem.W.Frag) : Sp := sp3 (α := Fld) (β := Int) (γ := Int) (δ := Int) K (fun f _ _ => FL f) (aimOf)
theorem ok_aim_of {P : Program} {w : World} {K : PySem.W.Frag} {mg : Str → Option Value} {base : Heap} (T : Top K mg) {f : Addr} {fd : FuncData} (F : FnP K "aim_of" s_aim_of f fd) : FnOk P w K mg base CX0 1 f fd ["field", "value", "many"] (SP_aim_of K) := by
  refine ok3 F sc_aim_of rfl (fun x0 x1 x2 => [some x0, some x1, some x2, none, none, none]) (fun _ _ _ => rfl) (fun H Q x0 x1 x2 a0 a1 a2 h0 h1 h2 hp q cdv A outer s E hr => ⟨_, PSs.nox (pss_cons (ps_asg (pe_slice sl_tup (pv 0) (po_some pe_int) (po_some pe_int)) (pg_tup rfl (pgs_cons (pg_name (i := 3) sc_aim_of.nd rfl (.inl rfl)) (pgs_cons (pg_name (i := 4) sc_aim_of.nd rfl (.inl rfl)) (pgs_cons (pg_name (i := 5) sc_aim_of.nd rfl (.inl rfl)) pgs_nil)))))
      (pss_cons (ps_if (pt_cmpR op_eq (pv 5) pe_str (nomark _)) (pss_one (ps_ret (pe_op op_add (pv 1) (pe_op op_mul (pv 2) (pv 3))))) pss_nil)
      (pss_cons (ps_if (pt_cmpR op_eq (pv 5) pe_str (nomark _)) (pss_one (ps_ret (pe_op op_add (pv 4) (pe_op op_mul (pe_op op_add (pe_op op_fdivW (pe_op op_add (pe_op op_mul pe_int (pe_op op_sub (pv 1) (pv 4))) (pv 3)) (pe_op op_mul pe_int (pv 3))) (pv 2)) (pv 3))))) pss_nil)
      (pss_cons (ps_if (pt_cmpR op_gt (pv 2) pe_int (nomark _)) (pss_one (ps_ret (pe_op op_add (pv 4) (pe_op op_mul (pe_op op_add (pe_op op_fdivW (pe_op op_sub (pv 1) (pv 4)) (pv 3)) (pv 2)) (pv 3))))) pss_nil)
      (pss_one (ps_ret (pe_op op_add (pv 4) (pe_op op_mul (pe_op op_add (pe_un un_neg (pe_op op_fdivW (pe_op op_sub (pv 4) (pv 1)) (pv 3))) (pv 2)) (pv 3))))))))), ?_⟩)
  cases h1
  cases h2
  obtain ⟨l0, lh, hh1, s0, s1, b0, b1⟩ := hp
  refine q_unp (lo := (some 2)) (hi := (some 5)) (by walk_at "ev") (fun _ _ h => ⟨2, rfl, h⟩) (fun _ _ h => ⟨5, rfl, h⟩) (by decide) rfl rfl (fun H1 e1 => ?_)
  refine (g_cons (.s (.s (.s .z))) (g_cons (.s (.s (.s (.s .z)))) (g_cons (.s (.s (.s (.s (.s .z))))) (g_nil ?_))))
  refine q_if0 K (by walk_at "et") (fun c2 H2 e2 => ?_) (fun c2 H2 e2 => ?_)
  · simp only [Bool.and_eq_true, Bool.or_eq_true, decide_eq_true_eq, Bool.not_eq_true', decide_eq_false_iff_not] at c2
    refine l_ret (α := Int) K (by walk_at "ev") (fun v3 H3 e3 r3 => ?_)
    refine q v3 H3 (by walk_at "ex") ?_
    refine (congrArg (Rep.rel K H3 v3) ?_).mp r3
    simp only [aimOf, if_pos c2]
  rw [← Bool.not_eq_true] at c2; simp only [Bool.and_eq_true, Bool.or_eq_true, decide_eq_true_eq, Bool.not_eq_true', decide_eq_false_iff_not] at c2
  refine q_if0 K (by walk_at "et") (fun c4 H4 e4 => ?_) (fun c4 H4 e4 => ?_)
  · simp only [Bool.and_eq_true, Bool.or_eq_true, decide_eq_true_eq, Bool.not_eq_true', decide_eq_false_iff_not] at c4
    refine l_ret (α := Int) K (by walk_at "ev") (fun v5 H5 e5 r5 => ?_)
    refine q v5 H5 (by walk_at "ex") ?_
    refine (congrArg (Rep.rel K H5 v5) ?_).mp r5
    simp only [aimOf, if_neg c2, if_pos c4]
  rw [← Bool.not_eq_true] at c4; simp only [Bool.and_eq_true, Bool.or_eq_true, decide_eq_true_eq, Bool.not_eq_true', decide_eq_false_iff_not] at c4
  refine q_if0 K (by walk_at "et") (fun c6 H6 e6 => ?_) (fun c6 H6 e6 => ?_)
  · simp only [Bool.and_eq_true, Bool.or_eq_true, decide_eq_true_eq, Bool.not_eq_true', decide_eq_false_iff_not] at c6
    refine l_ret (α := Int) K (by walk_at "ev") (fun v7 H7 e7 r7 => ?_)
    refine q v7 H7 (by walk_at "ex") ?_
    refine (congrArg (Rep.rel K H7 v7) ?_).mp r7
    simp only [aimOf, if_neg c2, if_neg c4, if_pos c6]
  rw [← Bool.not_eq_true] at c6; simp only [Bool.and_eq_true, Bool.or_eq_true, decide_eq_true_eq, Bool.not_eq_true', decide_eq_false_iff_not] at c6
  refine l_ret (α := Int) K (by walk_at "ev") (fun v8 H8 e8 r8 => ?_)
  refine q v8 H8 (by walk_at "ex") ?_
  refine (congrArg (Rep.rel K H8 v8) ?_).mp r8
  simp only [aimOf, if_neg c2, if_neg c4, if_neg c6]
theorem sc_many_steps : FnScope ["field", "key"] ["field", "key"] (defScope s_many_steps) := ⟨rfl, rfl, rfl, by decide +kernel, rfl, by decide +kernel, by decide +kernel⟩
abbrev SP_many_steps (K : PySem.W.Frag) : Sp := sp2 (α := Fld) (β := Sg) (δ := Int) K (fun _ s => isMove s.c) (fun f s => manySteps f s.c)
theorem ok_many_steps {P : Program} {w : World} {K : PySem.W.Frag} {mg : Str → Option Value} {base : Heap} (T : Top K mg) {f : Addr} {fd : FuncData} (F : FnP K "many_steps" s_many_steps f fd) : FnOk P w K mg base CX0 1 f fd ["field", "key"] (SP_many_steps K) := by
  refine ok2 F sc_many_steps rfl (fun x0 x1 => [some x0, some x1]) (fun _ _ => rfl) (fun H Q x0 x1 a0 a1 h0 h1 hp q cdv A outer s E hr => ⟨_, PSs.nox (pss_one (ps_ret (pe_dget (hu_of hr) (pe_disp (pps_cons pe_str pe_int (pps_cons pe_str (pe_un un_neg pe_int) (pps_cons pe_str (pe_ix ix_tup (pv 0) pe_int (fun _ _ => rfl)) (pps_cons pe_str (pe_un un_neg (pe_ix ix_tup (pv 0) pe_int (fun _ _ => rfl))) pps_nil)))) rfl rfl (fun z => by cases z) (by decide)) (pv 1) (fun _ _ => rfl)))), ?_⟩)
  cases h1
  obtain ⟨c⟩ := a1
  refine l_ret (α := Int) K (er_dsp (i := manySteps a0 c) (eps_cons er_int (eps_cons (er_neg er_int) (eps_cons (er_f6 (er_var rfl h0)) (eps_cons (er_neg (er_f6 (er_var rfl h0))) eps_nil)))) (er_sg (er_var rfl rfl)) (Nat.le_of_ble_eq_true rfl) ?_) (fun v H1 e1 r => q v H1 e1 r)
  rcases hp with z | z | z | z <;> (have z1 : c = _ := z; subst z1; rfl)
theorem sc_press_key : FnScope ["field", "value", "key", "low", "high", "aim", "above"] ["field", "value", "key"] (defScope s_press_key) := ⟨rfl, rfl, rfl, by decide +kernel, rfl, by decide +kernel, by decide +kernel⟩
abbrev SP_press_key (K : PySem.W.Frag) : Sp := sp3 (α := Fld) (β := Int) (γ := Sg) (δ := Int) K (fun f _ s => FL f ∧ isKey s.c) (fun f v s => pressKey f v s.c)
theorem ok_press_key {P : Program} {w : World} {K : PySem.W.Frag} {mg : Str → Option Value} {base : Heap} (T : Top K mg) {f_many_steps : Addr} {fd_many_steps : FuncData} (C_many_steps : Cal P w K mg base CX0 1 "many_steps" ["field", "key"] (SP_many_steps K) f_many_steps fd_many_steps) {f_aim_of : Addr} {fd_aim_of : FuncData} (C_aim_of : Cal P w K mg base CX0 1 "aim_of" ["field", "value", "many"] (SP_aim_of K) f_aim_of fd_aim_of) {f : Addr} {fd : FuncData} (F : FnP K "press_key" s_press_key f fd) : FnOk P w K mg base CX0 2 f fd ["field", "value", "key"] (SP_press_key K) := by
  refine ok3 F sc_press_key rfl (fun x0 x1 x2 => [some x0, some x1, some x2, none, none, none, none]) (fun _ _ _ => rfl) (fun H Q x0 x1 x2 a0 a1 a2 h0 h1 h2 hp q cdv A outer s E hr => ⟨_, PSs.nox (pss_cons (ps_asg (pe_slice sl_tup (pv 0) po_none (po_some pe_int)) (pg_tup rfl (pgs_cons (pg_name (i := 3) sc_press_key.nd rfl (.inl rfl)) (pgs_cons (pg_name (i := 4) sc_press_key.nd rfl (.inl rfl)) pgs_nil))))
      (pss_cons (ps_if (pt_cmpR op_inS (pv 2) pe_str rfl) (pss_one (ps_ret (pe_dget (hu_of hr) (pe_disp (pps_cons pe_str (pv 3) (pps_cons pe_str (pv 4) pps_nil)) rfl rfl (fun z => by cases z) (by decide)) (pv 2) (fun _ _ => rfl)))) pss_nil)
      (pss_cons (ps_set (i := 5) sc_press_key.nd rfl (.inl rfl) (pe_call C_aim_of.ok (hr.mono (by decide)) (by rfl) C_aim_of.mg C_aim_of.kp C_aim_of.bd .nil pass0 (pa_cons (pv 0) (pa_cons (pv 1) (pa_cons (pe_call C_many_steps.ok (hr.mono (by decide)) (by rfl) C_many_steps.mg C_many_steps.kp C_many_steps.bd .nil pass0 (pa_cons (pv 0) (pa_cons (pv 2) pa_nil))) pa_nil)))))
      (pss_cons (ps_if (pt_chain op_le op_le (pv 3) (pv 5) (pv 4)) (pss_one (ps_ret (pv 5))) pss_nil)
      (pss_cons (ps_if (pt_cmpR op_eq (pe_ix ix_tup (pv 0) pe_int (fun _ _ => rfl)) pe_str (nomark _)) (pss_one (ps_ret (pv 1))) pss_nil)
      (pss_cons (ps_set (i := 6) sc_press_key.nd rfl (.inl rfl) (pe_cmpR op_gt (pv 5) (pv 4) (nomark _)))
      (pss_cons (ps_if (pt_cmpR op_eq (pe_ix ix_tup (pv 0) pe_int (fun _ _ => rfl)) pe_str (nomark _)) (pss_one (ps_set (i := 6) sc_press_key.nd rfl (.inl rfl) (pe_not (pv 6)))) pss_nil)
      (pss_one (ps_ret (pe_ifExp (pt_val (pv 6)) (pv 4) (pv 3))))))))))), ?_⟩)
  cases h1
  cases h2
  obtain ⟨c⟩ := a2
  obtain ⟨hf, hk⟩ := hp
  have ehe : ∀ c : Nat, c ∈ ("he" : Str).cps.toList ↔ c = 104 ∨ c = 101 := by
    intro c
    have e : ("he" : Str).cps.toList = [104, 101] := by decide
    rw [e]
    simp only [List.mem_cons, List.not_mem_nil, or_false]
  refine q_unp (lo := none) (hi := (some 2)) (by walk_at "ev") (fun _ _ h => h) (fun _ _ h => ⟨2, rfl, h⟩) (by decide) rfl rfl (fun H1 e1 => ?_)
  refine (g_cons (.s (.s (.s .z))) (g_cons (.s (.s (.s (.s .z)))) (g_nil ?_)))
  have hs : ∀ H1, ER K (tVar 2) [some x0, some (V.int a1), some (V.str ⟨#[c]⟩), some (V.int a0.low), some (V.int a0.high), none, none] H1 (Sg.mk c) := fun H1 => er_var rfl rfl
  refine q_if0 K (et_t (er_inS (hs H1) er_str)) (fun c2 H2 e2 => ?_) (fun c2 H2 e2 => ?_)
  · simp only [decide_eq_true_eq, ehe] at c2
    refine l_ret (α := Int) K (er_dsp (i := if c = 104 then a0.low else a0.high) (eps_cons (er_varI rfl) (eps_cons (er_varI rfl) eps_nil)) (er_sg (hs H2)) (Nat.le_of_ble_eq_true rfl) ?_) (fun v H3 e3 r => q v H3 (by walk_at "ex") ?_)
    · rcases c2 with z | z <;> (subst z; rfl)
    · refine (congrArg (Rep.rel K H3 v) ?_).mp r
      rcases c2 with z | z <;> (subst z; rfl)
  have hc : ¬ (c = 104 ∨ c = 101) := by
    simp only [decide_eq_false_iff_not, ehe] at c2
    exact c2
  have hm : isMove c := by
    rcases hk with z | z | z | z | z | z
    · exact .inl z
    · exact .inr (.inl z)
    · exact .inr (.inr (.inl z))
    · exact .inr (.inr (.inr z))
    · exact absurd (.inl z) hc
    · exact absurd (.inr z) hc
  have hpk : pressKey a0 a1 c = (if a0.low ≤ aimOf a0 a1 (manySteps a0 c) ∧ aimOf a0 a1 (manySteps a0 c) ≤ a0.high then aimOf a0 a1 (manySteps a0 c)
      else if a0.ends = "stay" then a1 else if a0.ends = "round" then (if aimOf a0 a1 (manySteps a0 c) > a0.high then a0.low else a0.high) else (if aimOf a0 a1 (manySteps a0 c) > a0.high then a0.high else a0.low)) := by
    unfold pressKey
    rw [if_neg (fun z => hc (.inl z)), if_neg (fun z => hc (.inr z))]
  have h0' := Rep.mono (e1.trans e2) h0
  refine q_setI K (er_call3 (er_var rfl h0') (er_varI rfl) (er_call2 (er_var rfl h0') (hs H2) hm) hf) (fun _ => (.s (.s (.s (.s (.s .z)))))) (fun H3 e3 => ?_)
  generalize aimOf a0 a1 (manySteps a0 c) = aim at hpk
  refine q_if0 K (et_t (er_chain (er_varI rfl) (er_varI rfl) (er_varI rfl))) (fun c4 H4 e4 => ?_) (fun c4 H4 e4 => ?_)
  · simp only [Bool.and_eq_true, decide_eq_true_eq] at c4
    refine l_ret (α := Int) K (er_varI rfl) (fun v H5 e5 r => q v H5 (by walk_at "ex") ?_)
    rw [hpk, if_pos c4]
    exact r
  rw [← Bool.not_eq_true] at c4
  simp only [Bool.and_eq_true, decide_eq_true_eq] at c4
  rw [if_neg c4] at hpk
  refine q_if0 K (et_t (er_eqS (by walk_at "ev") er_str)) (fun c5 H5 e5 => ?_) (fun c5 H5 e5 => ?_)
  · simp only [decide_eq_true_eq] at c5
    refine l_ret (α := Int) K (er_varI rfl) (fun v H6 e6 r => q v H6 (by walk_at "ex") ?_)
    rw [hpk, if_pos c5]
    exact r
  simp only [decide_eq_false_iff_not] at c5
  rw [if_neg c5] at hpk
  refine q_setB K (er_gt (er_varI rfl) (er_varI rfl)) (fun _ => (.s (.s (.s (.s (.s (.s .z))))))) (fun H6 e6 => ?_)
  refine q_if0 K (et_t (er_eqS (by walk_at "ev") er_str)) (fun c7 H7 e7 => ?_) (fun c7 H7 e7 => ?_)
  · simp only [decide_eq_true_eq] at c7
    rw [if_pos c7] at hpk
    refine l_set (α := Bool) K (er_not (er_varB rfl)) (fun _ => (.s (.s (.s (.s (.s (.s .z))))))) (fun v8 H8 e8 r8 => ?_)
    cases r8
    refine l_ret (α := Int) K (er_if (et_b (er_varB rfl)) (fun _ => er_varI rfl) (fun _ => er_varI rfl)) (fun v H9 e9 r => q v H9 (by walk_at "ex") ?_)
    rw [hpk]
    refine (congrArg (Rep.rel K H9 v) ?_).mp r
    by_cases z : a0.high < aim
    · rw [if_pos z, decide_eq_true z]
      rfl
    · rw [if_neg z, decide_eq_false z]
      rfl
  simp only [decide_eq_false_iff_not] at c7
  rw [if_neg c7] at hpk
  refine l_ret (α := Int) K (er_if (et_b (er_varB rfl)) (fun _ => er_varI rfl) (fun _ => er_varI rfl)) (fun v H9 e9 r => q v H9 (by walk_at "ex") ?_)
  rw [hpk]
  refine (congrArg (Rep.rel K H9 v) ?_).mp r
  by_cases z : a0.high < aim
  · rw [if_pos z, decide_eq_true z]
    rfl
  · rw [if_neg z, decide_eq_false z]
    rfl
theorem sc_parting_of : FnScope ["one", "other", "some", "value", "key"] ["one", "other"] (defScope s_parting_of) := ⟨rfl, rfl, rfl, by decide +kernel, rfl, by decide +kernel, by decide +kernel⟩
abbrev SP_parting_of (K : PySem.W.Frag) : Sp := sp2 (α := Fld) (β := Fld) (δ := (Option (Int × Sg))) K (fun o_ p_ => FOk o_ ∧ FOk p_) (fun o_ p_ => partOf o_ p_)
theorem ok_parting_of {P : Program} {w : World} {K : PySem.W.Frag} {mg : Str → Option Value} {base : Heap} (T : Top K mg) {f_values_of : Addr} {fd_values_of : FuncData} (C_values_of : Cal P w K mg base CX0 2 "values_of" ["field", "many"] (SP_values_of K) f_values_of fd_values_of) {f_press_key : Addr} {fd_press_key : FuncData} (C_press_key : Cal P w K mg base CX0 2 "press_key" ["field", "value", "key"] (SP_press_key K) f_press_key fd_press_key) {f : Addr} {fd : FuncData} (F : FnP K "parting_of" s_parting_of f fd) : FnOk P w K mg base CX0 3 f fd ["one", "other"] (SP_parting_of K) := by
  obtain ⟨tk_KEYS, g_KEYS⟩ := T.g_KEYS
  refine ok2 F sc_parting_of rfl (fun x0 x1 => [some x0, some x1, none, none, none]) (fun _ _ => rfl) (fun H Q x0 x1 a0 a1 h0 h1 hp q cdv A outer s E hr => ⟨_, PSs.nox (pss_cons (ps_set (i := 2) sc_parting_of.nd rfl (.inl rfl) (pe_op op_cat (pe_call C_values_of.ok (hr.mono (by decide)) (by rfl) C_values_of.mg C_values_of.kp C_values_of.bd .nil pass0 (pa_cons (pv 0) (pa_cons (pe_op op_add (pe_ix ix_tup (pv 0) pe_int (fun _ _ => rfl)) pe_int) pa_nil))) (pe_call C_values_of.ok (hr.mono (by decide)) (by rfl) C_values_of.mg C_values_of.kp C_values_of.bd .nil pass0 (pa_cons (pv 1) (pa_cons (pe_op op_add (pe_ix ix_tup (pv 1) pe_int (fun _ _ => rfl)) pe_int) pa_nil)))))
      (pss_cons (ps_for PassesOwn.never rfl (pi_list (pe_sortSet (by rfl) T.b_sorted (by rfl) T.b_set (pv 2))) (pg_name (i := 3) sc_parting_of.nd rfl (.inl rfl)) (pss_one (ps_for PassesOwn.never rfl (pi_str (pe_glob (v := .str "udUDhe") (by rfl) g_KEYS ⟨_, rfl⟩)) (pg_name (i := 4) sc_parting_of.nd rfl (.inl rfl)) (pss_one (ps_if (pt_cmpR op_ne (pe_call C_press_key.ok (hr.mono (by decide)) (by rfl) C_press_key.mg C_press_key.kp C_press_key.bd .nil pass0 (pa_cons (pv 0) (pa_cons (pv 3) (pa_cons (pv 4) pa_nil)))) (pe_call C_press_key.ok (hr.mono (by decide)) (by rfl) C_press_key.mg C_press_key.kp C_press_key.bd .nil pass0 (pa_cons (pv 1) (pa_cons (pv 3) (pa_cons (pv 4) pa_nil)))) (nomark _)) (pss_one (ps_ret (pe_tup (pa_cons (pv 3) (pa_cons (pv 4) pa_nil))))) pss_nil)))))
      (pss_one (ps_ret pe_non)))), ?_⟩)
  have E0 : Ex H H := Ex.refl H
  obtain ⟨ok_f, ok_g⟩ := hp
  obtain ⟨l0_f, lh_f, h1_f, s0_f, s1_f, b0_f, b1_f, off_f, ends_f, g0_f, g1_f, on_f⟩ := ok_f
  have ok_f : FOk a0 := ⟨l0_f, lh_f, h1_f, s0_f, s1_f, b0_f, b1_f, off_f, ends_f, g0_f, g1_f, on_f⟩
  obtain ⟨l0_g, lh_g, h1_g, s0_g, s1_g, b0_g, b1_g, off_g, ends_g, g0_g, g1_g, on_g⟩ := ok_g
  have ok_g : FOk a1 := ⟨l0_g, lh_g, h1_g, s0_g, s1_g, b0_g, b1_g, off_g, ends_g, g0_g, g1_g, on_g⟩
  have k1 := values_len2 (f := a0) (many := a0.big + 1) (.inr (by omega))
  have k2 := values_len2 (f := a1) (many := a1.big + 1) (.inr (by omega))
  obtain ⟨some_, d_some_⟩ : ∃ z : (List Int), z = ((valuesOf a0 (a0.big + 1)) ++ (valuesOf a1 (a1.big + 1))) := ⟨_, rfl⟩
  refine q_set (α := (List Int)) K (er_is (er_cat (er_call2 (er_var rfl h0) (er_add (er_f6 (er_var rfl h0)) er_int) ⟨ok_f, .inr (by omega)⟩) (er_call2 (er_var rfl h1) (er_add (er_f6 (er_var rfl h1)) er_int) ⟨ok_g, .inr (by omega)⟩) (by omega)) d_some_.symm) (fun _ => (.s (.s .z))) (fun v1 H1 e1 r_1 => ?_)
  have h0 := Rep.mono e1 h0
  have h1 := Rep.mono e1 h1
  have E0 := E0.trans e1
  refine q_for K (α := Int) (xs := (sortU some_)) (wk_list (er_sortSet (er_var rfl r_1) (by rw [d_some_, List.length_append]; omega))) (fun pre2 σ' H' => ∃ o2_3 o2_4, σ' = [some x0, some x1, some v1, o2_3, o2_4] ∧ Ey H1 H' ∧ (∀ x_ ∈ pre2, ∀ k_ ∈ keys6, sameAt a0 a1 x_ k_) ∧ Ex H H') (fun H1 e1 => ⟨_, _, rfl, e1.y, (fun _ h => nomatch h), E0.trans e1⟩) (fun L2 pre2 y2 post2 v2 σ' A2 B2 b2 hx2 p2 pp2 c2 r2 => ?_) (fun σ' Z2 z2 pp2 => ?_)
  · obtain ⟨o2_3, o2_4, rfl, q2, ip2_0, E0⟩ := pp2
    have hm2 : y2 ∈ (sortU some_) := by
      rw [hx2]
      exact List.mem_append_right _ (List.mem_cons_self ..)
    have t2 := p2.trans c2.y
    have g2 := q2.trans c2.y
    have h0 := Rep.moY g2 h0
    have h1 := Rep.moY g2 h1
    have r_1 := Rep.moY g2 r_1
    have E0 := E0.trans c2
    cases r2
    refine g_name1 (.s (.s (.s .z))) ?_
    refine for_wk K (α := Sg) (xs := (sgs ("udUDhe" : Str))) (wk_str er_str) (fun pre3 σ' H' => ∃ o3_4, σ' = [some x0, some x1, some v1, some (V.int y2), o3_4] ∧ Ey B2 H' ∧ (∀ k_ ∈ pre3, sameAt a0 a1 y2 k_) ∧ Ex H H') (fun H1 e1 => ⟨_, rfl, e1.y, (fun _ h => nomatch h), E0.trans e1⟩) (fun L3 pre3 y3 post3 v3 σ' A3 B3 b3 hx3 p3 pp3 c3 r3 => ?_) (fun σ' Z3 z3 pp3 => ?_)
    · obtain ⟨o3_4, rfl, q3, ip3_0, E0⟩ := pp3
      have hm3 : y3 ∈ (sgs ("udUDhe" : Str)) := by
        rw [hx3]
        exact List.mem_append_right _ (List.mem_cons_self ..)
      have t3 := p3.trans c3.y
      have g3 := q3.trans c3.y
      have h0 := Rep.moY g3 h0
      have h1 := Rep.moY g3 h1
      have r_1 := Rep.moY g3 r_1
      have g2 := g2.trans g3
      have t2 := t2.trans g3
      have E0 := E0.trans c3
      have hv3 : v3 = V.str ⟨#[y3.c]⟩ := r3
      subst hv3
      refine g_name1 (.s (.s (.s (.s .z)))) ?_
      have hkx := sgs_keys.mp hm3
      refine l_if0 K (b := (!decide ((pressKey a0 y2 y3.c) = (pressKey a1 y2 y3.c)))) (et_t (er_neI (er_call3 (er_var rfl h0) (er_varI rfl) (er_var (x := y3) rfl rfl) ⟨ok_f.fl, hkx⟩) (er_call3 (er_var rfl h1) (er_varI rfl) (er_var (x := y3) rfl rfl) ⟨ok_g.fl, hkx⟩))) (fun c4 H4 e4 => ?_) (fun c4 H4 e4 => ?_)
      · skip
        have h0 := Rep.mono e4 h0
        have h1 := Rep.mono e4 h1
        have r_1 := Rep.mono e4 r_1
        have g2 := g2.trans e4.y
        have t2 := t2.trans e4.y
        have g3 := g3.trans e4.y
        have t3 := t3.trans e4.y
        have E0 := E0.trans e4
        have hcond := c4
        refine l_ret (α := (Option (Int × Sg))) K (er_some (er_tup2 (er_varI rfl) (er_var (x := y3) rfl rfl))) (fun v5 H5 e5 r5 => q v5 H5 (E0.trans e5) ?_)
        refine (congrArg (Rep.rel K H5 v5) (?_ : ((some (y2, y3)) : (Option (Int × Sg))) = _)).mp r5
        exact (part_go1 hx3 hx2 ip2_0 ip3_0 (of_decide_eq_false (nb_t hcond))).trans (by rw [d_some_]; rfl)
      · skip
        have h0 := Rep.mono e4 h0
        have h1 := Rep.mono e4 h1
        have r_1 := Rep.mono e4 r_1
        have g2 := g2.trans e4.y
        have t2 := t2.trans e4.y
        have g3 := g3.trans e4.y
        have t3 := t3.trans e4.y
        have E0 := E0.trans e4
        have hcond := c4
        exact ⟨t3, _, rfl, g3, fun x hx => by
          rcases List.mem_append.mp hx with z | z
          · exact ip3_0 x z
          · rw [List.mem_singleton.mp z]; exact of_decide_eq_true (nb_f hcond), E0⟩
    obtain ⟨o3_4, rfl, q3, ip3_0, E0⟩ := pp3
    have h0 := Rep.moY q3 h0
    have h1 := Rep.moY q3 h1
    have r_1 := Rep.moY q3 r_1
    have g2 := g2.trans q3
    have t2 := t2.trans q3
    exact ⟨t2, _, _, rfl, g2, fun x hx => by
      rcases List.mem_append.mp hx with z | z
      · exact ip2_0 x z
      · rw [List.mem_singleton.mp z]; exact ip3_0, E0⟩
  obtain ⟨o2_3, o2_4, rfl, q2, ip2_0, E0⟩ := pp2
  have h0 := Rep.moY q2 h0
  have h1 := Rep.moY q2 h1
  have r_1 := Rep.moY q2 r_1
  refine l_ret (α := (Option (Int × Sg))) K (er_noneO (α := (Int × Sg))) (fun v6 H6 e6 r6 => q v6 H6 (E0.trans e6) ?_)
  refine (congrArg (Rep.rel K H6 v6) (?_ : ((none : Option (Int × Sg)) : (Option (Int × Sg))) = _)).mp r6
  exact (firstVal_none.mpr ip2_0).symm.trans (by rw [d_some_]; rfl)
theorem sc_Field___eq__ : FnScope ["self", "other"] ["self", "other"] (defScope s_Field___eq__) := ⟨rfl, rfl, rfl, by decide +kernel, rfl, by decide +kernel, by decide +kernel⟩
abbrev SP_Field___eq__ (K : PySem.W.Frag) : Sp := sp2 (α := (FVal (He.ga K "Field"))) (β := (FVal (He.ga K "Field"))) (δ := Bool) K (fun x_ y_ => FOk x_.f ∧ FOk y_.f) (fun x_ y_ => eqFV x_.f y_.f)
theorem ok_Field___eq__ {P : Program} {w : World} {K : PySem.W.Frag} {mg : Str → Option Value} {base : Heap} (T : Top K mg) {f_parting_of : Addr} {fd_parting_of : FuncData} (C_parting_of : Cal P w K mg base CX0 3 "parting_of" ["one", "other"] (SP_parting_of K) f_parting_of fd_parting_of) {f : Addr} {fd : FuncData} (F : FnM K "__eq__" "Field.__eq__" [] s_Field___eq__ f fd) : FnOk P w K mg base CX0 4 f fd ["self", "other"] (SP_Field___eq__ K) := by
  refine ok2 F sc_Field___eq__ rfl (fun x0 x1 => [some x0, some x1]) (fun _ _ => rfl) (fun H Q x0 x1 a0 a1 h0 h1 hp q cdv A outer s E hr => ⟨_, PSs.nox (pss_cons (ps_if (PW.pt (pw_or (pt_not (pt_val (pe_callB call_isi (by rfl) T.b_isinstance (by decide +kernel) (pa_cons (pv 1) (pa_cons (pe_glob (v := .ref (He.ga K "Field")) (by rfl) T.k_Field.g rfl) pa_nil))))) (pw_or1 (pt_cmpR (op_neD hr.units) (pe_slice sl_tup (pe_fld (pv 0) rfl) po_none (po_some pe_int)) (pe_slice sl_tup (pe_fld (pv 1) rfl) po_none (po_some pe_int)) (nomark _))))) (pss_one (ps_ret pe_bl)) pss_nil)
      (pss_one (ps_ret (pe_cmpR op_isN1 (pe_call C_parting_of.ok (hr.mono (by decide)) (by rfl) C_parting_of.mg C_parting_of.kp C_parting_of.bd .nil pass0 (pa_cons (pe_fld (pv 0) rfl) (pa_cons (pe_fld (pv 1) rfl) pa_nil))) pe_non (nomark _))))), ?_⟩)
  have E0 : Ex H H := Ex.refl H
  obtain ⟨ok_f, ok_g⟩ := hp
  refine q_if0 K (b := ((!true) || (!decide ((a0.f.low, a0.f.high) = (a1.f.low, a1.f.high))))) (ett_or (ett_not (et_b (er_isFV T.i_Field (er_var rfl h1)))) (fun hc => (et_t (er_neT (α := (Int × Int)) (er_ofP2 (x := a0.f.low) (y := a0.f.high) (ev_slF (ys := [V.int a0.f.low, V.int a0.f.high]) none (some 2) (ev_fld (er_parts T.k_Field.c (T.k_Field.no "parts" (by decide)) (er_var rfl h0))) (fun _ _ h => h) (fun _ _ h => ⟨2, rfl, h⟩) (show ¬ ((0 : Nat) = 0 ∧ (2 : Nat) = 7) by decide) rfl) (fun _ => rfl) (fun _ => rfl)) (er_ofP2 (x := a1.f.low) (y := a1.f.high) (ev_slF (ys := [V.int a1.f.low, V.int a1.f.high]) none (some 2) (ev_fld (er_parts T.k_Field.c (T.k_Field.no "parts" (by decide)) (er_var rfl h1))) (fun _ _ h => h) (fun _ _ h => ⟨2, rfl, h⟩) (show ¬ ((0 : Nat) = 0 ∧ (2 : Nat) = 7) by decide) rfl) (fun _ => rfl) (fun _ => rfl)) ⟨trivial, trivial⟩ ⟨trivial, trivial⟩ (by decide))))) (fun c1 H1 e1 => ?_) (fun c1 H1 e1 => ?_)
  · skip
    have h0 := Rep.mono e1 h0
    have h1 := Rep.mono e1 h1
    have E0 := E0.trans e1
    have hcond := c1
    refine l_ret (α := Bool) K er_bl (fun v2 H2 e2 r2 => q v2 H2 (E0.trans e2) ?_)
    refine (congrArg (Rep.rel K H2 v2) (?_ : (false : Bool) = _)).mp r2
    exact eqFV_no hcond
  have h0 := Rep.mono e1 h0
  have h1 := Rep.mono e1 h1
  have E0 := E0.trans e1
  have hcond := c1
  refine l_ret (α := Bool) K (er_isNone (er_call2 (er_parts T.k_Field.c (T.k_Field.no "parts" (by decide)) (er_var rfl h0)) (er_parts T.k_Field.c (T.k_Field.no "parts" (by decide)) (er_var rfl h1)) ⟨ok_f, ok_g⟩)) (fun v3 H3 e3 r3 => q v3 H3 (E0.trans e3) ?_)
  refine (congrArg (Rep.rel K H3 v3) (?_ : (((partOf a0.f a1.f).isNone) : Bool) = _)).mp r3
  exact eqFV_yes hcond
theorem sc_need_field : FnScope ["field"] ["field"] (defScope s_need_field) := ⟨rfl, rfl, rfl, by decide +kernel, rfl, by decide +kernel, by decide +kernel⟩
abbrev SP_need_field (K : PySem.W.Frag) : Sp := sp1 (α := Fld) (δ := Unit) K (FOk) (fun _ => ())
theorem ok_need_field {P : Program} {w : World} {K : PySem.W.Frag} {mg : Str → Option Value} {base : Heap} (T : Top K mg) {f_is_field : Addr} {fd_is_field : FuncData} (C_is_field : Cal P w K mg base CX0 2 "is_field" ["thing"] (SP_is_field K) f_is_field fd_is_field) {f : Addr} {fd : FuncData} (F : FnP K "need_field" s_need_field f fd) : FnOk P w K mg base CX0 3 f fd ["field"] (SP_need_field K) := by
  refine ok1 F sc_need_field rfl (fun x0 => [some x0]) (fun _ => rfl) (fun H Q x0 a0 h0 hp q cdv A outer s E hr => ⟨_, PSs.nox (pss_one (ps_if (pt_not (pt_val (pe_call C_is_field.ok (hr.mono (by decide)) (by rfl) C_is_field.mg C_is_field.kp C_is_field.bd .nil pass0 (pa_cons (pv 0) pa_nil)))) pss_never pss_nil)), ?_⟩)
  refine l_if0 K (ett_not (et_b (er_call1 (er_enc (α := Fld) (er_var rfl h0)) trivial))) (fun c1 H1 e1 => ?_) (fun c1 H1 e1 => q .non H1 e1 rfl)
  rw [hp.isField] at c1
  cases c1
theorem sc_need_both : FnScope ["one", "other"] ["one", "other"] (defScope s_need_both) := ⟨rfl, rfl, rfl, by decide +kernel, rfl, by decide +kernel, by decide +kernel⟩
abbrev SP_need_both (K : PySem.W.Frag) : Sp := sp2 (α := Fld) (β := Fld) (δ := Unit) K (fun o_ p_ => FOk o_ ∧ FOk p_ ∧ p_.low = o_.low ∧ p_.high = o_.high) (fun _ _ => ())
theorem ok_need_both {P : Program} {w : World} {K : PySem.W.Frag} {mg : Str → Option Value} {base : Heap} (T : Top K mg) {f_need_field : Addr} {fd_need_field : FuncData} (C_need_field : Cal P w K mg base CX0 3 "need_field" ["field"] (SP_need_field K) f_need_field fd_need_field) {f : Addr} {fd : FuncData} (F : FnP K "need_both" s_need_both f fd) : FnOk P w K mg base CX0 4 f fd ["one", "other"] (SP_need_both K) := by
  refine ok2 F sc_need_both rfl (fun x0 x1 => [some x0, some x1]) (fun _ _ => rfl) (fun H Q x0 x1 a0 a1 h0 h1 hp q cdv A outer s E hr => ⟨_, PSs.nox (pss_cons (ps_expr (pe_call C_need_field.ok (hr.mono (by decide)) (by rfl) C_need_field.mg C_need_field.kp C_need_field.bd .nil pass0 (pa_cons (pv 0) pa_nil)))
      (pss_cons (ps_expr (pe_call C_need_field.ok (hr.mono (by decide)) (by rfl) C_need_field.mg C_need_field.kp C_need_field.bd .nil pass0 (pa_cons (pv 1) pa_nil)))
      (pss_one (ps_if (pt_cmpR (op_neD hr.units) (pe_slice sl_tup (pv 0) po_none (po_some pe_int)) (pe_slice sl_tup (pv 1) po_none (po_some pe_int)) (nomark _)) pss_never pss_nil)))), ?_⟩)
  have E0 : Ex H H := Ex.refl H
  obtain ⟨ok_f, ok_g, e_l, e_h⟩ := hp
  refine q_drop (α := Unit) K (er_call1 (er_var rfl h0) (by walk_at "sd")) (fun H1 e1 => ?_)
  have h0 := Rep.mono e1 h0
  have h1 := Rep.mono e1 h1
  have E0 := E0.trans e1
  refine q_drop (α := Unit) K (er_call1 (er_var rfl h1) (by walk_at "sd")) (fun H2 e2 => ?_)
  have h0 := Rep.mono e2 h0
  have h1 := Rep.mono e2 h1
  have E0 := E0.trans e2
  have nr1 : (!decide ((a0.low, a0.high) = (a1.low, a1.high))) = false := by
    rw [e_l, e_h, decide_eq_true rfl]
    rfl
  refine l_no K (et_is (a := (!decide ((a0.low, a0.high) = (a1.low, a1.high)))) (et_t (er_neT (α := (Int × Int)) (er_ofP2 (x := a0.low) (y := a0.high) (ev_slF (ys := [V.int a0.low, V.int a0.high]) none (some 2) (ev_fld (er_var rfl h0)) (fun _ _ h => h) (fun _ _ h => ⟨2, rfl, h⟩) (show ¬ ((0 : Nat) = 0 ∧ (2 : Nat) = 7) by decide) rfl) (fun _ => rfl) (fun _ => rfl)) (er_ofP2 (x := a1.low) (y := a1.high) (ev_slF (ys := [V.int a1.low, V.int a1.high]) none (some 2) (ev_fld (er_var rfl h1)) (fun _ _ h => h) (fun _ _ h => ⟨2, rfl, h⟩) (show ¬ ((0 : Nat) = 0 ∧ (2 : Nat) = 7) by decide) rfl) (fun _ => rfl) (fun _ => rfl)) (by walk_at "sd") (by walk_at "sd") (by decide))) nr1) (fun H3 e3 => ?_)
  have h0 := Rep.mono e3 h0
  have h1 := Rep.mono e3 h1
  have E0 := E0.trans e3
  exact q .non _ E0 rfl
theorem sc_alike : FnScope ["one", "other"] ["one", "other"] (defScope s_alike) := ⟨rfl, rfl, rfl, by decide +kernel, rfl, by decide +kernel, by decide +kernel⟩
abbrev SP_alike (K : PySem.W.Frag) : Sp := sp2 (α := Fld) (β := Fld) (δ := Bool) K (fun o_ p_ => FOk o_ ∧ FOk p_ ∧ p_.low = o_.low ∧ p_.high = o_.high) (fun o_ p_ => (partOf o_ p_).isNone)
theorem ok_alike {P : Program} {w : World} {K : PySem.W.Frag} {mg : Str → Option Value} {base : Heap} (T : Top K mg) {f_need_both : Addr} {fd_need_both : FuncData} (C_need_both : Cal P w K mg base CX0 4 "need_both" ["one", "other"] (SP_need_both K) f_need_both fd_need_both) {f_parting_of : Addr} {fd_parting_of : FuncData} (C_parting_of : Cal P w K mg base CX0 3 "parting_of" ["one", "other"] (SP_parting_of K) f_parting_of fd_parting_of) {f : Addr} {fd : FuncData} (F : FnP K "alike" s_alike f fd) : FnOk P w K mg base CX0 5 f fd ["one", "other"] (SP_alike K) := by
  refine ok2 F sc_alike rfl (fun x0 x1 => [some x0, some x1]) (fun _ _ => rfl) (fun H Q x0 x1 a0 a1 h0 h1 hp q cdv A outer s E hr => ⟨_, PSs.nox (pss_cons (ps_expr (pe_call C_need_both.ok (hr.mono (by decide)) (by rfl) C_need_both.mg C_need_both.kp C_need_both.bd .nil pass0 (pa_cons (pv 0) (pa_cons (pv 1) pa_nil))))
      (pss_one (ps_ret (pe_cmpR op_isN1 (pe_call C_parting_of.ok (hr.mono (by decide)) (by rfl) C_parting_of.mg C_parting_of.kp C_parting_of.bd .nil pass0 (pa_cons (pv 0) (pa_cons (pv 1) pa_nil))) pe_non (nomark _))))), ?_⟩)
  have E0 : Ex H H := Ex.refl H
  obtain ⟨ok_f, ok_g, e_l, e_h⟩ := hp
  refine q_drop (α := Unit) K (er_call2 (er_var rfl h0) (er_var rfl h1) (by walk_at "sd")) (fun H1 e1 => ?_)
  have h0 := Rep.mono e1 h0
  have h1 := Rep.mono e1 h1
  have E0 := E0.trans e1
  refine l_ret (α := Bool) K (er_isNone (er_call2 (er_var rfl h0) (er_var rfl h1) (by walk_at "sd"))) (fun v2 H2 e2 r2 => q v2 H2 (E0.trans e2) ?_)
  refine (congrArg (Rep.rel K H2 v2) (?_ : (((partOf a0 a1).isNone) : Bool) = _)).mp r2
  rfl
theorem sc_Field___eq__t : FnScope ["self", "other"] ["self", "other"] (defScope s_Field___eq__t) := ⟨rfl, rfl, rfl, by decide +kernel, rfl, by decide +kernel, by decide +kernel⟩
abbrev SP_Field___eq__t (K : PySem.W.Frag) : Sp := sp2 (α := (FVal (He.ga K "Field"))) (β := Fld) (δ := Bool) K (fun _ _ => True) (fun _ _ => false)
theorem ok_Field___eq__t {P : Program} {w : World} {K : PySem.W.Frag} {mg : Str → Option Value} {base : Heap} (T : Top K mg) {f_parting_of : Addr} {fd_parting_of : FuncData} (C_parting_of : Cal P w K mg base CX0 3 "parting_of" ["one", "other"] (SP_parting_of K) f_parting_of fd_parting_of) {f : Addr} {fd : FuncData} (F : FnM K "__eq__" "Field.__eq__" [] s_Field___eq__t f fd) : FnOk P w K mg base CX0 4 f fd ["self", "other"] (SP_Field___eq__t K) := by
  refine ok2 F sc_Field___eq__t rfl (fun x0 x1 => [some x0, some x1]) (fun _ _ => rfl) (fun H Q x0 x1 a0 a1 h0 h1 hp q cdv A outer s E hr => ⟨_, PSs.nox (pss_cons (ps_if (PW.pt (pw_or (pt_not (pt_val (pe_callB call_isi (by rfl) T.b_isinstance (by decide +kernel) (pa_cons (pv 1) (pa_cons (pe_glob (v := .ref (He.ga K "Field")) (by rfl) T.k_Field.g rfl) pa_nil))))) (pw_or1 (pt_cmpR (op_neD hr.units) (pe_slice sl_tup (pe_fld (pv 0) rfl) po_none (po_some pe_int)) (pe_slice sl_tup (pe_fld (pv 1) rfl) po_none (po_some pe_int)) (nomark _))))) (pss_one (ps_ret pe_bl)) pss_nil)
      (pss_one (ps_ret (pe_cmpR op_isN1 (pe_call C_parting_of.ok (hr.mono (by decide)) (by rfl) C_parting_of.mg C_parting_of.kp C_parting_of.bd .nil pass0 (pa_cons (pe_fld (pv 0) rfl) (pa_cons (pe_fld (pv 1) rfl) pa_nil))) pe_non (nomark _))))), ?_⟩)
  refine q_if0 K (b := !false || false) (ett_or (ett_not (et_b (er_isFT T.i_Field (er_var rfl h1)))) (fun z => Bool.noConfusion z)) (fun c1 H1 e1 => ?_) (fun c1 H1 e1 => Bool.noConfusion c1)
  exact l_ret (α := Bool) K er_bl (fun v H2 e2 r => q v H2 (e1.trans e2) r)
theorem sc_need_value : FnScope ["field", "value"] ["field", "value"] (defScope s_need_value) := ⟨rfl, rfl, rfl, by decide +kernel, rfl, by decide +kernel, by decide +kernel⟩
abbrev SP_need_value (K : PySem.W.Frag) : Sp := sp2 (α := Fld) (β := Int) (δ := Unit) K (fun f v => f.low ≤ v ∧ v ≤ f.high) (fun _ _ => ())
theorem ok_need_value {P : Program} {w : World} {K : PySem.W.Frag} {mg : Str → Option Value} {base : Heap} (T : Top K mg) {f_is_between : Addr} {fd_is_between : FuncData} (C_is_between : Cal P w K mg base CX0 1 "is_between" ["thing", "low", "high"] (SP_is_between K) f_is_between fd_is_between) {f : Addr} {fd : FuncData} (F : FnP K "need_value" s_need_value f fd) : FnOk P w K mg base CX0 2 f fd ["field", "value"] (SP_need_value K) := by
  refine ok2 F sc_need_value rfl (fun x0 x1 => [some x0, some x1]) (fun _ _ => rfl) (fun H Q x0 x1 a0 a1 h0 h1 hp q cdv A outer s E hr => ⟨_, PSs.nox (pss_one (ps_if (pt_not (pt_val (pe_call C_is_between.ok (hr.mono (by decide)) (by rfl) C_is_between.mg C_is_between.kp C_is_between.bd .nil pass0 (pa_cons (pv 1) (pa_cons (pe_ix ix_tup (pv 0) pe_int (fun _ _ => rfl)) (pa_cons (pe_ix ix_tup (pv 0) pe_int (fun _ _ => rfl)) pa_nil)))))) pss_never pss_nil)), ?_⟩)
  cases h1
  refine l_if0 K (ett_not (et_b (er_call3 (er_enc (α := Int) (er_varI rfl)) (er_f0 (er_var rfl h0)) (er_f1 (er_var rfl h0)) trivial))) (fun c1 H1 e1 => ?_) (fun c1 H1 e1 => q .non H1 e1 rfl)
  simp only [Enc.enc, isBetween, decide_eq_true hp.1, decide_eq_true hp.2] at c1
  cases c1
theorem sc_need_row : FnScope ["row"] ["row"] (defScope s_need_row) := ⟨rfl, rfl, rfl, by decide +kernel, rfl, by decide +kernel, by decide +kernel⟩
abbrev SP_need_row (K : PySem.W.Frag) : Sp := sp1 (α := Str) (δ := Unit) K (rowOk) (fun _ => ())
theorem ok_need_row {P : Program} {w : World} {K : PySem.W.Frag} {mg : Str → Option Value} {base : Heap} (T : Top K mg) {f_is_row : Addr} {fd_is_row : FuncData} (C_is_row : Cal P w K mg base CX0 1 "is_row" ["thing"] (SP_is_row K) f_is_row fd_is_row) {f : Addr} {fd : FuncData} (F : FnP K "need_row" s_need_row f fd) : FnOk P w K mg base CX0 2 f fd ["row"] (SP_need_row K) := by
  refine ok1 F sc_need_row rfl (fun x0 => [some x0]) (fun _ => rfl) (fun H Q x0 a0 h0 hp q cdv A outer s E hr => ⟨_, PSs.nox (pss_one (ps_if (pt_not (pt_val (pe_call C_is_row.ok (hr.mono (by decide)) (by rfl) C_is_row.mg C_is_row.kp C_is_row.bd .nil pass0 (pa_cons (pv 0) pa_nil)))) pss_never pss_nil)), ?_⟩)
  cases h0
  refine l_if0 K (ett_not (et_b (er_call1 (er_enc (α := Str) (er_varS rfl)) (rowOk_len hp)))) (fun c1 H1 e1 => ?_) (fun c1 H1 e1 => q .non H1 e1 rfl)
  rw [show isRow (Enc.enc a0) = true from hp.isRow] at c1
  cases c1
theorem sc_press_row : FnScope ["field", "value", "row", "key"] ["field", "value", "row"] (defScope s_press_row) := ⟨rfl, rfl, rfl, by decide +kernel, rfl, by decide +kernel, by decide +kernel⟩
abbrev SP_press_row (K : PySem.W.Frag) : Sp := sp3 (α := Fld) (β := Int) (γ := Str) (δ := Int) K (fun f _ z => FL f ∧ ∀ c ∈ z.cps.toList, isKey c) (fun f v z => pressRow f v z.cps.toList)
theorem ok_press_row {P : Program} {w : World} {K : PySem.W.Frag} {mg : Str → Option Value} {base : Heap} (T : Top K mg) {f_press_key : Addr} {fd_press_key : FuncData} (C_press_key : Cal P w K mg base CX0 2 "press_key" ["field", "value", "key"] (SP_press_key K) f_press_key fd_press_key) {f : Addr} {fd : FuncData} (F : FnP K "press_row" s_press_row f fd) : FnOk P w K mg base CX0 3 f fd ["field", "value", "row"] (SP_press_row K) := by
  refine ok3 F sc_press_row rfl (fun x0 x1 x2 => [some x0, some x1, some x2, none]) (fun _ _ _ => rfl) (fun H Q x0 x1 x2 a0 a1 a2 h0 h1 h2 hp q cdv A outer s E hr => ⟨_, PSs.nox (pss_cons (ps_for PassesOwn.never rfl (pi_str (pv 2)) (pg_name (i := 3) sc_press_row.nd rfl (.inl rfl)) (pss_one (ps_set (i := 1) sc_press_row.nd rfl (.inl rfl) (pe_call C_press_key.ok (hr.mono (by decide)) (by rfl) C_press_key.mg C_press_key.kp C_press_key.bd .nil pass0 (pa_cons (pv 0) (pa_cons (pv 1) (pa_cons (pv 3) pa_nil)))))))
      (pss_one (ps_ret (pv 1)))), ?_⟩)
  cases h1
  cases h2
  obtain ⟨hf, hk⟩ := hp
  refine q_for K (wk_str (er_varS rfl)) (fun pre σ' H' => ∃ y, σ' = [some x0, some (V.int (pressRow a0 a1 (pre.map Sg.c))), some (V.str a2), y] ∧ Ex H H') (fun H1 e1 => ⟨none, rfl, e1⟩) (fun H1 pre s post v σ' H' H'' e1 hx e2 p e3 r => ?_) (fun σ' H' e1 p => ?_)
  · obtain ⟨y, rfl, e4⟩ := p
    refine g_name1 (.s (.s (.s .z))) ?_
    have hm : isKey s.c := by
      have h1 : s ∈ sgs a2 := by
        rw [hx]
        exact List.mem_append_right _ (List.mem_cons_self ..)
      simp only [sgs, List.mem_map] at h1
      obtain ⟨c, hc, rfl⟩ := h1
      exact hk c hc
    refine l_set (α := Int) K (er_call3 (er_var rfl (Rep.mono (e4.trans e3) h0)) (er_varI rfl) (er_var rfl r) ⟨hf, hm⟩) (fun _ => .s .z) (fun v5 H5 e5 r5 => ?_)
    cases r5
    refine ⟨(e2.trans e3.y).trans e5.y, some v, ?_, (e4.trans e3).trans e5⟩
    simp only [pressRow, List.map_append, List.foldl_append, List.map_cons, List.map_nil, List.foldl_cons, List.foldl_nil]
  · obtain ⟨y, rfl, e4⟩ := p
    refine l_ret (α := Int) K (er_varI rfl) (fun v5 H5 e5 r => q v5 H5 (by walk_at "ex") ?_)
    have e : (sgs a2).map Sg.c = a2.cps.toList := by
      simp only [sgs, List.map_map]
      exact List.map_id _
    rw [e] at r
    exact r
theorem sc_Field___call__ : FnScope ["self", "value", "row"] ["self", "value", "row"] (defScope s_Field___call__) := ⟨rfl, rfl, rfl, by decide +kernel, rfl, by decide +kernel, by decide +kernel⟩
abbrev SP_Field___call__ (K : PySem.W.Frag) : Sp := sp3 (α := (FVal (He.ga K "Field"))) (β := Int) (γ := Str) (δ := Int) K (fun x_ v_ r_ => FOk x_.f ∧ (x_.f.low ≤ v_ ∧ v_ ≤ x_.f.high) ∧ rowOk r_) (fun x_ v_ r_ => pressRow x_.f v_ r_.cps.toList)
theorem ok_Field___call__ {P : Program} {w : World} {K : PySem.W.Frag} {mg : Str → Option Value} {base : Heap} (T : Top K mg) {f_need_value : Addr} {fd_need_value : FuncData} (C_need_value : Cal P w K mg base CX0 2 "need_value" ["field", "value"] (SP_need_value K) f_need_value fd_need_value) {f_need_row : Addr} {fd_need_row : FuncData} (C_need_row : Cal P w K mg base CX0 2 "need_row" ["row"] (SP_need_row K) f_need_row fd_need_row) {f_press_row : Addr} {fd_press_row : FuncData} (C_press_row : Cal P w K mg base CX0 3 "press_row" ["field", "value", "row"] (SP_press_row K) f_press_row fd_press_row) {f : Addr} {fd : FuncData} (F : FnM K "__call__" "Field.__call__" [] s_Field___call__ f fd) : FnOk P w K mg base CX0 4 f fd ["self", "value", "row"] (SP_Field___call__ K) := by
  refine ok3 F sc_Field___call__ rfl (fun x0 x1 x2 => [some x0, some x1, some x2]) (fun _ _ _ => rfl) (fun H Q x0 x1 x2 a0 a1 a2 h0 h1 h2 hp q cdv A outer s E hr => ⟨_, PSs.nox (pss_cons (ps_expr (pe_call C_need_value.ok (hr.mono (by decide)) (by rfl) C_need_value.mg C_need_value.kp C_need_value.bd .nil pass0 (pa_cons (pe_fld (pv 0) rfl) (pa_cons (pv 1) pa_nil))))
      (pss_cons (ps_expr (pe_call C_need_row.ok (hr.mono (by decide)) (by rfl) C_need_row.mg C_need_row.kp C_need_row.bd .nil pass0 (pa_cons (pv 2) pa_nil)))
      (pss_one (ps_ret (pe_call C_press_row.ok (hr.mono (by decide)) (by rfl) C_press_row.mg C_press_row.kp C_press_row.bd .nil pass0 (pa_cons (pe_fld (pv 0) rfl) (pa_cons (pv 1) (pa_cons (pv 2) pa_nil)))))))), ?_⟩)
  cases h1
  cases h2
  have E0 : Ex H H := Ex.refl H
  obtain ⟨ok_f, hv, hrow⟩ := hp
  refine q_drop (α := Unit) K (er_call2 (er_parts T.k_Field.c (T.k_Field.no "parts" (by decide)) (er_var rfl h0)) (er_varI rfl) hv) (fun H1 e1 => ?_)
  have h0 := Rep.mono e1 h0
  have E0 := E0.trans e1
  refine q_drop (α := Unit) K (er_call1 (er_varS rfl) hrow) (fun H2 e2 => ?_)
  have h0 := Rep.mono e2 h0
  have E0 := E0.trans e2
  refine l_ret (α := Int) K (er_call3 (er_parts T.k_Field.c (T.k_Field.no "parts" (by decide)) (er_var rfl h0)) (er_varI rfl) (er_varS rfl) ⟨ok_f.fl, hrow.2⟩) (fun v3 H3 e3 r3 => q v3 H3 (E0.trans e3) ?_)
  refine (congrArg (Rep.rel K H3 v3) (?_ : ((pressRow a0.f a1 a2.cps.toList) : Int) = _)).mp r3
  rfl
theorem sc_L_nearest : FnScope ["_law_field_here", "_law_value_here", "_law_step", "_law_base", "_law_below"] ["_law_field_here", "_law_value_here"] (defScope s_L_nearest) := ⟨rfl, rfl, rfl, by decide +kernel, rfl, by decide +kernel, by decide +kernel⟩
abbrev SP_L_nearest (K : PySem.W.Frag) : Sp := sp2 (α := Fld) (β := Int) (δ := Int) K (fun f _ => FL f) (lawNearest)
theorem ok_L_nearest {P : Program} {w : World} {K : PySem.W.Frag} {mg : Str → Option Value} {base : Heap} (T : Top K mg) {f : Addr} {fd : FuncData} (F : FnP K "_law_nearest" s_L_nearest f fd) : FnOk P w K mg base CX0 1 f fd ["_law_field_here", "_law_value_here"] (SP_L_nearest K) := by
  refine ok2 F sc_L_nearest rfl (fun x0 x1 => [some x0, some x1, none, none, none]) (fun _ _ => rfl) (fun H Q x0 x1 a0 a1 h0 h1 hp q cdv A outer s E hr => ⟨_, PSs.nox (pss_cons (ps_asg (pe_slice sl_tup (pv 0) (po_some pe_int) (po_some pe_int)) (pg_tup rfl (pgs_cons (pg_name (i := 2) sc_L_nearest.nd rfl (.inl rfl)) (pgs_cons (pg_name (i := 3) sc_L_nearest.nd rfl (.inl rfl)) pgs_nil))))
      (pss_cons (ps_set (i := 4) sc_L_nearest.nd rfl (.inl rfl) (pe_op op_add (pv 3) (pe_op op_mul (pe_op op_fdivW (pe_op op_sub (pv 1) (pv 3)) (pv 2)) (pv 2))))
      (pss_one (ps_ret (pe_ifExp (pt_cmpR op_lt (pe_op op_mul pe_int (pe_op op_sub (pv 1) (pv 4))) (pv 2) (nomark _)) (pv 4) (pe_op op_add (pv 4) (pv 2))))))), ?_⟩)
  cases h1
  obtain ⟨l0, lh, hh1, s0, s1, b0, b1⟩ := hp
  refine q_unp (lo := (some 2)) (hi := (some 4)) (er_var rfl h0) (fun _ _ h => ⟨2, rfl, h⟩) (fun _ _ h => ⟨4, rfl, h⟩) (by decide) rfl rfl (fun H1 e1 => ?_)
  refine (g_cons (.s (.s .z)) (g_cons (.s (.s (.s .z))) (g_nil ?_)))
  refine q_setI K (er_add (er_varI rfl) (er_mul (er_div (er_sub (er_varI rfl) (er_varI rfl)) (er_varI rfl) (cdivw (by omega) (by omega))) (er_varI rfl) (.inr ⟨by omega, by omega⟩))) (fun _ => (.s (.s (.s (.s .z))))) (fun H2 e2 => ?_)
  refine l_ret (α := Int) K (er_if (et_t (er_lt (er_mul er_int (er_sub (er_varI rfl) (er_varI rfl)) (.inl ⟨by omega, by omega⟩)) (er_varI rfl))) (fun _ => er_varI rfl) (fun _ => er_add (er_varI rfl) (er_varI rfl))) (fun v H3 e3 r => q v H3 (e1.trans (e2.trans e3)) ?_)
  refine (congrArg (Rep.rel K H3 v) ?_).mp r
  simp only [lawNearest, decide_eq_true_eq]
theorem sc_L_key : FnScope ["_law_field_here", "_law_value_here", "_law_key_here", "_law_low", "_law_high", "_law_step", "_law_base", "_law_off", "_law_ends", "_law_big", "_law_many", "_law_up", "_law_aim", "_law_below", "_law_above"] ["_law_field_here", "_law_value_here", "_law_key_here"] (defScope s_L_key) := ⟨rfl, rfl, rfl, by decide +kernel, rfl, by decide +kernel, by decide +kernel⟩
abbrev SP_L_key (K : PySem.W.Frag) : Sp := sp3 (α := Fld) (β := Int) (γ := Sg) (δ := Int) K (fun f _ s => FOk f ∧ isKey s.c) (fun f v s => pressKey f v s.c)
theorem ok_L_key {P : Program} {w : World} {K : PySem.W.Frag} {mg : Str → Option Value} {base : Heap} (T : Top K mg) {f_L_nearest : Addr} {fd_L_nearest : FuncData} (C_L_nearest : Cal P w K mg base CX0 1 "_law_nearest" ["_law_field_here", "_law_value_here"] (SP_L_nearest K) f_L_nearest fd_L_nearest) {f : Addr} {fd : FuncData} (F : FnP K "_law_key" s_L_key f fd) : FnOk P w K mg base CX0 2 f fd ["_law_field_here", "_law_value_here", "_law_key_here"] (SP_L_key K) := by
  refine ok3 F sc_L_key rfl (fun x0 x1 x2 => [some x0, some x1, some x2, none, none, none, none, none, none, none, none, none, none, none, none]) (fun _ _ _ => rfl) (fun H Q x0 x1 x2 a0 a1 a2 h0 h1 h2 hp q cdv A outer s E hr => ⟨_, PSs.nox (pss_cons (ps_asg (pv 0) (pg_tup rfl (pgs_cons (pg_name (i := 3) sc_L_key.nd rfl (.inl rfl)) (pgs_cons (pg_name (i := 4) sc_L_key.nd rfl (.inl rfl)) (pgs_cons (pg_name (i := 5) sc_L_key.nd rfl (.inl rfl)) (pgs_cons (pg_name (i := 6) sc_L_key.nd rfl (.inl rfl)) (pgs_cons (pg_name (i := 7) sc_L_key.nd rfl (.inl rfl)) (pgs_cons (pg_name (i := 8) sc_L_key.nd rfl (.inl rfl)) (pgs_cons (pg_name (i := 9) sc_L_key.nd rfl (.inl rfl)) pgs_nil)))))))))
      (pss_cons (ps_if (PW.pt (pw_or (pt_cmpR op_eq (pv 2) pe_str (nomark _)) (pw_or1 (pt_cmpR op_eq (pv 2) pe_str (nomark _))))) (pss_one (ps_ret (pe_ifExp (pt_cmpR op_eq (pv 2) pe_str (nomark _)) (pv 3) (pv 4)))) pss_nil)
      (pss_cons (ps_par (i := 10) (j := 11) rfl sc_L_key.nd rfl rfl (by decide) rfl rfl (pa_cons (pe_ifExp (pt_cmpR op_inS (pv 2) pe_str rfl) (pv 9) pe_int) (pa_cons (pe_cmpR op_inS (pv 2) pe_str rfl) pa_nil)) (by rfl))
      (pss_cons (ps_if (pt_cmpR op_eq (pv 7) pe_str (nomark _)) (pss_one (ps_set (i := 12) sc_L_key.nd rfl (.inl rfl) (pe_ifExp (pt_val (pv 11)) (pe_op op_add (pv 1) (pe_op op_mul (pv 10) (pv 5))) (pe_op op_sub (pv 1) (pe_op op_mul (pv 10) (pv 5)))))) (pss_one (ps_if (pt_cmpR op_eq (pv 7) pe_str (nomark _)) (pss_one (ps_set (i := 12) sc_L_key.nd rfl (.inl rfl) (pe_op op_add (pe_call C_L_nearest.ok (hr.mono (by decide)) (by rfl) C_L_nearest.mg C_L_nearest.kp C_L_nearest.bd .nil pass0 (pa_cons (pv 0) (pa_cons (pv 1) pa_nil))) (pe_ifExp (pt_val (pv 11)) (pe_op op_mul (pv 10) (pv 5)) (pe_op op_sub pe_int (pe_op op_mul (pv 10) (pv 5))))))) (pss_cons (ps_set (i := 13) sc_L_key.nd rfl (.inl rfl) (pe_op op_add (pv 6) (pe_op op_mul (pe_op op_fdivW (pe_op op_sub (pv 1) (pv 6)) (pv 5)) (pv 5))))
      (pss_cons (ps_set (i := 14) sc_L_key.nd rfl (.inl rfl) (pe_ifExp (pt_cmpR op_eq (pv 13) (pv 1) (nomark _)) (pv 13) (pe_op op_add (pv 13) (pv 5))))
      (pss_one (ps_set (i := 12) sc_L_key.nd rfl (.inl rfl) (pe_ifExp (pt_val (pv 11)) (pe_op op_add (pv 13) (pe_op op_mul (pv 10) (pv 5))) (pe_op op_sub (pv 14) (pe_op op_mul (pv 10) (pv 5)))))))))))
      (pss_cons (ps_if (pt_chain op_le op_le (pv 3) (pv 12) (pv 4)) (pss_one (ps_ret (pv 12))) pss_nil)
      (pss_cons (ps_if (pt_cmpR op_eq (pv 8) pe_str (nomark _)) (pss_one (ps_ret (pv 1))) pss_nil)
      (pss_one (ps_ret (pe_ifExp (pt_cmpR op_eq (pe_cmpR op_gt (pv 12) (pv 4) (nomark _)) (pe_cmpR op_eq (pv 8) pe_str (nomark _)) (nomark _)) (pv 4) (pv 3)))))))))), ?_⟩)
  cases h1
  cases h2
  obtain ⟨c⟩ := a2
  obtain ⟨hf, hk⟩ := hp
  have hf2 := hf.fl
  obtain ⟨l0, lh, hh1, s0, s1, b0, b1, hp_off, hp_ends, g0, g1, _⟩ := hf
  have hs : ∀ {H' : Hp} {a b c2 d e f g h i j k l m n : Option V}, ER K (tVar 2) [a, b, some (V.str ⟨#[c]⟩), c2, d, e, f, g, h, i, j, k, l, m, n] H' (Sg.mk c) := er_var rfl rfl
  refine q_unpF rfl (er_var rfl h0) (fun H1 e1 => ?_)
  refine (g_cons (.s (.s (.s .z))) (g_cons (.s (.s (.s (.s .z)))) (g_cons (.s (.s (.s (.s (.s .z))))) (g_cons (.s (.s (.s (.s (.s (.s .z)))))) (g_cons (.s (.s (.s (.s (.s (.s (.s .z))))))) (g_cons (.s (.s (.s (.s (.s (.s (.s (.s .z)))))))) (g_cons (.s (.s (.s (.s (.s (.s (.s (.s (.s .z))))))))) (g_nil ?_))))))))
  refine q_if0 K (ett_or (et_t (er_eqS (er_sg hs) er_str)) (fun _ => et_t (er_eqS (er_sg hs) er_str))) (fun c2 H2 e2 => ?_) (fun c2 H2 e2 => ?_)
  · have hc : c = 104 ∨ c = 101 := by
      simp only [Bool.or_eq_true, decide_eq_true_eq] at c2
      exact c2.imp sg_eq.mp sg_eq.mp
    refine l_ret (α := Int) K (er_if (et_t (er_eqS (er_sg hs) er_str)) (fun _ => er_varI rfl) (fun _ => er_varI rfl)) (fun v H3 e3 r => q v H3 (e1.trans (e2.trans e3)) ?_)
    refine (congrArg (Rep.rel K H3 v) ?_).mp r
    rcases hc with z | z <;> (subst z; rfl)
  have hc : ¬ (c = 104 ∨ c = 101) := by
    rw [← Bool.not_eq_true] at c2
    simp only [Bool.or_eq_true, decide_eq_true_eq] at c2
    exact fun z => c2 (z.imp sg_eq.mpr sg_eq.mpr)
  have hm : isMove c := by
    rcases hk with z | z | z | z | z | z
    · exact .inl z
    · exact .inr (.inl z)
    · exact .inr (.inr (.inl z))
    · exact .inr (.inr (.inr z))
    · exact absurd (.inl z) hc
    · exact absurd (.inr z) hc
  obtain ⟨many, up, hmany, hup, hms, hmb⟩ : ∃ (many : Int) (up : Bool), (if decide (c ∈ ("UD" : Str).cps.toList) = true then a0.big else 1) = many ∧ decide (c ∈ ("uU" : Str).cps.toList) = up ∧ manySteps a0 c = (if up = true then many else -many) ∧ 1 ≤ many ∧ many ≤ 12 := by
    rcases hm with z | z | z | z <;> subst z
    · exact ⟨1, true, rfl, rfl, rfl, by omega, by omega⟩
    · exact ⟨1, false, rfl, rfl, rfl, by omega, by omega⟩
    · exact ⟨a0.big, true, rfl, rfl, rfl, by omega, by omega⟩
    · exact ⟨a0.big, false, rfl, rfl, rfl, by omega, by omega⟩
  refine q_par (α := Int) (β := Bool) (x := many) (y := up) K (er_is (er_if (et_t (er_inS hs er_str)) (fun _ => er_varI rfl) (fun _ => er_int)) hmany) (fun H3a e3a => er_is (er_inS hs er_str) hup) (fun _ _ => (.s (.s (.s (.s (.s (.s (.s (.s (.s (.s .z))))))))))) (fun _ _ => (.s (.s (.s (.s (.s (.s (.s (.s (.s (.s (.s .z)))))))))))) (fun v3a v3b H3 e3 r3a r3b => ?_)
  cases r3a
  cases r3b
  have e03 := (e1.trans e2).trans e3
  have hpk : pressKey a0 a1 c = (if a0.low ≤ aimOf a0 a1 (manySteps a0 c) ∧ aimOf a0 a1 (manySteps a0 c) ≤ a0.high then aimOf a0 a1 (manySteps a0 c)
      else if a0.ends = "stay" then a1 else if a0.ends = "round" then (if aimOf a0 a1 (manySteps a0 c) > a0.high then a0.low else a0.high) else (if aimOf a0 a1 (manySteps a0 c) > a0.high then a0.high else a0.low)) := by
    unfold pressKey
    rw [if_neg (fun z => hc (.inl z)), if_neg (fun z => hc (.inr z))]
  refine q_ifJ K (P := fun b => b = decide (a0.off = "add")) (fun σ' H' => ∃ (o1 o2 : Option V), σ' = [some x0, some (.int a1), some (.str ⟨#[c]⟩), some (.int a0.low), some (.int a0.high), some (.int a0.step), some (.int a0.base), some (.str a0.off), some (.str a0.ends), some (.int a0.big), some (.int many), some (.bl up), some (.int (aimOf a0 a1 (manySteps a0 c))), o1, o2] ∧ Ex H H') ?cont
    (etn_of (et_t (er_eqS (er_varS rfl) er_str)) rfl) ?c1 ?c2
  case c1 =>
    intro D2 hW hb H4 e4
    have hoff : a0.off = "add" := of_decide_eq_true hb.symm
    refine l_set (α := Int) K (er_if (et_b (er_varB rfl)) (fun _ => er_add (er_varI rfl) (er_mul (er_varI rfl) (er_varI rfl) (.inl ⟨by omega, by omega⟩))) (fun _ => er_sub (er_varI rfl) (er_mul (er_varI rfl) (er_varI rfl) (.inl ⟨by omega, by omega⟩)))) (fun _ => (.s (.s (.s (.s (.s (.s (.s (.s (.s (.s (.s (.s .z))))))))))))) (fun v H5 e5 r => ?_)
    cases r
    have e : (if up = true then a1 + many * a0.step else a1 - many * a0.step) = aimOf a0 a1 (manySteps a0 c) := by
      unfold aimOf
      rw [if_pos hoff, hms]
      cases up with
      | true => rfl
      | false =>
        show a1 - many * a0.step = a1 + -many * a0.step
        rw [Int.neg_mul]
        omega
    rw [e]
    exact hW _ _ ⟨_, _, rfl, (e03.trans e4).trans e5⟩
  case c2 =>
    intro D2 hW hb H4 e4
    have hoff : ¬ a0.off = "add" := of_decide_eq_false hb.symm
    refine l_if K (et_t (er_eqS (er_varS rfl) er_str)) (fun c5 H5 e5 => ?_) (fun c5 H5 e5 => ?_)
    · have hnear : a0.off = "near" := of_decide_eq_true c5
      refine l_set (α := Int) K (er_add (er_call2 (er_var rfl (Rep.mono ((e03.trans e4).trans e5) h0)) (er_varI rfl) hf2) (er_if (et_b (er_varB rfl)) (fun _ => er_mul (er_varI rfl) (er_varI rfl) (.inl ⟨by omega, by omega⟩)) (fun _ => er_sub er_int (er_mul (er_varI rfl) (er_varI rfl) (.inl ⟨by omega, by omega⟩))))) (fun _ => (.s (.s (.s (.s (.s (.s (.s (.s (.s (.s (.s (.s .z))))))))))))) (fun v H6 e6 r => ?_)
      cases r
      have e : lawNearest a0 a1 + (if up = true then many * a0.step else 0 - many * a0.step) = aimOf a0 a1 (manySteps a0 c) := by
        unfold aimOf
        rw [if_neg hoff, if_pos hnear, hms, nearest_eq s0, Int.add_mul]
        cases up with
        | true =>
          show _ + many * a0.step = _ + (_ + many * a0.step)
          omega
        | false =>
          show _ + (0 - many * a0.step) = _ + (_ + -many * a0.step)
          rw [Int.neg_mul]
          omega
      rw [e]
      exact hW _ _ ⟨_, _, rfl, ((e03.trans e4).trans e5).trans e6⟩
    · have hnear : ¬ a0.off = "near" := of_decide_eq_false c5
      have e05 := (e03.trans e4).trans e5
      refine q_setI K (er_add (er_varI rfl) (er_mul (er_div (er_sub (er_varI rfl) (er_varI rfl)) (er_varI rfl) (cdivw (by omega) (by omega))) (er_varI rfl) (.inr ⟨by omega, by omega⟩))) (fun _ => (.s (.s (.s (.s (.s (.s (.s (.s (.s (.s (.s (.s (.s .z)))))))))))))) (fun H6 e6 => ?_)
      refine q_setI K (er_if (et_t (er_eqI (er_varI rfl) (er_varI rfl))) (fun _ => er_varI rfl) (fun _ => er_add (er_varI rfl) (er_varI rfl))) (fun _ => (.s (.s (.s (.s (.s (.s (.s (.s (.s (.s (.s (.s (.s (.s .z))))))))))))))) (fun H7 e7 => ?_)
      refine l_set (α := Int) K (er_if (et_b (er_varB rfl)) (fun _ => er_add (er_varI rfl) (er_mul (er_varI rfl) (er_varI rfl) (.inl ⟨by omega, by omega⟩))) (fun _ => er_sub (er_varI rfl) (er_mul (er_varI rfl) (er_varI rfl) (.inl ⟨by omega, by omega⟩)))) (fun _ => (.s (.s (.s (.s (.s (.s (.s (.s (.s (.s (.s (.s .z))))))))))))) (fun v H8 e8 r => ?_)
      cases r
      simp only [decide_eq_true_eq]
      have e : (if up = true then a0.base + (a1 - a0.base) / a0.step * a0.step + many * a0.step else (if a0.base + (a1 - a0.base) / a0.step * a0.step = a1 then a0.base + (a1 - a0.base) / a0.step * a0.step else a0.base + (a1 - a0.base) / a0.step * a0.step + a0.step) - many * a0.step) = aimOf a0 a1 (manySteps a0 c) := by
        unfold aimOf
        rw [if_neg hoff, if_neg hnear, hms]
        cases up with
        | true =>
          simp only [if_true]
          rw [if_pos (show (0 : Int) < many by omega), Int.add_mul]
          omega
        | false =>
          simp only [Bool.false_eq_true, if_false]
          rw [if_neg (show ¬ (0 : Int) < -many by omega), ← up_eq s0, Int.add_mul, Int.neg_mul many]
          omega
      rw [e]
      exact hW _ _ ⟨_, _, rfl, ((e05.trans e6).trans e7).trans e8⟩
  rintro _ H4 ⟨o1, o2, rfl, e04⟩
  generalize aimOf a0 a1 (manySteps a0 c) = aim at hpk
  refine q_if0 K (et_t (er_chain (er_varI rfl) (er_varI rfl) (er_varI rfl))) (fun c5 H5 e5 => ?_) (fun c5 H5 e5 => ?_)
  · simp only [Bool.and_eq_true, decide_eq_true_eq] at c5
    refine l_ret (α := Int) K (er_varI rfl) (fun v H6 e6 r => q v H6 (e04.trans (e5.trans e6)) ?_)
    rw [hpk, if_pos c5]
    exact r
  rw [← Bool.not_eq_true] at c5
  simp only [Bool.and_eq_true, decide_eq_true_eq] at c5
  rw [if_neg c5] at hpk
  refine q_if0 K (et_t (er_eqS (er_varS rfl) er_str)) (fun c6 H6 e6 => ?_) (fun c6 H6 e6 => ?_)
  · simp only [decide_eq_true_eq] at c6
    refine l_ret (α := Int) K (er_varI rfl) (fun v H7 e7 r => q v H7 (((e04.trans e5).trans e6).trans e7) ?_)
    rw [hpk, if_pos c6]
    exact r
  simp only [decide_eq_false_iff_not] at c6
  rw [if_neg c6] at hpk
  refine l_ret (α := Int) K (er_if (et_t (er_eqB (er_gt (er_varI rfl) (er_varI rfl)) (er_eqS (er_varS rfl) er_str))) (fun _ => er_varI rfl) (fun _ => er_varI rfl)) (fun v H7 e7 r => q v H7 (((e04.trans e5).trans e6).trans e7) ?_)
  rw [hpk]
  refine (congrArg (Rep.rel K H7 v) ?_).mp r
  rcases hp_ends with z | z | z
  · rw [if_pos z]
    have ne : ¬ a0.ends = "stop" := by
      rw [z]
      decide
    rw [decide_eq_false ne]
    by_cases y : a0.high < aim
    · rw [if_pos y, decide_eq_true y]
      rfl
    · rw [if_neg y, decide_eq_false y]
      rfl
  · exact absurd z c6
  · have ne : ¬ a0.ends = "round" := by
      rw [z]
      decide
    rw [if_neg ne, decide_eq_true z]
    by_cases y : a0.high < aim
    · rw [if_pos y, decide_eq_true y]
      rfl
    · rw [if_neg y, decide_eq_false y]
      rfl
theorem sc_L_pressed : FnScope ["_law_field_here", "_law_value_here", "_law_row_here", "_law_key_here"] ["_law_field_here", "_law_value_here", "_law_row_here"] (defScope s_L_pressed) := ⟨rfl, rfl, rfl, by decide +kernel, rfl, by decide +kernel, by decide +kernel⟩
abbrev SP_L_pressed (K : PySem.W.Frag) : Sp := sp3 (α := Fld) (β := Int) (γ := Str) (δ := Int) K (fun f _ z => FOk f ∧ ∀ c ∈ z.cps.toList, isKey c) (fun f v z => pressRow f v z.cps.toList)
theorem ok_L_pressed {P : Program} {w : World} {K : PySem.W.Frag} {mg : Str → Option Value} {base : Heap} (T : Top K mg) {f_L_key : Addr} {fd_L_key : FuncData} (C_L_key : Cal P w K mg base CX0 2 "_law_key" ["_law_field_here", "_law_value_here", "_law_key_here"] (SP_L_key K) f_L_key fd_L_key) {f : Addr} {fd : FuncData} (F : FnP K "_law_pressed" s_L_pressed f fd) : FnOk P w K mg base CX0 3 f fd ["_law_field_here", "_law_value_here", "_law_row_here"] (SP_L_pressed K) := by
  refine ok3 F sc_L_pressed rfl (fun x0 x1 x2 => [some x0, some x1, some x2, none]) (fun _ _ _ => rfl) (fun H Q x0 x1 x2 a0 a1 a2 h0 h1 h2 hp q cdv A outer s E hr => ⟨_, PSs.nox (pss_cons (ps_for PassesOwn.never rfl (pi_str (pv 2)) (pg_name (i := 3) sc_L_pressed.nd rfl (.inl rfl)) (pss_one (ps_set (i := 1) sc_L_pressed.nd rfl (.inl rfl) (pe_call C_L_key.ok (hr.mono (by decide)) (by rfl) C_L_key.mg C_L_key.kp C_L_key.bd .nil pass0 (pa_cons (pv 0) (pa_cons (pv 1) (pa_cons (pv 3) pa_nil)))))))
      (pss_one (ps_ret (pv 1)))), ?_⟩)
  cases h1
  cases h2
  obtain ⟨hf, hk⟩ := hp
  have hf0 := hf
  refine q_for K (wk_str (er_varS rfl)) (fun pre σ' H' => ∃ y, σ' = [some x0, some (V.int (pressRow a0 a1 (pre.map Sg.c))), some (V.str a2), y] ∧ Ex H H') (fun H1 e1 => ⟨none, rfl, e1⟩) (fun H1 pre s post v σ' H' H'' e1 hx e2 p e3 r => ?_) (fun σ' H' e1 p => ?_)
  · obtain ⟨y, rfl, e4⟩ := p
    refine g_name1 (.s (.s (.s .z))) ?_
    have hm : isKey s.c := by
      have h1 : s ∈ sgs a2 := by
        rw [hx]
        exact List.mem_append_right _ (List.mem_cons_self ..)
      simp only [sgs, List.mem_map] at h1
      obtain ⟨c, hc, rfl⟩ := h1
      exact hk c hc
    refine l_set (α := Int) K (er_call3 (er_var rfl (Rep.mono (e4.trans e3) h0)) (er_varI rfl) (er_var rfl r) ⟨hf0, hm⟩) (fun _ => .s .z) (fun v5 H5 e5 r5 => ?_)
    cases r5
    refine ⟨(e2.trans e3.y).trans e5.y, some v, ?_, (e4.trans e3).trans e5⟩
    simp only [pressRow, List.map_append, List.foldl_append, List.map_cons, List.map_nil, List.foldl_cons, List.foldl_nil]
  · obtain ⟨y, rfl, e4⟩ := p
    refine l_ret (α := Int) K (er_varI rfl) (fun v5 H5 e5 r => q v5 H5 (by walk_at "ex") ?_)
    have e : (sgs a2).map Sg.c = a2.cps.toList := by
      simp only [sgs, List.map_map]
      exact List.map_id _
    rw [e] at r
    exact r
theorem sc_Field___len__ : FnScope ["self", "first", "last"] ["self"] (defScope s_Field___len__) := ⟨rfl, rfl, rfl, by decide +kernel, rfl, by decide +kernel, by decide +kernel⟩
abbrev SP_Field___len__ (K : PySem.W.Frag) : Sp := sp1 (α := (FVal (He.ga K "Field"))) (δ := Int) K (fun x_ => FOk x_.f ∧ everyOf x_.f ≤ 100000 ∧ x_.f.step < 1073741824) (fun x_ => everyOf x_.f)
theorem ok_Field___len__ {P : Program} {w : World} {K : PySem.W.Frag} {mg : Str → Option Value} {base : Heap} (T : Top K mg) {f_grid_of : Addr} {fd_grid_of : FuncData} (C_grid_of : Cal P w K mg base CX0 1 "grid_of" ["field"] (SP_grid_of K) f_grid_of fd_grid_of) {f : Addr} {fd : FuncData} (F : FnM K "__len__" "Field.__len__" [] s_Field___len__ f fd) : FnOk P w K mg base CX0 2 f fd ["self"] (SP_Field___len__ K) := by
  refine ok1 F sc_Field___len__ rfl (fun x0 => [some x0, none, none]) (fun _ => rfl) (fun H Q x0 a0 h0 hp q cdv A outer s E hr => ⟨_, PSs.nox (pss_cons (ps_asg (pe_call C_grid_of.ok (hr.mono (by decide)) (by rfl) C_grid_of.mg C_grid_of.kp C_grid_of.bd .nil pass0 (pa_cons (pe_fld (pv 0) rfl) pa_nil)) (pg_tup rfl (pgs_cons (pg_name (i := 1) sc_Field___len__.nd rfl (.inl rfl)) (pgs_cons (pg_name (i := 2) sc_Field___len__.nd rfl (.inl rfl)) pgs_nil))))
      (pss_one (ps_ret (pe_callB call_len_seq (by rfl) T.b_len (by decide +kernel) (pa_cons (pe_listRgC rfl (by rfl) T.b_list (by rfl) T.b_range (pa_cons (pv 1) (pa_cons (pe_op op_add (pv 2) pe_int) (pa_cons (pe_ix ix_tup (pe_fld (pv 0) rfl) pe_int (fun _ _ => rfl)) pa_nil)))) pa_nil))))), ?_⟩)
  have E0 : Ex H H := Ex.refl H
  obtain ⟨ok_f, hl, hst⟩ := hp
  have hg := grid_in ok_f.fl
  obtain ⟨l0_f, lh_f, h1_f, s0_f, s1_f, b0_f, b1_f, off_f, ends_f, g0_f, g1_f, on_f⟩ := ok_f
  have ok_f : FOk a0.f := ⟨l0_f, lh_f, h1_f, s0_f, s1_f, b0_f, b1_f, off_f, ends_f, g0_f, g1_f, on_f⟩
  have hge : (gridOf a0.f).1 ≤ (gridOf a0.f).2 := on_f
  refine q_unpP (α := Int) (β := Int) K (er_call1 (er_parts T.k_Field.c (T.k_Field.no "parts" (by decide)) (er_var rfl h0)) (by walk_at "sd")) (fun v1a v1b H1 e1 r_1a r_1b => ?_)
  have h0 := Rep.mono e1 h0
  have E0 := E0.trans e1
  cases r_1a
  cases r_1b
  refine (g_cons (.s .z) (g_cons (.s (.s .z)) (g_nil ?_)))
  refine l_ret (α := Int) K (er_lenL (er_listRgC (er_varI rfl) (er_add (er_varI rfl) er_int) (er_f2 (er_parts T.k_Field.c (T.k_Field.no "parts" (by decide)) (er_var rfl h0))) ⟨by omega, by omega⟩ ⟨by omega, by omega⟩ (by omega) hst (fv_len ok_f hl))) (fun v2 H2 e2 r2 => q v2 H2 (E0.trans e2) ?_)
  refine (congrArg (Rep.rel K H2 v2) (?_ : (((rgC ((gridOf a0.f).1) a0.f.step (if (gridOf a0.f).1 < ((gridOf a0.f).2 + 1) then ((((gridOf a0.f).2 + 1) - (gridOf a0.f).1 - 1) / a0.f.step + 1).toNat else 0)).length : Int) : Int) = _)).mp r2
  exact fv_every ok_f hge
theorem sc_Field___getitem__ : FnScope ["self", "index", "first", "last"] ["self", "index"] (defScope s_Field___getitem__) := ⟨rfl, rfl, rfl, by decide +kernel, rfl, by decide +kernel, by decide +kernel⟩
abbrev SP_Field___getitem__ (K : PySem.W.Frag) : Sp := sp2 (α := (FVal (He.ga K "Field"))) (β := Int) (δ := Int) K (fun x_ i_ => FOk x_.f ∧ 0 ≤ i_ ∧ i_ ≤ ((gridOf x_.f).2 - (gridOf x_.f).1) / x_.f.step) (fun x_ i_ => (gridOf x_.f).1 + i_ * x_.f.step)
theorem ok_Field___getitem__ {P : Program} {w : World} {K : PySem.W.Frag} {mg : Str → Option Value} {base : Heap} (T : Top K mg) {f_grid_of : Addr} {fd_grid_of : FuncData} (C_grid_of : Cal P w K mg base CX0 1 "grid_of" ["field"] (SP_grid_of K) f_grid_of fd_grid_of) {f_is_between : Addr} {fd_is_between : FuncData} (C_is_between : Cal P w K mg base CX0 1 "is_between" ["thing", "low", "high"] (SP_is_between K) f_is_between fd_is_between) {f : Addr} {fd : FuncData} (F : FnM K "__getitem__" "Field.__getitem__" [] s_Field___getitem__ f fd) : FnOk P w K mg base CX0 2 f fd ["self", "index"] (SP_Field___getitem__ K) := by
  refine ok2 F sc_Field___getitem__ rfl (fun x0 x1 => [some x0, some x1, none, none]) (fun _ _ => rfl) (fun H Q x0 x1 a0 a1 h0 h1 hp q cdv A outer s E hr => ⟨_, PSs.nox (pss_cons (ps_asg (pe_call C_grid_of.ok (hr.mono (by decide)) (by rfl) C_grid_of.mg C_grid_of.kp C_grid_of.bd .nil pass0 (pa_cons (pe_fld (pv 0) rfl) pa_nil)) (pg_tup rfl (pgs_cons (pg_name (i := 2) sc_Field___getitem__.nd rfl (.inl rfl)) (pgs_cons (pg_name (i := 3) sc_Field___getitem__.nd rfl (.inl rfl)) pgs_nil))))
      (pss_cons (ps_if (pt_not (pt_val (pe_call C_is_between.ok (hr.mono (by decide)) (by rfl) C_is_between.mg C_is_between.kp C_is_between.bd .nil pass0 (pa_cons (pv 1) (pa_cons pe_int (pa_cons (pe_op op_fdivW (pe_op op_sub (pv 3) (pv 2)) (pe_ix ix_tup (pe_fld (pv 0) rfl) pe_int (fun _ _ => rfl))) pa_nil)))))) pss_never pss_nil)
      (pss_one (ps_ret (pe_op op_add (pv 2) (pe_op op_mul (pv 1) (pe_ix ix_tup (pe_fld (pv 0) rfl) pe_int (fun _ _ => rfl)))))))), ?_⟩)
  cases h1
  have E0 : Ex H H := Ex.refl H
  obtain ⟨ok_f, hi⟩ := hp
  obtain ⟨l0_f, lh_f, h1_f, s0_f, s1_f, b0_f, b1_f, off_f, ends_f, g0_f, g1_f, on_f⟩ := ok_f
  have ok_f : FOk a0.f := ⟨l0_f, lh_f, h1_f, s0_f, s1_f, b0_f, b1_f, off_f, ends_f, g0_f, g1_f, on_f⟩
  have hg := grid_in ok_f.fl
  obtain ⟨first, d_first⟩ : ∃ z : (Int × Int), z = (gridOf a0.f) := ⟨_, rfl⟩
  refine q_unpP (α := Int) (β := Int) K (er_is (er_call1 (er_parts T.k_Field.c (T.k_Field.no "parts" (by decide)) (er_var rfl h0)) (by walk_at "sd")) d_first.symm) (fun v1a v1b H1 e1 r_1a r_1b => ?_)
  have h0 := Rep.mono e1 h0
  have E0 := E0.trans e1
  cases r_1a
  cases r_1b
  refine (g_cons (.s (.s .z)) (g_cons (.s (.s (.s .z))) (g_nil ?_)))
  have nr1 : (!(isBetween (Enc.enc (a1 : Int)) 0 ((first.2 - first.1) / a0.f.step))) = false := by
    rw [between_enc (by rw [d_first]; omega)]
    rfl
  refine q_no K (et_is (a := (!(isBetween (Enc.enc (a1 : Int)) 0 ((first.2 - first.1) / a0.f.step)))) (ett_not (et_b (er_call3 (er_enc (α := Int) (er_varI rfl)) er_int (er_div (er_sub (er_varI rfl) (er_varI rfl)) (er_f2 (er_parts T.k_Field.c (T.k_Field.no "parts" (by decide)) (er_var rfl h0))) (cdivw (by walk_at "sd") (by walk_at "sd"))) (by walk_at "sd")))) nr1) (fun H2 e2 => ?_)
  have h0 := Rep.mono e2 h0
  have E0 := E0.trans e2
  refine l_ret (α := Int) K (er_add (er_varI rfl) (er_mul (er_varI rfl) (er_f2 (er_parts T.k_Field.c (T.k_Field.no "parts" (by decide)) (er_var rfl h0))) (by walk_at "mc"))) (fun v3 H3 e3 r3 => q v3 H3 (E0.trans e3) ?_)
  refine (congrArg (Rep.rel K H3 v3) (?_ : ((first.1 + (a1 * a0.f.step)) : Int) = _)).mp r3
  rw [d_first]
theorem sc_is_on : FnScope ["field", "value"] ["field", "value"] (defScope s_is_on) := ⟨rfl, rfl, rfl, by decide +kernel, rfl, by decide +kernel, by decide +kernel⟩
abbrev SP_is_on (K : PySem.W.Frag) : Sp := sp2 (α := Fld) (β := Int) (δ := Bool) K (fun f_ _ => 1 ≤ f_.step) (fun f_ v_ => isOn f_ v_)
theorem ok_is_on {P : Program} {w : World} {K : PySem.W.Frag} {mg : Str → Option Value} {base : Heap} (T : Top K mg) {f : Addr} {fd : FuncData} (F : FnP K "is_on" s_is_on f fd) : FnOk P w K mg base CX0 1 f fd ["field", "value"] (SP_is_on K) := by
  refine ok2 F sc_is_on rfl (fun x0 x1 => [some x0, some x1]) (fun _ _ => rfl) (fun H Q x0 x1 a0 a1 h0 h1 hp q cdv A outer s E hr => ⟨_, PSs.nox (pss_one (ps_ret (pe_cmpR op_eq (pe_op op_mod (pe_op op_sub (pv 1) (pe_ix ix_tup (pv 0) pe_int (fun _ _ => rfl))) (pe_ix ix_tup (pv 0) pe_int (fun _ _ => rfl))) pe_int (nomark _)))), ?_⟩)
  cases h1
  have E0 : Ex H H := Ex.refl H
  refine l_ret (α := Bool) K (er_eqI (er_mod (er_sub (er_varI rfl) (er_f3 (er_var rfl h0))) (er_f2 (er_var rfl h0)) (by walk_at "sd")) er_int) (fun v1 H1 e1 r1 => q v1 H1 (E0.trans e1) ?_)
  refine (congrArg (Rep.rel K H1 v1) (?_ : ((decide (((a1 - a0.base) % a0.step) = 0)) : Bool) = _)).mp r1
  rfl
theorem sc_Field___contains__ : FnScope ["self", "thing"] ["self", "thing"] (defScope s_Field___contains__) := ⟨rfl, rfl, rfl, by decide +kernel, rfl, by decide +kernel, by decide +kernel⟩
abbrev SP_Field___contains__ (K : PySem.W.Frag) : Sp := sp2 (α := (FVal (He.ga K "Field"))) (β := PyData) (δ := Bool) K (fun x_ _ => FOk x_.f) (fun x_ d_ => inFld x_.f d_)
theorem ok_Field___contains__ {P : Program} {w : World} {K : PySem.W.Frag} {mg : Str → Option Value} {base : Heap} (T : Top K mg) {f_is_between : Addr} {fd_is_between : FuncData} (C_is_between : Cal P w K mg base CX0 1 "is_between" ["thing", "low", "high"] (SP_is_between K) f_is_between fd_is_between) {f_is_on : Addr} {fd_is_on : FuncData} (C_is_on : Cal P w K mg base CX0 1 "is_on" ["field", "value"] (SP_is_on K) f_is_on fd_is_on) {f : Addr} {fd : FuncData} (F : FnM K "__contains__" "Field.__contains__" [] s_Field___contains__ f fd) : FnOk P w K mg base CX0 2 f fd ["self", "thing"] (SP_Field___contains__ K) := by
  refine ok2 F sc_Field___contains__ rfl (fun x0 x1 => [some x0, some x1]) (fun _ _ => rfl) (fun H Q x0 x1 a0 a1 h0 h1 hp q cdv A outer s E hr => ⟨_, PSs.nox (pss_one (ps_ret (pe_and (pe_call C_is_between.ok (hr.mono (by decide)) (by rfl) C_is_between.mg C_is_between.kp C_is_between.bd .nil pass0 (pa_cons (pv 1) (pa_cons (pe_ix ix_tup (pe_fld (pv 0) rfl) pe_int (fun _ _ => rfl)) (pa_cons (pe_ix ix_tup (pe_fld (pv 0) rfl) pe_int (fun _ _ => rfl)) pa_nil)))) (pe_one (pe_call C_is_on.ok (hr.mono (by decide)) (by rfl) C_is_on.mg C_is_on.kp C_is_on.bd .nil pass0 (pa_cons (pe_fld (pv 0) rfl) (pa_cons (pv 1) pa_nil))))))), ?_⟩)
  have ok_f := hp
  cases a1 with
  | int i =>
    cases h1
    exact l_ret (α := Bool) K (er_and (er_call3 (er_enc (α := Int) (er_varI rfl)) (er_f0 (er_parts T.k_Field.c (T.k_Field.no "parts" (by decide)) (er_var rfl h0))) (er_f1 (er_parts T.k_Field.c (T.k_Field.no "parts" (by decide)) (er_var rfl h0))) trivial) (fun _ => er_call2 (er_parts T.k_Field.c (T.k_Field.no "parts" (by decide)) (er_var rfl h0)) (er_varI rfl) ok_f.fl.2.2.2.1)) (fun v H1 e1 r => q v H1 e1 r)
  | _ => exact l_ret (α := Bool) K (er_and (b := false) (er_is (er_call3 (er_var rfl h1) (er_f0 (er_parts T.k_Field.c (T.k_Field.no "parts" (by decide)) (er_var rfl h0))) (er_f1 (er_parts T.k_Field.c (T.k_Field.no "parts" (by decide)) (er_var rfl h0))) trivial) rfl) (fun z => (by cases z))) (fun v H1 e1 r => q v H1 e1 r)
def BAD_need_value (ds : List PyData) (c : Str) : Prop := (∃ (a0 : Fld) (a1 : PyData), ds = [(Enc.enc a0), a1] ∧ (isBetween a1 a0.low a0.high = false) ∧ c = ("InvalidValue" : Str))
theorem xk_need_value {P : Program} {w : World} {K : PySem.W.Frag} {mg : Str → Option Value} {base : Heap} (T : Top K mg) {f_is_between : Addr} {fd_is_between : FuncData} (C_is_between : Cal P w K mg base CX0 1 "is_between" ["thing", "low", "high"] (SP_is_between K) f_is_between fd_is_between) {f : Addr} {fd : FuncData} (F : FnP K "need_value" s_need_value f fd) : FnOk P w K mg base (L2N.CX P w) 2 f fd ["field", "value"] (spE K 2 BAD_need_value) := by
  refine okE F sc_need_value rfl (fun H Q E vs ds c hv hd hb hx cdv A outer s hr => ?_)
  · skip
    obtain ⟨a0, a1, rfl, hp, rfl⟩ := hb
    obtain ⟨x0, x1, rfl, h0, h1⟩ := rels2 hd
    have h0 : Rep.rel K H x0 a0 := Dec.dec h0
    refine ⟨_, (pss_one (ps_if (pt_not (pt_val (pe_call C_is_between.ok (hr.mono (by decide)) (by rfl) C_is_between.mg C_is_between.kp C_is_between.bd .nil pass0 (pa_cons (pv 1) (pa_cons (pe_ix ix_tup (pv 0) pe_int (fun _ _ => rfl)) (pa_cons (pe_ix ix_tup (pv 0) pe_int (fun _ _ => rfl)) pa_nil)))))) (pss_one (L2N.ps_raise rfl (L2N.takes_of rfl rfl rfl rfl) (L2N.pmk_own PySem.F.excBase_ValueError T.x_InvalidValue.ex T.x_InvalidValue.g T.x_InvalidValue.k (raises_own T.x_InvalidValue.b T.x_InvalidValue.t) rfl))) pss_nil)), ?_⟩
    show (_ : TS) _ [some x0, some x1] H
    have E0 : Ex H H := Ex.refl H
    have hc : (!(isBetween a1 a0.low a0.high)) = true := by rw [hp]; rfl
    refine l_rif K (et_is (a := (!(isBetween a1 a0.low a0.high))) (ett_not (et_b (er_call3 (er_var rfl h1) (er_f0 (er_var rfl h0)) (er_f1 (er_var rfl h0)) trivial))) hc) (fun H9 e9 => ?_)
    exact hx _ (E0.trans e9)
def BAD_need_row (ds : List PyData) (c : Str) : Prop := (∃ (a0 : PyData), ds = [a0] ∧ (isRow a0 = false ∧ (∀ z, a0 = PyData.str z → z.length ≤ 100000)) ∧ c = ("InvalidRow" : Str))
theorem xk_need_row {P : Program} {w : World} {K : PySem.W.Frag} {mg : Str → Option Value} {base : Heap} (T : Top K mg) {f_is_row : Addr} {fd_is_row : FuncData} (C_is_row : Cal P w K mg base CX0 1 "is_row" ["thing"] (SP_is_row K) f_is_row fd_is_row) {f : Addr} {fd : FuncData} (F : FnP K "need_row" s_need_row f fd) : FnOk P w K mg base (L2N.CX P w) 2 f fd ["row"] (spE K 1 BAD_need_row) := by
  refine okE F sc_need_row rfl (fun H Q E vs ds c hv hd hb hx cdv A outer s hr => ?_)
  · skip
    obtain ⟨a0, rfl, hp, rfl⟩ := hb
    obtain ⟨x0, rfl, h0⟩ := rels1 hd
    refine ⟨_, (pss_one (ps_if (pt_not (pt_val (pe_call C_is_row.ok (hr.mono (by decide)) (by rfl) C_is_row.mg C_is_row.kp C_is_row.bd .nil pass0 (pa_cons (pv 0) pa_nil)))) (pss_one (L2N.ps_raise rfl (L2N.takes_of rfl rfl rfl rfl) (L2N.pmk_own PySem.F.excBase_ValueError T.x_InvalidRow.ex T.x_InvalidRow.g T.x_InvalidRow.k (raises_own T.x_InvalidRow.b T.x_InvalidRow.t) rfl))) pss_nil)), ?_⟩
    show (_ : TS) _ [some x0] H
    have E0 : Ex H H := Ex.refl H
    have hc : (!(isRow a0)) = true := by rw [hp.1]; rfl
    refine l_rif K (et_is (a := (!(isRow a0))) (ett_not (et_b (er_call1 (er_var rfl h0) hp.2))) hc) (fun H9 e9 => ?_)
    exact hx _ (E0.trans e9)
theorem xk_Field___init__ {P : Program} {w : World} {K : PySem.W.Frag} {mg : Str → Option Value} {base : Heap} (T : Top K mg) {f_is_field : Addr} {fd_is_field : FuncData} (C_is_field : Cal P w K mg base CX0 2 "is_field" ["thing"] (SP_is_field K) f_is_field fd_is_field) {f : Addr} {fd : FuncData} (F : FnM K "__init__" "Field.__init__" [.int 1, .int 0, .str "next", .str "stop", .int 10] s_Field___init__ f fd) : FnOk P w K mg base (L2N.CX P w) 3 f fd ["self", "low", "high", "step", "base", "off", "ends", "big"] (spInitE K (He.ga K "Field")) := by
  refine F.ok sc_Field___init__ (fun vs H Q E hs => ?_) (fun cdv A outer s H vs Q E hr hs => ?_)
  · obtain ⟨x, us, rfl, hl, _⟩ := hs
    simp only [List.length_cons, hl, List.length_nil]
  · obtain ⟨x, us, rfl, hl, ds, hd, hb, hx⟩ := hs
    refine ⟨_, (pss_cons (ps_set (i := 8) sc_Field___init__.nd rfl (.inl rfl) (pe_tup (pa_cons (pv 1) (pa_cons (pv 2) (pa_cons (pv 3) (pa_cons (pv 4) (pa_cons (pv 5) (pa_cons (pv 6) (pa_cons (pv 7) pa_nil)))))))))
      (pss_cons (ps_if (pt_not (pt_val (pe_call C_is_field.ok (hr.mono (by decide)) (by rfl) C_is_field.mg C_is_field.kp C_is_field.bd .nil pass0 (pa_cons (pv 8) pa_nil)))) (pss_one (L2N.ps_raise rfl (L2N.takes_of rfl rfl rfl rfl) (L2N.pmk_own PySem.F.excBase_ValueError T.x_InvalidField.ex T.x_InvalidField.g T.x_InvalidField.k (raises_own T.x_InvalidField.b T.x_InvalidField.t) rfl))) pss_nil) pss_never)), ?_⟩
    obtain ⟨v0, us, rfl⟩ : ∃ v w, us = v :: w := by cases us with
      | nil => cases hl
      | cons v w => exact ⟨v, w, rfl⟩
    obtain ⟨v1, us, rfl⟩ : ∃ v w, us = v :: w := by cases us with
      | nil => cases hl
      | cons v w => exact ⟨v, w, rfl⟩
    obtain ⟨v2, us, rfl⟩ : ∃ v w, us = v :: w := by cases us with
      | nil => cases hl
      | cons v w => exact ⟨v, w, rfl⟩
    obtain ⟨v3, us, rfl⟩ : ∃ v w, us = v :: w := by cases us with
      | nil => cases hl
      | cons v w => exact ⟨v, w, rfl⟩
    obtain ⟨v4, us, rfl⟩ : ∃ v w, us = v :: w := by cases us with
      | nil => cases hl
      | cons v w => exact ⟨v, w, rfl⟩
    obtain ⟨v5, us, rfl⟩ : ∃ v w, us = v :: w := by cases us with
      | nil => cases hl
      | cons v w => exact ⟨v, w, rfl⟩
    obtain ⟨v6, us, rfl⟩ : ∃ v w, us = v :: w := by cases us with
      | nil => cases hl
      | cons v w => exact ⟨v, w, rfl⟩
    cases us with
    | cons v w => simp at hl
    | nil =>
    show (_ : TS) _ [some (.ref x), some v0, some v1, some v2, some v3, some v4, some v5, some v6, none] H
    obtain ⟨d0, d1, d2, d3, d4, d5, d6, rfl⟩ := len7 ((rels_len hd).symm.trans hl)
    obtain ⟨_, _, e0, r0, hd⟩ := relsC hd
    obtain ⟨_, _, e1, r1, hd⟩ := relsC hd
    obtain ⟨_, _, e2, r2, hd⟩ := relsC hd
    obtain ⟨_, _, e3, r3, hd⟩ := relsC hd
    obtain ⟨_, _, e4, r4, hd⟩ := relsC hd
    obtain ⟨_, _, e5, r5, hd⟩ := relsC hd
    obtain ⟨_, e6, r6⟩ := rels1 hd
    cases e6
    cases e5
    cases e4
    cases e3
    cases e2
    cases e1
    cases e0
    refine q_set (α := PyData) K (x := .tuple [d0, d1, d2, d3, d4, d5, d6]) (er_tupD (eas_cons (er_var rfl r0) (eas_cons (er_var rfl r1) (eas_cons (er_var rfl r2) (eas_cons (er_var rfl r3) (eas_cons (er_var rfl r4) (eas_cons (er_var rfl r5) (eas_cons (er_var rfl r6) eas_nil))))))) (Nat.le_of_ble_eq_true rfl)) (fun _ => .s (.s (.s (.s (.s (.s (.s (.s .z)))))))) (fun u1 H1 e1 q1 => ?_)
    refine q_rif K (et_is (ett_not (et_b (er_call1 (er_var rfl q1) trivial))) (by rw [hb]; rfl)) (fun H2 e2 => ?_)
    exact hx _ (e1.trans e2)
theorem xk_Field___getitem__ {P : Program} {w : World} {K : PySem.W.Frag} {mg : Str → Option Value} {base : Heap} (T : Top K mg) {f_grid_of : Addr} {fd_grid_of : FuncData} {f_is_between : Addr} {fd_is_between : FuncData} (C_grid_of : Cal P w K mg base CX0 1 "grid_of" ["field"] (SP_grid_of K) f_grid_of fd_grid_of) (C_is_between : Cal P w K mg base CX0 1 "is_between" ["thing", "low", "high"] (SP_is_between K) f_is_between fd_is_between) {f : Addr} {fd : FuncData} (F : FnM K "__getitem__" "Field.__getitem__" [] s_Field___getitem__ f fd) : FnOk P w K mg base (L2N.CX P w) 2 f fd ["self", "index"] (spEM1 K (He.ga K "Field") 1 badIx) := by
  refine F.ok sc_Field___getitem__ (fun vs H Q E hs => ?_) (fun cdv A outer s H vs Q E hr hs => ?_)
  · obtain ⟨v, us, ds, c, rfl, hl, _⟩ := hs
    simp only [List.length_cons, hl, List.length_nil]
  · obtain ⟨v, us, ds, c, rfl, hl, x, r0, hd, hb, hx⟩ := hs
    obtain ⟨ok, d, rfl, hb, rfl⟩ := hb
    obtain ⟨w1, rfl, r1⟩ := rels1 hd
    refine ⟨_, (pss_cons (ps_asg (pe_call C_grid_of.ok (hr.mono (by decide)) (by rfl) C_grid_of.mg C_grid_of.kp C_grid_of.bd .nil pass0 (pa_cons (pe_fld (pv 0) rfl) pa_nil)) (pg_tup rfl (pgs_cons (pg_name (i := 2) sc_Field___getitem__.nd rfl (.inl rfl)) (pgs_cons (pg_name (i := 3) sc_Field___getitem__.nd rfl (.inl rfl)) pgs_nil))))
      (pss_cons (ps_if (pt_not (pt_val (pe_call C_is_between.ok (hr.mono (by decide)) (by rfl) C_is_between.mg C_is_between.kp C_is_between.bd .nil pass0 (pa_cons (pv 1) (pa_cons pe_int (pa_cons (pe_op op_fdivW (pe_op op_sub (pv 3) (pv 2)) (pe_ix ix_tup (pe_fld (pv 0) rfl) pe_int (fun _ _ => rfl))) pa_nil)))))) (pss_one (L2N.ps_raise rfl (L2N.takes_of rfl rfl rfl rfl) (L2N.pmk_own PySem.F.excBase_ValueError T.x_InvalidIndex.ex T.x_InvalidIndex.g T.x_InvalidIndex.k (raises_own T.x_InvalidIndex.b T.x_InvalidIndex.t) rfl))) pss_nil) pss_never)), ?_⟩
    show (_ : TS) _ [some v, some w1, none, none] H
    refine q_unpII K (er_call1 (er_parts T.k_Field.c (T.k_Field.no "parts" (by decide)) (er_var rfl r0)) ok.fl) (fun H1 e1 => ?_)
    have r0 := Rep.mono e1 r0
    have r1 := Rep.mono e1 r1
    refine g_cons (.s (.s .z)) (g_cons (.s (.s (.s .z))) (g_nil ?_))
    refine q_rif K (et_is (ett_not (et_b (er_call3 (er_var rfl r1) er_int (er_div (er_sub (er_varI rfl) (er_varI rfl)) (er_f2 (er_parts T.k_Field.c (T.k_Field.no "parts" (by decide)) (er_var rfl r0))) (fv_cdiv ok)) trivial))) (by rw [hb]; rfl)) (fun H2 e2 => ?_)
    exact hx _ (e1.trans e2)
theorem xk_Field___call__ {P : Program} {w : World} {K : PySem.W.Frag} {mg : Str → Option Value} {base : Heap} (T : Top K mg) {f_need_value : Addr} {fd_need_value : FuncData} {f_need_row : Addr} {fd_need_row : FuncData} (C_need_value : Cal P w K mg base CX0 2 "need_value" ["field", "value"] (SP_need_value K) f_need_value fd_need_value) (X_need_value : Cal P w K mg base (L2N.CX P w) 2 "need_value" ["field", "value"] (spE K 2 BAD_need_value) f_need_value fd_need_value) (X_need_row : Cal P w K mg base (L2N.CX P w) 2 "need_row" ["row"] (spE K 1 BAD_need_row) f_need_row fd_need_row) {f : Addr} {fd : FuncData} (F : FnM K "__call__" "Field.__call__" [] s_Field___call__ f fd) : FnOk P w K mg base (L2N.CX P w) 4 f fd ["self", "value", "row"] (spEM1 K (He.ga K "Field") 2 badCall) := by
  refine F.ok sc_Field___call__ (fun vs H Q E hs => ?_) (fun cdv A outer s H vs Q E hr hs => ?_)
  · obtain ⟨v, us, ds, c, rfl, hl, _⟩ := hs
    simp only [List.length_cons, hl, List.length_nil]
  · obtain ⟨v, us, ds, c, rfl, hl, x, r0, hd, hb, hx⟩ := hs
    rcases hb with ⟨d, z, rfl, hb, rfl⟩ | ⟨i, d, rfl, ok, hi, hb, rfl⟩
    · obtain ⟨w1, w2, rfl, r1, r2⟩ := rels2 hd
      refine ⟨_, (pss_cons (ps_expr (pe_call X_need_value.ok (hr.mono (by decide)) (by rfl) X_need_value.mg X_need_value.kp X_need_value.bd .nil (passE (L2N.takes_of rfl rfl rfl rfl)) (pa_cons (pe_fld (pv 0) rfl) (pa_cons (pv 1) pa_nil)))) pss_never), ?_⟩
      show (_ : TS) _ [some v, some w1, some w2] H
      exact q_rx (rx_call (n := 2) (c := ("InvalidValue" : Str)) (bad := BAD_need_value) (ds := [Enc.enc x.f, d]) (eas_cons (er_enc (α := Fld) (er_parts T.k_Field.c (T.k_Field.no "parts" (by decide)) (er_var rfl r0))) (eas_cons (er_var rfl r1) eas_nil)) rfl ⟨_, _, rfl, hb, rfl⟩) (hx.ex (Ex.refl H))
    · obtain ⟨w1, w2, rfl, r1, r2⟩ := rels2 hd
      have r1 : Rep.rel K H w1 i := Dec.dec r1
      cases r1
      refine ⟨_, (pss_cons (ps_expr (pe_call C_need_value.ok (hr.mono (by decide)) (by rfl) C_need_value.mg C_need_value.kp C_need_value.bd .nil pass0 (pa_cons (pe_fld (pv 0) rfl) (pa_cons (pv 1) pa_nil))))
      (pss_cons (ps_expr (pe_call X_need_row.ok (hr.mono (by decide)) (by rfl) X_need_row.mg X_need_row.kp X_need_row.bd .nil (passE (L2N.takes_of rfl rfl rfl rfl)) (pa_cons (pv 2) pa_nil))) pss_never)), ?_⟩
      show (_ : TS) _ [some v, some (V.int i), some w2] H
      refine q_drop (α := Unit) K (er_call2 (er_parts T.k_Field.c (T.k_Field.no "parts" (by decide)) (er_var rfl r0)) (er_varI rfl) hi) (fun H1 e1 => ?_)
      have r2 := Rep.mono e1 r2
      exact q_rx (rx_call (n := 1) (c := ("InvalidRow" : Str)) (bad := BAD_need_row) (ds := [d]) (eas_cons (er_var rfl r2) eas_nil) rfl ⟨_, rfl, hb, rfl⟩) (hx.ex e1)

theorem sc_L_error : FnScope ["_law_call", "e", "_law_some", "_law_word", "_law_there"] ["_law_call"] (defScope s_L_error) := ⟨rfl, rfl, rfl, by decide +kernel, rfl, by decide +kernel, by decide +kernel⟩
def NM_L_error (o : Out) : Str := match o with
  | .ret => ""
  | o => joinS (((([("field" : Str), "value", "row", "index"] : List Str).zip [isO o "InvalidField", isO o "InvalidValue", isO o "InvalidRow", isO o "InvalidIndex"]).filter fun it => it.2).map fun it => it.1)
theorem gn_L_error {P : Program} {w : World} {K : PySem.W.Frag} {mg : Str → Option Value} {base : Heap} {B : Around} {stk : List Env} {k : Nat} {g : Addr} (T : Top K mg) : GivesN P w K mg base B stk k "_law_error" "_law_call" ["_law_call", "e", "_law_some", "_law_word", "_law_there"] (defScope s_L_error) g (defBody s_L_error) (NameT K errCs NM_L_error) := by
  intro cdg f okH s H Q tl act hk hr told
  obtain ⟨o, says, hok, q0⟩ := told
  refine ⟨_, (pss_cons (L2N.ps_try_as (i := 1) (tb := fun W => tDrop (fun τ HZ Q => τ[0]? = some (some (.ref f)) ∧ okH HZ ∧ tl (WE W τ) HZ Q)) (Wout := fun _ _ _ _ => False) rfl rfl sc_L_error.nd rfl rfl ⟨rfl, by decide, .inl T.E.gS⟩ takes0N (fun W pn xe tk _ => pss_one (ps_expr (act W pn xe _ _ tk))) (fun a oe cls d pn hz hf => (pss_cons (ps_set (i := 2) sc_L_error.nd rfl (.inl rfl) (pe_lst (pa_cons (pe_callB (call_isG hz.zc hf) (by rfl) T.b_isinstance (by decide +kernel) (pa_cons (pv 1) (pa_cons (pe_glob (v := .ref (He.ga K "InvalidField")) (by rfl) (T.E.e "InvalidField" (by decide)).g rfl) pa_nil))) (pa_cons (pe_callB (call_isG hz.zc hf) (by rfl) T.b_isinstance (by decide +kernel) (pa_cons (pv 1) (pa_cons (pe_glob (v := .ref (He.ga K "InvalidValue")) (by rfl) (T.E.e "InvalidValue" (by decide)).g rfl) pa_nil))) (pa_cons (pe_callB (call_isG hz.zc hf) (by rfl) T.b_isinstance (by decide +kernel) (pa_cons (pv 1) (pa_cons (pe_glob (v := .ref (He.ga K "InvalidRow")) (by rfl) (T.E.e "InvalidRow" (by decide)).g rfl) pa_nil))) pa_nil)))))
      (pss_close 2 (pss_cons (ps_expr (pe_app (n := 2) (pv 2) (pa_cons (pe_callB (call_isG hz.zc hf) (by rfl) T.b_isinstance (by decide +kernel) (pa_cons (pv 1) (pa_cons (pe_glob (v := .ref (He.ga K "InvalidIndex")) (by rfl) (T.E.e "InvalidIndex" (by decide)).g rfl) pa_nil))) pa_nil)))
      (pss_thaw 2 (pss_one (ps_ret (show PE _ _ (tM1 (rJoinQ K) _ _) from pe_join pe_str (pe_lcX (own := [("_law_word", 3), ("_law_there", 4)]) (g := gTup K 2 (gCons (gName 3) (gCons (gName 4) gNil)))  (x1 := a) (o1 := oe) rfl (List.mem_cons_self ..) (ctx_of hz hf) sc_L_error.nd (show PIX _ _ _ _ (iZipE K _) from pi_zipX (by rfl) T.b_zip (pa_cons (pe_lst (pa_cons pe_str (pa_cons pe_str (pa_cons pe_str (pa_cons pe_str pa_nil))))) (pa_cons (pv 2) pa_nil))) (blkOk_by (own := [("_law_word", 3), ("_law_there", 4)]) (N := ["_law_call", "e", "_law_some", "_law_word", "_law_there"]) (sc := defScope s_L_error) (by decide +kernel)) (fun _ _ _ _ _ => (pg_tupX (pgs_cons (pg_name (i := 3) sc_L_error.nd rfl (.inl rfl)) (pgs_cons (pg_name (i := 4) sc_L_error.nd rfl (.inl rfl)) pgs_nil)))) (fun _ _ _ _ _ => (pts_one (pt_val (pv 4)))) (fun _ _ _ _ _ => (pv 3)))))))))))) (pss_one (ps_ret pe_str))), ?_⟩
  refine try_name (K := K) (cs := errCs) (o := o) rfl hk says hok T.E rfl (fun e0 H2 e2 => ?_) (fun a cls d H1 E1 hh ha => ?_)
  · subst e0
    exact q0 _ e2
  · have q : ∀ v H2, Ex H1 H2 → Rep.rel K H2 v (NM_L_error o) → Q v H2 := fun v H2 e r => by
      have r : v = V.str (NM_L_error o) := r
      rw [r]
      exact q0 H2 (E1.trans e)
    show (_ : TS) _ [some (V.ref f), some (V.ref a), none, none, none] H1
    clear E1
    revert hh ha q
    generalize H1 = H
    intro hh ha q
    have E0 : Ex H H := Ex.refl H
    refine q_new (α := Bool) K (el_lst (eas_cons (er_isO T.E rfl hh (by decide)) (eas_cons (er_isO T.E rfl hh (by decide)) (eas_cons (er_isO T.E rfl hh (by decide)) eas_nil))) (Nat.le_of_ble_eq_true rfl)) (fun _ => (.s (.s .z))) (fun _ => rfl) (fun l_some_ ws1 H1 z1 e1 mm1 nn1 => ?_)
    have f_some_ := fresh_back E0 z1
    have E0 := E0.trans e1
    have hh := Held.ey e1.y hh
    have m_some_ := mm1
    have n_some_ := nn1
    refine q_app (α := Bool) K rfl m_some_ n_some_ (er_isO T.E rfl hh (by decide)) (Nat.le_of_ble_eq_true rfl) (fun ws2 H2 o2 mm2 nn2 => ?_)
    have y2 := o2.y m_some_
    have hh := Held.ey y2 hh
    have E0 := o2.ex f_some_ E0
    have m_some_ := mm2
    have n_some_ := nn2
    refine q_thaw K rfl m_some_ n_some_ (fun H3 o3 r_3 => ?_)
    have mm3 := m_some_
    have nn3 := n_some_
    have y3 := o3.y m_some_
    have hh := Held.ey y3 hh
    have E0 := o3.ex f_some_ E0
    refine l_ret (α := Str) K (er_joinS (er_lc (fun it : (Str × Bool) => it.2) (fun it : (Str × Bool) => it.1) (wk_zipE (er_lst (eas_cons er_str (eas_cons er_str (eas_cons er_str (eas_cons er_str eas_nil)))) (Nat.le_of_ble_eq_true rfl)) (er_var rfl r_3) rfl) (Nat.le_of_ble_eq_true rfl) (fun it w5 H5 hx5 e5 r5 Q5 q5 => g2_ok (s0 := [some (V.ref f), some (V.ref a), some (V.ref l_some_), none, none]) (s1 := fun w5a w5b => [some (V.ref f), some (V.ref a), some (V.ref l_some_), some w5a, none]) (s2 := fun w5a w5b => [some (V.ref f), some (V.ref a), some (V.ref l_some_), some w5a, some w5b]) r5 rfl (fun _ _ => (.s (.s (.s .z)))) (fun _ _ => (.s (.s (.s (.s .z))))) (fun _ _ => rfl) (fun w5a w5b r5a r5b hw => q5 _ H5 (Ex.refl _) hw (et_b (er_var rfl r5b)) (fun hf => (er_var rfl r5a))))) (Nat.le_trans (zipF_sum _ _ _) (by decide +kernel))) (fun v4 H4 e4 r4 => q v4 H4 (E0.trans e4) ?_)
    refine (congrArg (Rep.rel K H4 v4) (?_ : ((joinS (((([("field" : Str), ("value" : Str), ("row" : Str), ("index" : Str)] : List Str).zip (([(isO o "InvalidField"), (isO o "InvalidValue"), (isO o "InvalidRow")] : List Bool) ++ [(isO o "InvalidIndex")])).filter fun it => it.2).map fun it => it.1)) : Str) = _)).mp r4
    cases o with
    | ret => exact hh.elim
    | own c => rfl
    | many n => rfl
theorem sc_law : FnScope ["_law_script", "_law_k", "_law_turn", "_law_field_here", "_law_near_here", "_law_row_here", "_law_some", "_law_plain_so", "_law_wide", "_law_bad", "_law_odd", "_law_one", "_law_source_here", "_law_value_here", "_law_index"] ["_law_script"] (defScope s_law) := ⟨rfl, rfl, rfl, by decide +kernel, rfl, by decide +kernel, by decide +kernel⟩
theorem ok_law {P : Program} {w : World} {K : PySem.W.Frag} {mg : Str → Option Value} {base : Heap} (T : Top K mg) {P0 : Addr} {Ts : List (Addr × Str)} (B : LamX.TabB base mg (He.codeOf K ("law", none)) P0) (hin : (P0, ("law.<locals>.<lambda>" : Str)) ∈ Ts) (huq : ∀ p ∈ Ts, p.1 = P0 → p.2 = ("law.<locals>.<lambda>" : Str)) {f_L_source : Addr} {fd_L_source : FuncData} (C_L_source : Cal P w K mg base CX0 1 "_law_source" ["_law_script", "_law_index"] (SP_L_source K) f_L_source fd_L_source) {f_L_field : Addr} {fd_L_field : FuncData} (C_L_field : Cal P w K mg base CX0 3 "_law_field" ["_law_source_here", "_law_wide"] (SP_L_field K) f_L_field fd_L_field) {f_L_near : Addr} {fd_L_near : FuncData} (C_L_near : Cal P w K mg base CX0 3 "_law_near" ["_law_source_here", "_law_field_here"] (SP_L_near K) f_L_near fd_L_near) {f_L_value : Addr} {fd_L_value : FuncData} (C_L_value : Cal P w K mg base CX0 3 "_law_value" ["_law_source_here", "_law_field_here"] (SP_L_value K) f_L_value fd_L_value) {f_L_row : Addr} {fd_L_row : FuncData} (C_L_row : Cal P w K mg base CX0 3 "_law_row" ["_law_source_here", "_law_most"] (SP_L_row K) f_L_row fd_L_row) {f_L_made : Addr} {fd_L_made : FuncData} (C_L_made : Cal P w K mg base CX0 7 "_law_made" ["_law_field_here"] (SP_L_made K) f_L_made fd_L_made) {f_L_steps : Addr} {fd_L_steps : FuncData} (C_L_steps : Cal P w K mg base CX0 1 "_law_steps" ["_law_field_here"] (SP_L_steps K) f_L_steps fd_L_steps) {fd_Field_source : FuncData} (C_Field_source : CalPr P w K mg base 1 "Field" "source" ["self"] (SP_Field_source K) fd_Field_source) {fd_Field___eq__ : FuncData} (C_Field___eq__ : CalM P w K mg base CX0 4 "Field" "__eq__" ["self", "other"] (SP_Field___eq__ K) fd_Field___eq__) {f_alike : Addr} {fd_alike : FuncData} (C_alike : Cal P w K mg base CX0 5 "alike" ["one", "other"] (SP_alike K) f_alike fd_alike) {fd_Field___eq__t : FuncData} (C_Field___eq__t : CalM P w K mg base CX0 4 "Field" "__eq__" ["self", "other"] (SP_Field___eq__t K) fd_Field___eq__t) {fd_Field___call__ : FuncData} (C_Field___call__ : CalM P w K mg base CX0 4 "Field" "__call__" ["self", "value", "row"] (SP_Field___call__ K) fd_Field___call__) {f_L_pressed : Addr} {fd_L_pressed : FuncData} (C_L_pressed : Cal P w K mg base CX0 3 "_law_pressed" ["_law_field_here", "_law_value_here", "_law_row_here"] (SP_L_pressed K) f_L_pressed fd_L_pressed) {fd_Field___len__ : FuncData} (C_Field___len__ : CalM P w K mg base CX0 2 "Field" "__len__" ["self"] (SP_Field___len__ K) fd_Field___len__) {fd_Field___getitem__ : FuncData} (C_Field___getitem__ : CalM P w K mg base CX0 2 "Field" "__getitem__" ["self", "index"] (SP_Field___getitem__ K) fd_Field___getitem__) {fd_Field___contains__ : FuncData} (C_Field___contains__ : CalM P w K mg base CX0 2 "Field" "__contains__" ["self", "thing"] (SP_Field___contains__ K) fd_Field___contains__) {f_L_choice : Addr} {fd_L_choice : FuncData} (C_L_choice : Cal P w K mg base CX0 2 "_law_choice" ["_law_source_here", "_law_items"] (SP_L_choice K) f_L_choice fd_L_choice) {fd_Field___init__ : FuncData} (C_Field___init__ : CalM P w K mg base CX0 3 "Field" "__init__" ["self", "low", "high", "step", "base", "off", "ends", "big"] (SP_Field___init__ K) fd_Field___init__) (X_Field___init__ : CalM P w K mg base (L2N.CX P w) 3 "Field" "__init__" ["self", "low", "high", "step", "base", "off", "ends", "big"] (spInitE K (He.ga K "Field")) fd_Field___init__) (X_Field___getitem__ : CalM P w K mg base (L2N.CX P w) 2 "Field" "__getitem__" ["self", "index"] (spEM1 K (He.ga K "Field") 1 badIx) fd_Field___getitem__) (X_Field___call__ : CalM P w K mg base (L2N.CX P w) 4 "Field" "__call__" ["self", "value", "row"] (spEM1 K (He.ga K "Field") 2 badCall) fd_Field___call__) (D2 : BndD K fd_Field___init__ ["self", "low", "high", "step", "base", "off", "ends", "big"] [.int 1, .int 0, .str "next", .str "stop", .int 10]) (D3 : BndD K fd_Field___init__ ["self", "low", "high", "step", "base", "off", "ends", "big"] [.int 0, .str "next", .str "stop", .int 10]) (D5 : BndD K fd_Field___init__ ["self", "low", "high", "step", "base", "off", "ends", "big"] [.str "stop", .int 10]) {gg : Addr} {fdN : FuncData} (FN : FnP K "_law_error" s_L_error gg fdN) (gN : mg "_law_error" = some (.ref gg)) (bN : L2.Binds K fdN ["_law_call"] []) {fd : FuncData} (F : FnP K "law" s_law (He.fAd K ("law", none)) fd) : FnOk P w K mg base C8.CX0 9 (He.fAd K ("law", none)) fd ["_law_script"] (SP_lawT K Ts) := by
  refine bd_law F sc_law rfl (fun A outer s H Q E a ns hs hlen hT q hr => ?_)
  obtain ⟨ds2, vd2, bd2⟩ := D2
  obtain ⟨ds3, vd3, bd3⟩ := D3
  obtain ⟨ds5, vd5, bd5⟩ := D5
  have O_Field___init__ := CalM.or C_Field___init__ X_Field___init__
  have O_Field___getitem__ := CalM.or C_Field___getitem__ X_Field___getitem__
  have O_Field___call__ := CalM.or C_Field___call__ X_Field___call__
  obtain ⟨tl0, bl0, rl0⟩ : ∃ t : XK → TE, (∀ (E2 : XK) (A2 : Around) (outer2 : List Env) (s2 : Shared) (H2 : Hp) (f2 d2 : Addr), Room 6 (A2.deeper (LamX.lamEnv (cxOf C8.CX0 P w K mg base ["_law_script", "_law_k", "_law_turn", "_law_field_here", "_law_near_here", "_law_row_here", "_law_some", "_law_plain_so", "_law_wide", "_law_bad", "_law_odd", "_law_one", "_law_source_here", "_law_value_here", "_law_index"] "law" (defScope s_law) (He.fAd K ("law", none)) (.ref (He.codeOf K ("law", none))) A outer s H E) (lamT (forB (forB (forB (defBody s_law) 0) 1) 6) 0).sc s2.heap.objs.size f2 d2)) → PE (lamN (cxOf C8.CX0 P w K mg base ["_law_script", "_law_k", "_law_turn", "_law_field_here", "_law_near_here", "_law_row_here", "_law_some", "_law_plain_so", "_law_wide", "_law_bad", "_law_odd", "_law_one", "_law_source_here", "_law_value_here", "_law_index"] "law" (defScope s_law) (He.fAd K ("law", none)) (.ref (He.codeOf K ("law", none))) A outer s H E) A2 outer2 s2 H2 E2 (lamT (forB (forB (forB (defBody s_law) 0) 1) 6) 0).sc f2 d2) (lamT (forB (forB (forB (defBody s_law) 0) 1) 6) 0).bd (t E2)) ∧ (∀ (y0 : Option V) (y1 : Option V) (y2 : Option V) (y3 : Option V) (y4 : Option V) (y5 : Option V) (y6 : Option V) (y7 : Option V) (y8 : Option V) (y10 : Option V) (x11 : V) (x9 : V) (one : (FVal (He.ga K "Field"))) (bad : PyData) (τ : L2.St) (H2 : Hp), Rep.rel K H2 x11 one → Rep.rel K H2 x9 bad → FOk one.f → isBetween bad 0 (((gridOf one.f).2 - (gridOf one.f).1) / one.f.step) = false → OutSays K (fun E3 H3 Q3 => t E3 (y0 :: y1 :: y2 :: y3 :: y4 :: y5 :: y6 :: y7 :: y8 :: some x9 :: y10 :: some x11 :: τ) H3 Q3) H2 (.own "InvalidIndex")) := ⟨_, fun E2 A2 outer2 s2 H2 f2 d2 hr2 => (pe_ixO X_Field___getitem__.me.at_ X_Field___getitem__.me.fn X_Field___getitem__.fi X_Field___getitem__.ok (hr2.mono (by decide)) X_Field___getitem__.bd (passE (L2N.takes_of rfl rfl rfl rfl)) (pv 11) (pv 9)), fun y0 y1 y2 y3 y4 y5 y6 y7 y8 y10 x11 x9 one bad τ H2 h_one h_bad hone hbad => rx_out fun E3 => rx_ixO (bad := badIx) (er_var rfl h_one) (er_var rfl h_bad) ⟨hone, bad, rfl, hbad, rfl⟩⟩
  obtain ⟨tl1, bl1, rl1⟩ : ∃ t : XK → TE, (∀ (E2 : XK) (A2 : Around) (outer2 : List Env) (s2 : Shared) (H2 : Hp) (f2 d2 : Addr), Room 6 (A2.deeper (LamX.lamEnv (cxOf C8.CX0 P w K mg base ["_law_script", "_law_k", "_law_turn", "_law_field_here", "_law_near_here", "_law_row_here", "_law_some", "_law_plain_so", "_law_wide", "_law_bad", "_law_odd", "_law_one", "_law_source_here", "_law_value_here", "_law_index"] "law" (defScope s_law) (He.fAd K ("law", none)) (.ref (He.codeOf K ("law", none))) A outer s H E) (lamT (forB (forB (defBody s_law) 0) 1) 8).sc s2.heap.objs.size f2 d2)) → PE (lamN (cxOf C8.CX0 P w K mg base ["_law_script", "_law_k", "_law_turn", "_law_field_here", "_law_near_here", "_law_row_here", "_law_some", "_law_plain_so", "_law_wide", "_law_bad", "_law_odd", "_law_one", "_law_source_here", "_law_value_here", "_law_index"] "law" (defScope s_law) (He.fAd K ("law", none)) (.ref (He.codeOf K ("law", none))) A outer s H E) A2 outer2 s2 H2 E2 (lamT (forB (forB (defBody s_law) 0) 1) 8).sc f2 d2) (lamT (forB (forB (defBody s_law) 0) 1) 8).bd (t E2)) ∧ (∀ (y0 : Option V) (y1 : Option V) (y2 : Option V) (y3 : Option V) (y4 : Option V) (y5 : Option V) (y6 : Option V) (y7 : Option V) (y8 : Option V) (y9 : Option V) (x11 : V) (x10 : V) (one : (FVal (He.ga K "Field"))) (odd : PyData) (τ : L2.St) (H2 : Hp), Rep.rel K H2 x11 one → Rep.rel K H2 x10 odd → isBetween odd one.f.low one.f.high = false → OutSays K (fun E3 H3 Q3 => t E3 (y0 :: y1 :: y2 :: y3 :: y4 :: y5 :: y6 :: y7 :: y8 :: y9 :: some x10 :: some x11 :: τ) H3 Q3) H2 (.own "InvalidValue")) := ⟨_, fun E2 A2 outer2 s2 H2 f2 d2 hr2 => (pe_callI (pv 11) X_Field___call__.me X_Field___call__.fi X_Field___call__.ok (hr2.mono (by decide)) X_Field___call__.bd (passE (L2N.takes_of rfl rfl rfl rfl)) (pa_cons (pv 10) (pa_cons pe_non pa_nil))), fun y0 y1 y2 y3 y4 y5 y6 y7 y8 y9 x11 x10 one odd τ H2 h_one h_odd hbad => rx_out fun E3 => rx_callFV (bad := badCall) (n := 2) (ds := [odd, (Enc.enc (() : Unit))]) (er_var rfl h_one) (eas_cons (er_var rfl h_odd) (eas_cons (er_enc (α := Unit) er_none) eas_nil)) rfl (.inl ⟨odd, _, rfl, hbad, rfl⟩)⟩
  obtain ⟨tl2, bl2, rl2⟩ : ∃ t : XK → TE, (∀ (E2 : XK) (A2 : Around) (outer2 : List Env) (s2 : Shared) (H2 : Hp) (f2 d2 : Addr), Room 6 (A2.deeper (LamX.lamEnv (cxOf C8.CX0 P w K mg base ["_law_script", "_law_k", "_law_turn", "_law_field_here", "_law_near_here", "_law_row_here", "_law_some", "_law_plain_so", "_law_wide", "_law_bad", "_law_odd", "_law_one", "_law_source_here", "_law_value_here", "_law_index"] "law" (defScope s_law) (He.fAd K ("law", none)) (.ref (He.codeOf K ("law", none))) A outer s H E) (lamT (forB (forB (defBody s_law) 0) 1) 10).sc s2.heap.objs.size f2 d2)) → PE (lamN (cxOf C8.CX0 P w K mg base ["_law_script", "_law_k", "_law_turn", "_law_field_here", "_law_near_here", "_law_row_here", "_law_some", "_law_plain_so", "_law_wide", "_law_bad", "_law_odd", "_law_one", "_law_source_here", "_law_value_here", "_law_index"] "law" (defScope s_law) (He.fAd K ("law", none)) (.ref (He.codeOf K ("law", none))) A outer s H E) A2 outer2 s2 H2 E2 (lamT (forB (forB (defBody s_law) 0) 1) 10).sc f2 d2) (lamT (forB (forB (defBody s_law) 0) 1) 10).bd (t E2)) ∧ (∀ (y0 : Option V) (y1 : Option V) (y2 : Option V) (y3 : Option V) (y4 : Option V) (y5 : Option V) (y6 : Option V) (y7 : Option V) (y8 : Option V) (y9 : Option V) (y12 : Option V) (x13 : V) (x11 : V) (x10 : V) (value : Int) (one : (FVal (He.ga K "Field"))) (odd : PyData) (τ : L2.St) (H2 : Hp), Rep.rel K H2 x13 value → Rep.rel K H2 x11 one → Rep.rel K H2 x10 odd → FOk one.f → one.f.low ≤ value ∧ value ≤ one.f.high → isRow odd = false ∧ SZ odd → OutSays K (fun E3 H3 Q3 => t E3 (y0 :: y1 :: y2 :: y3 :: y4 :: y5 :: y6 :: y7 :: y8 :: y9 :: some x10 :: some x11 :: y12 :: some x13 :: τ) H3 Q3) H2 (.own "InvalidRow")) := ⟨_, fun E2 A2 outer2 s2 H2 f2 d2 hr2 => (pe_callI (pv 11) X_Field___call__.me X_Field___call__.fi X_Field___call__.ok (hr2.mono (by decide)) X_Field___call__.bd (passE (L2N.takes_of rfl rfl rfl rfl)) (pa_cons (pv 13) (pa_cons (pv 10) pa_nil))), fun y0 y1 y2 y3 y4 y5 y6 y7 y8 y9 y12 x13 x11 x10 value one odd τ H2 h_value h_one h_odd hone hin hbad => rx_out fun E3 => rx_callFV (bad := badCall) (n := 2) (ds := [(Enc.enc (value : Int)), odd]) (er_var rfl h_one) (eas_cons (er_enc (α := Int) (er_var rfl h_value)) (eas_cons (er_var rfl h_odd) eas_nil)) rfl (.inr ⟨value, odd, rfl, hone, hin, hbad, rfl⟩)⟩
  obtain ⟨tl3, bl3, rl3⟩ : ∃ t : XK → TE, (∀ (E2 : XK) (A2 : Around) (outer2 : List Env) (s2 : Shared) (H2 : Hp) (f2 d2 : Addr), Room 6 (A2.deeper (LamX.lamEnv (cxOf C8.CX0 P w K mg base ["_law_script", "_law_k", "_law_turn", "_law_field_here", "_law_near_here", "_law_row_here", "_law_some", "_law_plain_so", "_law_wide", "_law_bad", "_law_odd", "_law_one", "_law_source_here", "_law_value_here", "_law_index"] "law" (defScope s_law) (He.fAd K ("law", none)) (.ref (He.codeOf K ("law", none))) A outer s H E) (lamT (forB (forB (defBody s_law) 0) 1) 11).sc s2.heap.objs.size f2 d2)) → PE (lamN (cxOf C8.CX0 P w K mg base ["_law_script", "_law_k", "_law_turn", "_law_field_here", "_law_near_here", "_law_row_here", "_law_some", "_law_plain_so", "_law_wide", "_law_bad", "_law_odd", "_law_one", "_law_source_here", "_law_value_here", "_law_index"] "law" (defScope s_law) (He.fAd K ("law", none)) (.ref (He.codeOf K ("law", none))) A outer s H E) A2 outer2 s2 H2 E2 (lamT (forB (forB (defBody s_law) 0) 1) 11).sc f2 d2) (lamT (forB (forB (defBody s_law) 0) 1) 11).bd (t E2)) ∧ (∀ (y0 : Option V) (y1 : Option V) (y2 : Option V) (y3 : Option V) (y4 : Option V) (y5 : Option V) (y6 : Option V) (y7 : Option V) (y8 : Option V) (y9 : Option V) (x10 : V) (odd : PyData) (τ : L2.St) (H2 : Hp), Rep.rel K H2 x10 odd → Odd4 odd → OutSays K (fun E3 H3 Q3 => t E3 (y0 :: y1 :: y2 :: y3 :: y4 :: y5 :: y6 :: y7 :: y8 :: y9 :: some x10 :: τ) H3 Q3) H2 (k21o odd)) := ⟨_, fun E2 A2 outer2 s2 H2 f2 d2 hr2 => (pe_make T.k_Field.mkr O_Field___init__.ok (hr2.mono (by decide)) (by rfl) T.k_Field.g bd3 vd3 (passE (L2N.takes_of rfl rfl rfl rfl)) (pa_cons pe_int (pa_cons pe_int (pa_cons (pv 10) pa_nil)))), fun y0 y1 y2 y3 y4 y5 y6 y7 y8 y9 x10 odd τ H2 h_odd hodd => by
    have hodd0 := hodd
    rcases hodd0 with rfl | rfl | rfl | rfl
    · exact rx_out fun E3 => rx_mkO (dvs := [.int 0, .str "next", .str "stop", .int 10]) (ddv := [.int 0, .str "next", .str "stop", .int 10]) (ean_of (eas_cons (er_enc (α := Int) er_int) (eas_cons (er_enc (α := Int) er_int) (eas_cons (er_var rfl h_odd) eas_nil)))) (fun _ => .cons (.int _) (.cons (.str _) (.cons (.str _) (.cons (.int _) (.nil))))) (fun ds e => by
      subst e
      exact ⟨rfl, k21_f3 hodd (fun z => by cases z)⟩)
    · exact rx_out fun E3 => rx_mkO (dvs := [.int 0, .str "next", .str "stop", .int 10]) (ddv := [.int 0, .str "next", .str "stop", .int 10]) (ean_of (eas_cons (er_enc (α := Int) er_int) (eas_cons (er_enc (α := Int) er_int) (eas_cons (er_var rfl h_odd) eas_nil)))) (fun _ => .cons (.int _) (.cons (.str _) (.cons (.str _) (.cons (.int _) (.nil))))) (fun ds e => by
      subst e
      exact ⟨rfl, k21_f3 hodd (fun z => by cases z)⟩)
    · exact rx_out fun E3 => rx_mkO (dvs := [.int 0, .str "next", .str "stop", .int 10]) (ddv := [.int 0, .str "next", .str "stop", .int 10]) (ean_of (eas_cons (er_enc (α := Int) er_int) (eas_cons (er_enc (α := Int) er_int) (eas_cons (er_var rfl h_odd) eas_nil)))) (fun _ => .cons (.int _) (.cons (.str _) (.cons (.str _) (.cons (.int _) (.nil))))) (fun ds e => by
      subst e
      exact ⟨rfl, k21_f3 hodd (fun z => by cases z)⟩)
    · exact er_out (α := FVal (He.ga K "Field")) (fun E3 => er_mkFVo (f := Fld.mk 0 5 5 0 "next" "stop" 10) (dvs := [.int 0, .str "next", .str "stop", .int 10]) (evs_I (K := K) er_int (evs_I (K := K) er_int (evs_I (K := K) (i := 5) (er_var rfl (Dec.dec h_odd)) evs_nil))) rfl (by constructor <;> decide))⟩
  obtain ⟨tl4, bl4, rl4⟩ : ∃ t : XK → TE, (∀ (E2 : XK) (A2 : Around) (outer2 : List Env) (s2 : Shared) (H2 : Hp) (f2 d2 : Addr), Room 6 (A2.deeper (LamX.lamEnv (cxOf C8.CX0 P w K mg base ["_law_script", "_law_k", "_law_turn", "_law_field_here", "_law_near_here", "_law_row_here", "_law_some", "_law_plain_so", "_law_wide", "_law_bad", "_law_odd", "_law_one", "_law_source_here", "_law_value_here", "_law_index"] "law" (defScope s_law) (He.fAd K ("law", none)) (.ref (He.codeOf K ("law", none))) A outer s H E) (lamT (forB (forB (defBody s_law) 0) 1) 12).sc s2.heap.objs.size f2 d2)) → PE (lamN (cxOf C8.CX0 P w K mg base ["_law_script", "_law_k", "_law_turn", "_law_field_here", "_law_near_here", "_law_row_here", "_law_some", "_law_plain_so", "_law_wide", "_law_bad", "_law_odd", "_law_one", "_law_source_here", "_law_value_here", "_law_index"] "law" (defScope s_law) (He.fAd K ("law", none)) (.ref (He.codeOf K ("law", none))) A outer s H E) A2 outer2 s2 H2 E2 (lamT (forB (forB (defBody s_law) 0) 1) 12).sc f2 d2) (lamT (forB (forB (defBody s_law) 0) 1) 12).bd (t E2)) ∧ (∀ (y0 : Option V) (y1 : Option V) (y2 : Option V) (y3 : Option V) (y4 : Option V) (y5 : Option V) (y6 : Option V) (y7 : Option V) (y8 : Option V) (y9 : Option V) (y10 : Option V) (y11 : Option V) (x12 : V) (src : Src) (τ : L2.St) (H2 : Hp), Rep.rel K H2 x12 src → OutSays K (fun E3 H3 Q3 => t E3 (y0 :: y1 :: y2 :: y3 :: y4 :: y5 :: y6 :: y7 :: y8 :: y9 :: y10 :: y11 :: some x12 :: τ) H3 Q3) H2 (.own "InvalidField")) := ⟨_, fun E2 A2 outer2 s2 H2 f2 d2 hr2 => (pe_make T.k_Field.mkr X_Field___init__.ok (hr2.mono (by decide)) (by rfl) T.k_Field.g bd5 vd5 (passE (L2N.takes_of rfl rfl rfl rfl)) (pa_cons pe_int (pa_cons pe_int (pa_cons pe_int (pa_cons pe_int (pa_cons (pe_call C_L_choice.ok (hr2.mono (by decide)) (by rfl) C_L_choice.mg C_L_choice.kp C_L_choice.bd .nil pass0 (pa_cons (pv 12) (pa_cons (pe_lst (pa_cons pe_non (pa_cons pe_str (pa_cons pe_int pa_nil)))) pa_nil))) pa_nil)))))), fun y0 y1 y2 y3 y4 y5 y6 y7 y8 y9 y10 y11 x12 src τ H2 h_src => rx_out fun E3 => rx_mkE (dvs := [.str "stop", .int 10]) (ddv := [.str "stop", .int 10]) (ean_cons (er_enc (α := Int) er_int) (ean_cons (er_enc (α := Int) er_int) (ean_cons (er_enc (α := Int) er_int) (ean_cons (er_enc (α := Int) er_int) (ean_1 (P := fun z => (z = (Enc.enc (() : Unit))) ∨ (z = (Enc.enc (("nearest" : Str) : Str))) ∨ (z = (Enc.enc (1 : Int)))) (en_pick (P := fun z => (z = (Enc.enc (() : Unit))) ∨ (z = (Enc.enc (("nearest" : Str) : Str))) ∨ (z = (Enc.enc (1 : Int)))) (er_var rfl h_src) (ens_cons (en_imp (P := fun z => z = (Enc.enc (() : Unit))) (en_is (er_enc (α := Unit) er_none)) (fun _ h => .inl h)) (ens_cons (en_imp (P := fun z => z = (Enc.enc (("nearest" : Str) : Str))) (en_is (er_enc (α := Str) er_str)) (fun _ h => .inr (.inl h))) (ens_cons (en_imp (P := fun z => z = (Enc.enc (1 : Int))) (en_is (er_enc (α := Int) er_int)) (fun _ h => .inr (.inr (h)))) ens_nil))) (by decide) (by decide))))))) (fun _ => .cons (.str _) (.cons (.int _) (.nil))) (fun ds hds => by
      obtain ⟨_, ⟨_, ⟨_, ⟨_, ⟨d, hd, rfl⟩, rfl⟩, rfl⟩, rfl⟩, rfl⟩ := hds
      rcases hd with rfl | rfl | rfl
      · exact ⟨rfl, by decide +kernel⟩
      · exact ⟨rfl, by decide +kernel⟩
      · exact ⟨rfl, by decide +kernel⟩)⟩
  obtain ⟨tl5, bl5, rl5⟩ : ∃ t : XK → TE, (∀ (E2 : XK) (A2 : Around) (outer2 : List Env) (s2 : Shared) (H2 : Hp) (f2 d2 : Addr), Room 6 (A2.deeper (LamX.lamEnv (cxOf C8.CX0 P w K mg base ["_law_script", "_law_k", "_law_turn", "_law_field_here", "_law_near_here", "_law_row_here", "_law_some", "_law_plain_so", "_law_wide", "_law_bad", "_law_odd", "_law_one", "_law_source_here", "_law_value_here", "_law_index"] "law" (defScope s_law) (He.fAd K ("law", none)) (.ref (He.codeOf K ("law", none))) A outer s H E) (lamT (defBody s_law) 4).sc s2.heap.objs.size f2 d2)) → PE (lamN (cxOf C8.CX0 P w K mg base ["_law_script", "_law_k", "_law_turn", "_law_field_here", "_law_near_here", "_law_row_here", "_law_some", "_law_plain_so", "_law_wide", "_law_bad", "_law_odd", "_law_one", "_law_source_here", "_law_value_here", "_law_index"] "law" (defScope s_law) (He.fAd K ("law", none)) (.ref (He.codeOf K ("law", none))) A outer s H E) A2 outer2 s2 H2 E2 (lamT (defBody s_law) 4).sc f2 d2) (lamT (defBody s_law) 4).bd (t E2)) ∧ (∀  (τ : L2.St) (H2 : Hp), OutSays K (fun E3 H3 Q3 => t E3 (τ) H3 Q3) H2 (.own "InvalidField")) := ⟨_, fun E2 A2 outer2 s2 H2 f2 d2 hr2 => (pe_make T.k_Field.mkr X_Field___init__.ok (hr2.mono (by decide)) (by rfl) T.k_Field.g bd2 vd2 (passE (L2N.takes_of rfl rfl rfl rfl)) (pa_cons pe_int (pa_cons pe_int pa_nil))), fun  τ H2  => rx_out fun E3 => rx_mkE (dvs := [.int 1, .int 0, .str "next", .str "stop", .int 10]) (ddv := [.int 1, .int 0, .str "next", .str "stop", .int 10]) (ean_of (eas_cons (er_enc (α := Int) er_int) (eas_cons (er_enc (α := Int) er_int) eas_nil))) (fun _ => .cons (.int _) (.cons (.int _) (.cons (.str _) (.cons (.str _) (.cons (.int _) (.nil)))))) (fun ds e => by
      subst e
      exact ⟨rfl, by decide +kernel⟩)⟩
  obtain ⟨Ls, eLs⟩ : ∃ Ls : List LamR, Ls = [⟨(lamT (forB (forB (forB (defBody s_law) 0) 1) 6) 0), tl0⟩, ⟨(lamT (forB (forB (defBody s_law) 0) 1) 8), tl1⟩, ⟨(lamT (forB (forB (defBody s_law) 0) 1) 10), tl2⟩, ⟨(lamT (forB (forB (defBody s_law) 0) 1) 11), tl3⟩, ⟨(lamT (forB (forB (defBody s_law) 0) 1) 12), tl4⟩, ⟨(lamT (defBody s_law) 4), tl5⟩] := ⟨_, rfl⟩
  have lams : ∀ R ∈ Ls, LamX.LamS (cxOf C8.CX0 P w K mg base ["_law_script", "_law_k", "_law_turn", "_law_field_here", "_law_near_here", "_law_row_here", "_law_some", "_law_plain_so", "_law_wide", "_law_bad", "_law_odd", "_law_one", "_law_source_here", "_law_value_here", "_law_index"] "law" (defScope s_law) (He.fAd K ("law", none)) (.ref (He.codeOf K ("law", none))) A outer s H E).env.scope R.L.sc ∧ (∀ (cl : List (Str × Addr)) (pm cv ctv : Value), bindArgs (PySem.W.kla_fn "<lambda>" ("law.<locals>.<lambda>" : Str) R.L.pa R.L.bd R.L.sc cl pm cv ctv) ⟨[], []⟩ = pure []) ∧ ∀ (E2 : XK) (A2 : Around) (outer2 : List Env) (s2 : Shared) (H2 : Hp) (f2 d2 : Addr), Room 6 (A2.deeper (LamX.lamEnv (cxOf C8.CX0 P w K mg base ["_law_script", "_law_k", "_law_turn", "_law_field_here", "_law_near_here", "_law_row_here", "_law_some", "_law_plain_so", "_law_wide", "_law_bad", "_law_odd", "_law_one", "_law_source_here", "_law_value_here", "_law_index"] "law" (defScope s_law) (He.fAd K ("law", none)) (.ref (He.codeOf K ("law", none))) A outer s H E) R.L.sc s2.heap.objs.size f2 d2)) → PE (lamN (cxOf C8.CX0 P w K mg base ["_law_script", "_law_k", "_law_turn", "_law_field_here", "_law_near_here", "_law_row_here", "_law_some", "_law_plain_so", "_law_wide", "_law_bad", "_law_odd", "_law_one", "_law_source_here", "_law_value_here", "_law_index"] "law" (defScope s_law) (He.fAd K ("law", none)) (.ref (He.codeOf K ("law", none))) A outer s H E) A2 outer2 s2 H2 E2 R.L.sc f2 d2) R.L.bd (R.t E2) := by
    rw [eLs]
    exact (List.forall_mem_cons.mpr ⟨⟨LamX.lamS_by (show LamX.lamSB (defScope s_law) (lamT (forB (forB (forB (defBody s_law) 0) 1) 6) 0).sc = true by decide +kernel), fun _ _ _ _ => rfl, bl0⟩, (List.forall_mem_cons.mpr ⟨⟨LamX.lamS_by (show LamX.lamSB (defScope s_law) (lamT (forB (forB (defBody s_law) 0) 1) 8).sc = true by decide +kernel), fun _ _ _ _ => rfl, bl1⟩, (List.forall_mem_cons.mpr ⟨⟨LamX.lamS_by (show LamX.lamSB (defScope s_law) (lamT (forB (forB (defBody s_law) 0) 1) 10).sc = true by decide +kernel), fun _ _ _ _ => rfl, bl2⟩, (List.forall_mem_cons.mpr ⟨⟨LamX.lamS_by (show LamX.lamSB (defScope s_law) (lamT (forB (forB (defBody s_law) 0) 1) 11).sc = true by decide +kernel), fun _ _ _ _ => rfl, bl3⟩, (List.forall_mem_cons.mpr ⟨⟨LamX.lamS_by (show LamX.lamSB (defScope s_law) (lamT (forB (forB (defBody s_law) 0) 1) 12).sc = true by decide +kernel), fun _ _ _ _ => rfl, bl4⟩, (List.forall_mem_cons.mpr ⟨⟨LamX.lamS_by (show LamX.lamSB (defScope s_law) (lamT (defBody s_law) 4).sc = true by decide +kernel), fun _ _ _ _ => rfl, bl5⟩, List.forall_mem_nil _⟩)⟩)⟩)⟩)⟩)⟩)
  refine ⟨_, (pss_cons (ps_for (passes_of rfl) rfl (pi_range1 (by rfl) T.b_range (pa_cons (pe_op op_add pe_int (pe_callB (call_min2 rfl) (by rfl) T.b_min (by decide +kernel) (pa_cons (pe_callB call_len_seq (by rfl) T.b_len (by decide +kernel) (pa_cons (pv 0) pa_nil)) (pa_cons pe_int pa_nil)))) pa_nil)) (pg_name (i := 1) sc_law.nd rfl (.inl rfl)) (pss_cons (ps_set (i := 12) sc_law.nd rfl (.inr rfl) (pe_call C_L_source.ok (hr.mono (by decide)) (by rfl) C_L_source.mg C_L_source.kp C_L_source.bd .nil pass0 (pa_cons (pv 0) (pa_cons (pv 1) pa_nil))))
      (pss_one (ps_for (passes_of rfl) rfl (pi_range1 (by rfl) T.b_range (pa_cons pe_int pa_nil)) (pg_name (i := 2) sc_law.nd rfl (.inl rfl)) (pss_cons (ps_set (i := 3) sc_law.nd rfl (.inl rfl) (pe_call C_L_field.ok (hr.mono (by decide)) (by rfl) C_L_field.mg C_L_field.kp C_L_field.bd .nil pass0 (pa_cons (pv 12) (pa_cons pe_int pa_nil))))
      (pss_cons (ps_asg (pe_tup (pa_cons (pe_call C_L_near.ok (hr.mono (by decide)) (by rfl) C_L_near.mg C_L_near.kp C_L_near.bd .nil pass0 (pa_cons (pv 12) (pa_cons (pv 3) pa_nil))) (pa_cons (pe_call C_L_value.ok (hr.mono (by decide)) (by rfl) C_L_value.mg C_L_value.kp C_L_value.bd .nil pass0 (pa_cons (pv 12) (pa_cons (pv 3) pa_nil))) (pa_cons (pe_call C_L_row.ok (hr.mono (by decide)) (by rfl) C_L_row.mg C_L_row.kp C_L_row.bd .nil pass0 (pa_cons (pv 12) (pa_cons pe_int pa_nil))) pa_nil)))) (pg_tup rfl (pgs_cons (pg_name (i := 4) sc_law.nd rfl (.inl rfl)) (pgs_cons (pg_name (i := 13) sc_law.nd rfl (.inr rfl)) (pgs_cons (pg_name (i := 5) sc_law.nd rfl (.inl rfl)) pgs_nil)))))
      (pss_cons (ps_asg (pe_tup (pa_cons (pe_call C_L_made.ok (hr.mono (by decide)) (by rfl) C_L_made.mg C_L_made.kp C_L_made.bd .nil pass0 (pa_cons (pv 3) pa_nil)) (pa_cons (pe_call C_L_steps.ok (hr.mono (by decide)) (by rfl) C_L_steps.mg C_L_steps.kp C_L_steps.bd .nil pass0 (pa_cons (pv 3) pa_nil)) pa_nil))) (pg_tup rfl (pgs_cons (pg_name (i := 11) sc_law.nd rfl (.inr rfl)) (pgs_cons (pg_name (i := 6) sc_law.nd rfl (.inl rfl)) pgs_nil))))
      (pss_cons (ps_if (PW.pt (pw_or (pt_cmpR (op_neD hr.units) (pe_prop (pv 11) T.k_Field.c C_Field_source.pr C_Field_source.ok (hr.mono (by decide)) C_Field_source.bd .nil pass0 rfl) (pv 3) (nomark _)) (pw_or (pt_cmpR op_ne (pe_cmpR (op_eqO T.i_Field C_Field___eq__.me.at_ C_Field___eq__.me.fn C_Field___eq__.ok (hr.mono (by decide)) C_Field___eq__.bd pass0) (pv 11) (pe_call C_L_made.ok (hr.mono (by decide)) (by rfl) C_L_made.mg C_L_made.kp C_L_made.bd .nil pass0 (pa_cons (pv 4) pa_nil)) (nomark _)) (pe_call C_alike.ok (hr.mono (by decide)) (by rfl) C_alike.mg C_alike.kp C_alike.bd .nil pass0 (pa_cons (pv 3) (pa_cons (pv 4) pa_nil))) (nomark _)) (pw_or1 (pt_cmpR (op_eqO T.i_Field C_Field___eq__t.me.at_ C_Field___eq__t.me.fn C_Field___eq__t.ok (hr.mono (by decide)) C_Field___eq__t.bd pass0) (pv 11) (pv 3) (nomark _)))))) (pss_one (ps_ret pe_bl)) pss_nil)
      (pss_cons (ps_if (pt_cmpR op_ne (pe_callI (pv 11) C_Field___call__.me C_Field___call__.fi C_Field___call__.ok (hr.mono (by decide)) C_Field___call__.bd pass0 (pa_cons (pv 13) (pa_cons (pv 5) pa_nil))) (pe_call C_L_pressed.ok (hr.mono (by decide)) (by rfl) C_L_pressed.mg C_L_pressed.kp C_L_pressed.bd .nil pass0 (pa_cons (pv 3) (pa_cons (pv 13) (pa_cons (pv 5) pa_nil)))) (nomark _)) (pss_one (ps_ret pe_bl)) pss_nil)
      (pss_cons (ps_if (PW.pt (pw_or (pt_cmpR (op_neD hr.units) (pe_lc (own := [("_law_index", 14)]) (g := gName 14) (tt := tYes)  rfl sc_law.nd (pi_range1 (by rfl) T.b_range (pa_cons (pe_callB (call_lenO C_Field___len__.me.at_ C_Field___len__.me.fn C_Field___len__.ok (hr.mono (by decide)) C_Field___len__.bd pass0) (by rfl) T.b_len (by decide +kernel) (pa_cons (pv 11) pa_nil)) pa_nil)) (blkOk_by (own := [("_law_index", 14)]) (N := ["_law_script", "_law_k", "_law_turn", "_law_field_here", "_law_near_here", "_law_row_here", "_law_some", "_law_plain_so", "_law_wide", "_law_bad", "_law_odd", "_law_one", "_law_source_here", "_law_value_here", "_law_index"]) (sc := defScope s_law) (by decide +kernel)) (fun _ _ _ _ _ => (pg_name (i := 14) sc_law.nd rfl (.inl rfl))) (fun _ _ _ _ _ => pts_nil) (fun _ _ _ _ _ => (pe_ixO C_Field___getitem__.me.at_ C_Field___getitem__.me.fn C_Field___getitem__.fi C_Field___getitem__.ok (hr.mono (by decide)) C_Field___getitem__.bd pass0 (pv 11) (pv 14)))) (pv 6) (nomark _)) (pw_or1 (pt_cmpR op_ne (pe_cmpR (op_inO C_Field___contains__.me.at_ C_Field___contains__.me.fn C_Field___contains__.ok (hr.mono (by decide)) C_Field___contains__.bd pass0) (pv 13) (pv 11) rfl) (pe_cmpR op_in_seq (pv 13) (pv 6) rfl) (nomark _))))) (pss_one (ps_ret pe_bl)) pss_nil)
      (pss_cons (ps_for (passes_of rfl) rfl (pi_list (pe_lst (pa_cons (pe_un un_neg pe_int) (pa_cons (pe_callB (call_lenO C_Field___len__.me.at_ C_Field___len__.me.fn C_Field___len__.ok (hr.mono (by decide)) C_Field___len__.bd pass0) (by rfl) T.b_len (by decide +kernel) (pa_cons (pv 11) pa_nil)) (pa_cons pe_non (pa_cons pe_bl (pa_cons pe_str pa_nil))))))) (pg_name (i := 9) sc_law.nd rfl (.inr rfl)) (pss_one (ps_if (PW.pt (pw_or (pt_cmpR op_ne (pe_named (Ls := Ls) (TT := NameT K errCs NM_L_error) FN sc_L_error bN (by rfl) gN hr lams (gn_L_error T) (pe_lam B rfl hin huq (LamX.lamS_by (show LamX.lamSB (defScope s_law) (lamT (forB (forB (forB (defBody s_law) 0) 1) 6) 0).sc = true by decide +kernel))) rfl (.inl rfl)) pe_str (nomark _)) (pw_or1 (pt_cmpR op_isnot_bl (pe_cmpR (op_inO C_Field___contains__.me.at_ C_Field___contains__.me.fn C_Field___contains__.ok (hr.mono (by decide)) C_Field___contains__.bd pass0) (pe_callTy call_strX (by rfl) T.b_str (by decide +kernel) (pa_cons (pv 13) pa_nil)) (pv 11) rfl) pe_bl (nomark _))))) (pss_one (ps_ret pe_bl)) pss_nil)))
      (pss_cons (ps_set (i := 10) sc_law.nd rfl (.inr rfl) (pe_call C_L_choice.ok (hr.mono (by decide)) (by rfl) C_L_choice.mg C_L_choice.kp C_L_choice.bd .nil pass0 (pa_cons (pv 12) (pa_cons (pe_lst (pa_cons pe_non (pa_cons (pe_op op_sub (pe_ix ix_tup (pv 3) pe_int (fun _ _ => rfl)) pe_int) (pa_cons (pe_op op_add (pe_ix ix_tup (pv 3) pe_int (fun _ _ => rfl)) pe_int) (pa_cons pe_bl (pa_cons pe_str pa_nil)))))) pa_nil))))
      (pss_cons (ps_if (PW.pt (pw_or (pt_cmpR op_ne (pe_named (Ls := Ls) (TT := NameT K errCs NM_L_error) FN sc_L_error bN (by rfl) gN hr lams (gn_L_error T) (pe_lam B rfl hin huq (LamX.lamS_by (show LamX.lamSB (defScope s_law) (lamT (forB (forB (defBody s_law) 0) 1) 8).sc = true by decide +kernel))) rfl (.inl rfl)) pe_str (nomark _)) (pw_or1 (pt_cmpR op_isnot_bl (pe_cmpR (op_inO C_Field___contains__.me.at_ C_Field___contains__.me.fn C_Field___contains__.ok (hr.mono (by decide)) C_Field___contains__.bd pass0) (pv 10) (pv 11) rfl) pe_bl (nomark _))))) (pss_one (ps_ret pe_bl)) pss_nil)
      (pss_cons (ps_set (i := 10) sc_law.nd rfl (.inr rfl) (pe_call C_L_choice.ok (hr.mono (by decide)) (by rfl) C_L_choice.mg C_L_choice.kp C_L_choice.bd .nil pass0 (pa_cons (pv 12) (pa_cons (pe_lst (pa_cons pe_non (pa_cons pe_str (pa_cons (pe_op op_repS pe_str pe_int) (pa_cons pe_int pa_nil))))) pa_nil))))
      (pss_cons (ps_if (pt_cmpR op_ne (pe_named (Ls := Ls) (TT := NameT K errCs NM_L_error) FN sc_L_error bN (by rfl) gN hr lams (gn_L_error T) (pe_lam B rfl hin huq (LamX.lamS_by (show LamX.lamSB (defScope s_law) (lamT (forB (forB (defBody s_law) 0) 1) 10).sc = true by decide +kernel))) rfl (.inl rfl)) pe_str (nomark _)) (pss_one (ps_ret pe_bl)) pss_nil)
      (pss_cons (ps_if (pt_cmpR op_ne (pe_named (Ls := Ls) (TT := NameT K errCs NM_L_error) FN sc_L_error bN (by rfl) gN hr lams (gn_L_error T) (pe_lam B rfl hin huq (LamX.lamS_by (show LamX.lamSB (defScope s_law) (lamT (forB (forB (defBody s_law) 0) 1) 11).sc = true by decide +kernel))) rfl (.inl rfl)) (pe_ifExp (pt_cmpR (op_neD hr.units) (pv 10) pe_int (nomark _)) pe_str pe_str) (nomark _)) (pss_one (ps_ret pe_bl)) pss_nil)
      (pss_one (ps_if (pt_cmpR op_ne (pe_named (Ls := Ls) (TT := NameT K errCs NM_L_error) FN sc_L_error bN (by rfl) gN hr lams (gn_L_error T) (pe_lam B rfl hin huq (LamX.lamS_by (show LamX.lamSB (defScope s_law) (lamT (forB (forB (defBody s_law) 0) 1) 12).sc = true by decide +kernel))) rfl (.inl rfl)) pe_str (nomark _)) (pss_one (ps_ret pe_bl)) pss_nil))))))))))))))))))
      (pss_cons (ps_par (i := 7) (j := 8) rfl sc_law.nd rfl rfl (by decide) rfl rfl (pa_cons (pe_make T.k_Field.mkr C_Field___init__.ok (hr.mono (by decide)) (by rfl) T.k_Field.g bd2 vd2 pass0 (pa_cons pe_int (pa_cons pe_int pa_nil))) (pa_cons (pe_make T.k_Field.mkr C_Field___init__.ok (hr.mono (by decide)) (by rfl) T.k_Field.g bd3 vd3 pass0 (pa_cons (pe_un un_neg (pe_op op_pow pe_int pe_int)) (pa_cons (pe_op op_pow pe_int pe_int) (pa_cons pe_int pa_nil)))) pa_nil)) (by rfl))
      (pss_cons (ps_if (PW.pt (pw_or (pt_cmpR (op_neD hr.units) (pe_prop (pv 7) T.k_Field.c C_Field_source.pr C_Field_source.ok (hr.mono (by decide)) C_Field_source.bd .nil pass0 rfl) (pe_tup (pa_cons pe_int (pa_cons pe_int (pa_cons pe_int (pa_cons pe_int (pa_cons pe_str (pa_cons pe_str (pa_cons pe_int pa_nil)))))))) (nomark _)) (pw_or (pt_cmpR op_ne (pe_callI (pv 7) C_Field___call__.me C_Field___call__.fi C_Field___call__.ok (hr.mono (by decide)) C_Field___call__.bd pass0 (pa_cons pe_int (pa_cons pe_str pa_nil))) pe_int (nomark _)) (pw_or1 (pt_cmpR op_ne (pe_callB (call_lenO C_Field___len__.me.at_ C_Field___len__.me.fn C_Field___len__.ok (hr.mono (by decide)) C_Field___len__.bd pass0) (by rfl) T.b_len (by decide +kernel) (pa_cons (pe_make T.k_Field.mkr C_Field___init__.ok (hr.mono (by decide)) (by rfl) T.k_Field.g bd3 vd3 pass0 (pa_cons pe_int (pa_cons (pe_op op_pow pe_int pe_int) (pa_cons pe_int pa_nil)))) pa_nil)) pe_int (nomark _)))))) (pss_one (ps_ret pe_bl)) pss_nil)
      (pss_cons (ps_if (PW.pt (pw_or (pt_cmpR op_ne (pe_ixO C_Field___getitem__.me.at_ C_Field___getitem__.me.fn C_Field___getitem__.fi C_Field___getitem__.ok (hr.mono (by decide)) C_Field___getitem__.bd pass0 (pv 8) (pe_op op_pow pe_int pe_int)) (pe_op op_pow pe_int pe_int) (nomark _)) (pw_or (pt_cmpR (op_eqO T.i_Field C_Field___eq__.me.at_ C_Field___eq__.me.fn C_Field___eq__.ok (hr.mono (by decide)) C_Field___eq__.bd pass0) (pv 7) (pe_make T.k_Field.mkr C_Field___init__.ok (hr.mono (by decide)) (by rfl) T.k_Field.g bd2 vd2 pass0 (pa_cons pe_int (pa_cons pe_int pa_nil))) (nomark _)) (pw_or1 (pt_not (pt_cmpR (op_eqO T.i_Field C_Field___eq__.me.at_ C_Field___eq__.me.fn C_Field___eq__.ok (hr.mono (by decide)) C_Field___eq__.bd pass0) (pv 7) (pe_make T.k_Field.mkr C_Field___init__.ok (hr.mono (by decide)) (by rfl) T.k_Field.g bd5 vd5 pass0 (pa_cons pe_int (pa_cons pe_int (pa_cons pe_int (pa_cons pe_int (pa_cons pe_str pa_nil)))))) (nomark _))))))) (pss_one (ps_ret pe_bl)) pss_nil)
      (pss_one (ps_ret (pe_and (pe_cmpR op_eq (pe_named (Ls := Ls) (TT := NameT K errCs NM_L_error) FN sc_L_error bN (by rfl) gN hr lams (gn_L_error T) (pe_lam B rfl hin huq (LamX.lamS_by (show LamX.lamSB (defScope s_law) (lamT (defBody s_law) 4).sc = true by decide +kernel))) rfl (.inl rfl)) pe_str (nomark _)) (pe_and (pe_cmpR op_is_bl (pe_cmpR (op_inO C_Field___contains__.me.at_ C_Field___contains__.me.fn C_Field___contains__.ok (hr.mono (by decide)) C_Field___contains__.bd pass0) pe_int (pv 7) rfl) pe_bl (nomark _)) (pe_one (pe_cmpR op_is_bl (pe_cmpR (op_inO C_Field___contains__.me.at_ C_Field___contains__.me.fn C_Field___contains__.ok (hr.mono (by decide)) C_Field___contains__.bd pass0) pe_int (pv 7) rfl) pe_bl (nomark _))))))))))), ?_⟩
  show (_ : TS) _ [some (V.ref a), none, none, none, none, none, none, none, none, none, none, none, none, none, none] H
  have mk : ∀ s : Str, rowOkB s = true → rowOk s := fun s h => rowOkB_ok h
  refine q_for K (α := Int) (xs := (rng 0 ((1 + (min (ns.length : Int) 8)) : Int).toNat)) (wk_rng1 (er_add er_int (er_min2 (er_lenScriptL rfl hs) er_int)) ⟨by first | omega | walk_at "sd", by first | omega | walk_at "sd"⟩) (fun pre1 σ' H' => ∃ o1_1 o1_2 o1_3 o1_4 o1_5 o1_6 o1_9 o1_10 o1_11 o1_12 o1_13, σ' = [some (V.ref a), o1_1, o1_2, o1_3, o1_4, o1_5, o1_6, none, none, o1_9, o1_10, o1_11, o1_12, o1_13, none] ∧ Ey H H' ∧ LamX.Tabs Ts H') (fun H1 e1 => ⟨_, _, _, _, _, _, _, _, _, _, _, rfl, e1.y, hT.ext e1⟩) (fun L1 pre1 y1 post1 v1 σ' A1 B1 b1 hx1 p1 pp1 c1 r1 => ?_) (fun σ' Z1 z1 pp1 => ?_)
  · obtain ⟨o1_1, o1_2, o1_3, o1_4, o1_5, o1_6, o1_9, o1_10, o1_11, o1_12, o1_13, rfl, q1, hT⟩ := pp1
    have hm1 : y1 ∈ (rng 0 ((1 + (min (ns.length : Int) 8)) : Int).toNat) := by
      rw [hx1]
      exact List.mem_append_right _ (List.mem_cons_self ..)
    have hr1 := rng_mem.mp hm1
    have t1 := p1.trans c1.y
    have g1 := q1.trans c1.y
    have hs := eyL g1 hs
    have hT := hT.ext c1
    cases r1
    refine g_name1 (.s .z) ?_
    refine q_set (α := Src) K (er_sourceL rfl hs (er_varI rfl) (by walk_at "sd") (by walk_at "sd")) (fun _ => (.s (.s (.s (.s (.s (.s (.s (.s (.s (.s (.s (.s .z))))))))))))) (fun v2 H2 e2 rs => ?_)
    have hs := exL e2 hs
    have hT := hT.ext e2
    have g1 := g1.trans e2.y
    have t1 := t1.trans e2.y
    refine for_wk K (α := Int) (xs := (rng 0 (4 : Int).toNat)) (wk_rng1 er_int ⟨by first | omega | walk_at "sd", by first | omega | walk_at "sd"⟩) (fun pre3 σ' H' => ∃ o3_2 o3_3 o3_4 o3_5 o3_6 o3_9 o3_10 o3_11 o3_13, σ' = [some (V.ref a), some (V.int y1), o3_2, o3_3, o3_4, o3_5, o3_6, none, none, o3_9, o3_10, o3_11, some v2, o3_13, none] ∧ Ey H2 H' ∧ LamX.Tabs Ts H') (fun H1 e1 => ⟨_, _, _, _, _, _, _, _, _, rfl, e1.y, hT.ext e1⟩) (fun L3 pre3 y3 post3 v3 σ' A3 B3 b3 hx3 p3 pp3 c3 r3 => ?_) (fun σ' Z3 z3 pp3 => ?_)
    · obtain ⟨o3_2, o3_3, o3_4, o3_5, o3_6, o3_9, o3_10, o3_11, o3_13, rfl, q3, hT⟩ := pp3
      have hm3 : y3 ∈ (rng 0 (4 : Int).toNat) := by
        rw [hx3]
        exact List.mem_append_right _ (List.mem_cons_self ..)
      have hr3 := rng_mem.mp hm3
      have t3 := p3.trans c3.y
      have g3 := q3.trans c3.y
      have rs := Rep.moY g3 rs
      have hs := eyL g3 hs
      have g1 := g1.trans g3
      have t1 := t1.trans g3
      have hT := hT.ext c3
      cases r3
      refine g_name1 (.s (.s .z)) ?_
      refine n_set (α := Fld) K (P := fun z => (FieldPost 60 z)) ?_ (fun _ => (.s (.s (.s .z)))) (fun field v4 H4 p_field e4 r_field => ?_)
      · exact (en_call2 (er_var rfl rs) er_int (by walk_at "sd"))
      have rs := Rep.mono e4 rs
      have hs := exL e4 hs
      have hT := hT.ext e4
      have g1 := g1.trans e4.y
      have t1 := t1.trans e4.y
      have g3 := g3.trans e4.y
      have t3 := t3.trans e4.y
      have ok_field := p_field.ok
      have sp_field := p_field.span
      have st_field := p_field.st
      have s0_field := ok_field.fl.2.2.2.1
      have lo_field := p_field.low0
      have l1_field := p_field.low1
      have hev := every_le ok_field.fl ok_field.on
      refine n_parT3 (α := Fld) (β := Int) (γ := Str) K (P1 := fun z => (NearPost field z)) (P2 := fun z => (field.low ≤ z ∧ z ≤ field.high)) (P3 := fun z => ((z.cps.toList.length : Int) ≤ 8 ∧ ∀ c ∈ z.cps.toList, isKey c)) rfl ?_ (fun H5a e5a => ?_) (fun H5a e5a => ?_) (fun near value row v5a v5b v5c H5 p_near p_value p_row e5 r_near r_value r_row => ?_)
      · exact (en_call2 (er_var rfl rs) (er_var rfl r_field) (by walk_at "sd"))
      · skip
        have rs := Rep.mono e5a rs
        have r_field := Rep.mono e5a r_field
        exact (en_call2 (er_var rfl rs) (er_var rfl r_field) (by walk_at "sd"))
      · skip
        have rs := Rep.mono e5a rs
        have r_field := Rep.mono e5a r_field
        exact (en_call2 (er_var rfl rs) er_int (by walk_at "sd"))
      have rs := Rep.mono e5 rs
      have r_field := Rep.mono e5 r_field
      have hs := exL e5 hs
      have hT := hT.ext e5
      have g1 := g1.trans e5.y
      have t1 := t1.trans e5.y
      have g3 := g3.trans e5.y
      have t3 := t3.trans e5.y
      cases r_value
      cases r_row
      refine (g_cons (.s (.s (.s (.s .z)))) (g_cons (.s (.s (.s (.s (.s (.s (.s (.s (.s (.s (.s (.s (.s .z))))))))))))) (g_cons (.s (.s (.s (.s (.s .z))))) (g_nil ?_))))
      refine n_parT (α := (FVal (He.ga K "Field"))) (β := (List Int)) K (P1 := fun z => z = ((FVal.mk (C := He.ga K "Field") field))) (P2 := fun z => z = (stepsL field)) rfl ?_ (fun H6a e6a => ?_) (fun one some_ v6a v6b H6 p_one p_some_ e6 r_one r_some_ => ?_)
      · exact (en_is (er_call1 (er_var rfl r_field) ok_field))
      · skip
        have rs := Rep.mono e6a rs
        have r_field := Rep.mono e6a r_field
        have r_near := Rep.mono e6a r_near
        exact (en_is (er_call1 (er_var rfl r_field) ⟨ok_field, by omega, by omega⟩))
      have rs := Rep.mono e6 rs
      have r_field := Rep.mono e6 r_field
      have r_near := Rep.mono e6 r_near
      have hs := exL e6 hs
      have hT := hT.ext e6
      have g1 := g1.trans e6.y
      have t1 := t1.trans e6.y
      have g3 := g3.trans e6.y
      have t3 := t3.trans e6.y
      refine (g_cons (.s (.s (.s (.s (.s (.s (.s (.s (.s (.s (.s .z))))))))))) (g_cons (.s (.s (.s (.s (.s (.s .z)))))) (g_nil ?_)))
      replace p_one := p_one.symm
      subst p_one
      replace p_some_ := p_some_.symm
      subst p_some_
      -- check 1: one.source != field_here or (one == made(near_here)) != alike(field_here, near_here) or one == field_here
      have ck1 : ((!decide (((FVal.mk (C := He.ga K "Field") field)).f = field)) || ((!decide ((eqFV ((FVal.mk (C := He.ga K "Field") field)).f ((FVal.mk (C := He.ga K "Field") near)).f) = ((partOf field near).isNone))) || (false))) = false := by
        show ((!decide (field = field)) || ((!decide (eqFV field near = (partOf field near).isNone)) || false)) = false
        rw [decide_eq_true rfl, Bool.not_true, Bool.false_or, Bool.or_false]
        exact k21_c1 p_near.low p_near.high rfl
      refine q_no K (et_is (a := ((!decide (((FVal.mk (C := He.ga K "Field") field)).f = field)) || ((!decide ((eqFV ((FVal.mk (C := He.ga K "Field") field)).f ((FVal.mk (C := He.ga K "Field") near)).f) = ((partOf field near).isNone))) || (false)))) (ett_or (et_t (er_neT (α := Fld) (er_prop (x := ((FVal.mk (C := He.ga K "Field") field))) (er_var rfl r_one) trivial) (er_var rfl r_field) (k21_good ok_field) (k21_good ok_field) (by decide))) (fun hc => (ett_or (et_t (er_neB (er_eqFF (er_var rfl r_one) (er_call1 (er_var rfl r_near) p_near.ok) ⟨ok_field, p_near.ok⟩) (er_call2 (er_var rfl r_field) (er_var rfl r_near) ⟨ok_field, p_near.ok, p_near.low, p_near.high⟩))) (fun hc => (et_t (er_eqFT (er_var rfl r_one) (er_var rfl r_field) trivial)))))) ck1) (fun H7 e7 => ?_)
      have rs := Rep.mono e7 rs
      have r_field := Rep.mono e7 r_field
      have r_near := Rep.mono e7 r_near
      have r_one := Rep.mono e7 r_one
      have r_some_ := Rep.mono e7 r_some_
      have hs := exL e7 hs
      have hT := hT.ext e7
      have g1 := g1.trans e7.y
      have t1 := t1.trans e7.y
      have g3 := g3.trans e7.y
      have t3 := t3.trans e7.y
      -- check 2: one(value_here, row_here) != pressed(field_here, value_here, row_here)
      have ck2 : (!decide ((pressRow ((FVal.mk (C := He.ga K "Field") field)).f value row.cps.toList) = (pressRow field value row.cps.toList))) = false := by
        show (!decide (pressRow field value row.cps.toList = pressRow field value row.cps.toList)) = false
        rw [decide_eq_true rfl]
        rfl
      refine q_no K (et_is (a := (!decide ((pressRow ((FVal.mk (C := He.ga K "Field") field)).f value row.cps.toList) = (pressRow field value row.cps.toList)))) (et_t (er_neI (er_callFV (er_var rfl r_one) (er_varI rfl) (er_varS rfl) ⟨ok_field, p_value, ⟨by have := p_row.1; omega, p_row.2⟩⟩) (er_call3 (er_var rfl r_field) (er_varI rfl) (er_varS rfl) ⟨ok_field, p_row.2⟩))) ck2) (fun H8 e8 => ?_)
      have rs := Rep.mono e8 rs
      have r_field := Rep.mono e8 r_field
      have r_near := Rep.mono e8 r_near
      have r_one := Rep.mono e8 r_one
      have r_some_ := Rep.mono e8 r_some_
      have hs := exL e8 hs
      have hT := hT.ext e8
      have g1 := g1.trans e8.y
      have t1 := t1.trans e8.y
      have g3 := g3.trans e8.y
      have t3 := t3.trans e8.y
      -- check 3: [one[index] for index in range(len(one))] != some or (value_here in one) != (value_here in some)
      have ck3 : ((!decide (((rng 0 ((everyOf ((FVal.mk (C := He.ga K "Field") field)).f) : Int).toNat).map fun index => ((gridOf ((FVal.mk (C := He.ga K "Field") field)).f).1 + index * ((FVal.mk (C := He.ga K "Field") field)).f.step)) = (stepsL field))) || (!decide ((inFld ((FVal.mk (C := He.ga K "Field") field)).f (Enc.enc (value : Int))) = (decide (value ∈ (stepsL field)))))) = false := by
        show ((!decide (stepsL field = stepsL field)) || (!decide (inFld field (Enc.enc value) = decide (value ∈ stepsL field)))) = false
        rw [k21_in ok_field, decide_eq_true rfl, decide_eq_true rfl]
        rfl
      refine q_no K (et_is (a := ((!decide (((rng 0 ((everyOf ((FVal.mk (C := He.ga K "Field") field)).f) : Int).toNat).map fun index => ((gridOf ((FVal.mk (C := He.ga K "Field") field)).f).1 + index * ((FVal.mk (C := He.ga K "Field") field)).f.step)) = (stepsL field))) || (!decide ((inFld ((FVal.mk (C := He.ga K "Field") field)).f (Enc.enc (value : Int))) = (decide (value ∈ (stepsL field))))))) (ett_or (et_t (er_neT (α := (List Int)) (er_lcY (fun index : Int => ((gridOf ((FVal.mk (C := He.ga K "Field") field)).f).1 + index * ((FVal.mk (C := He.ga K "Field") field)).f.step)) (wk_rng1 (er_lenFV (er_var rfl r_one) ⟨ok_field, by have k := (every_le ok_field.fl ok_field.on).2; show everyOf field ≤ 100000; omega, by show field.step < 1073741824; omega⟩ ⟨by have k := (every_le ok_field.fl ok_field.on).1; show 0 ≤ everyOf field; omega, by have k := (every_le ok_field.fl ok_field.on).2; show everyOf field < 9223372036854775808; omega⟩) ⟨by first | omega | walk_at "sd", by first | omega | walk_at "sd"⟩) (by rw [rng_len]; have := hev; show (everyOf field).toNat ≤ 100000; omega) (fun index w10 H10 hx10 e10 r10 Q10 q10 => gn_ok (s0 := [some (V.ref a), some (V.int y1), some (V.int y3), some v4, some v5a, some (V.str row), some v6b, none, none, o3_9, o3_10, some v6a, some v2, some (V.int value), none]) (s1 := fun w10 => [some (V.ref a), some (V.int y1), some (V.int y3), some v4, some v5a, some (V.str row), some v6b, none, none, o3_9, o3_10, some v6a, some v2, some (V.int value), some w10]) rfl (.s (.s (.s (.s (.s (.s (.s (.s (.s (.s (.s (.s (.s (.s .z)))))))))))))) rfl (fun hw => q10 _ H10 (Ex.refl _) hw (er_ixO (er_var rfl (Rep.mono e10 r_one)) (er_var rfl r10) (k21_ix ok_field (by assumption)))))) (er_var rfl r_some_) (fun _ _ => trivial) (fun _ _ => trivial) (by decide))) (fun hc => (et_t (er_neB (er_inO (er_enc (α := Int) (er_varI rfl)) (er_var rfl r_one) ok_field) (er_inL (er_varI rfl) (er_var rfl r_some_)))))) ck3) (fun H9 e9 => ?_)
      have rs := Rep.mono e9 rs
      have r_field := Rep.mono e9 r_field
      have r_near := Rep.mono e9 r_near
      have r_one := Rep.mono e9 r_one
      have r_some_ := Rep.mono e9 r_some_
      have hs := exL e9 hs
      have hT := hT.ext e9
      have g1 := g1.trans e9.y
      have t1 := t1.trans e9.y
      have g3 := g3.trans e9.y
      have t3 := t3.trans e9.y
      refine q_for K (α := PyData) (xs := ([(Enc.enc ((-1) : Int)), (Enc.enc ((everyOf ((FVal.mk (C := He.ga K "Field") field)).f) : Int)), (Enc.enc (() : Unit)), (Enc.enc (true : Bool)), (Enc.enc (("0" : Str) : Str))] : List PyData)) (wk_list (er_lst (eas_cons (er_enc (α := Int) (er_neg er_int)) (eas_cons (er_enc (α := Int) (er_lenFV (er_var rfl r_one) ⟨ok_field, by have k := (every_le ok_field.fl ok_field.on).2; show everyOf field ≤ 100000; omega, by show field.step < 1073741824; omega⟩ ⟨by have k := (every_le ok_field.fl ok_field.on).1; show 0 ≤ everyOf field; omega, by have k := (every_le ok_field.fl ok_field.on).2; show everyOf field < 9223372036854775808; omega⟩)) (eas_cons (er_enc (α := Unit) er_none) (eas_cons (er_enc (α := Bool) er_bl) (eas_cons (er_enc (α := Str) er_str) eas_nil))))) (Nat.le_of_ble_eq_true rfl))) (fun pre11 σ' H' => ∃ o11_9, σ' = [some (V.ref a), some (V.int y1), some (V.int y3), some v4, some v5a, some (V.str row), some v6b, none, none, o11_9, o3_10, some v6a, some v2, some (V.int value), none] ∧ Ey H9 H' ∧ LamX.Tabs Ts H') (fun H1 e1 => ⟨_, rfl, e1.y, hT.ext e1⟩) (fun L11 pre11 y11 post11 v11 σ' A11 B11 b11 hx11 p11 pp11 c11 r11 => ?_) (fun σ' Z11 z11 pp11 => ?_)
      · obtain ⟨o11_9, rfl, q11, hT⟩ := pp11
        have hm11 : y11 ∈ ([(Enc.enc ((-1) : Int)), (Enc.enc ((everyOf ((FVal.mk (C := He.ga K "Field") field)).f) : Int)), (Enc.enc (() : Unit)), (Enc.enc (true : Bool)), (Enc.enc (("0" : Str) : Str))] : List PyData) := by
          rw [hx11]
          exact List.mem_append_right _ (List.mem_cons_self ..)
        have t11 := p11.trans c11.y
        have g11 := q11.trans c11.y
        have rs := Rep.moY g11 rs
        have r_field := Rep.moY g11 r_field
        have r_near := Rep.moY g11 r_near
        have r_one := Rep.moY g11 r_one
        have r_some_ := Rep.moY g11 r_some_
        have hs := eyL g11 hs
        have g1 := g1.trans g11
        have t1 := t1.trans g11
        have g3 := g3.trans g11
        have t3 := t3.trans g11
        have hT := hT.ext c11
        refine g_name1 (.s (.s (.s (.s (.s (.s (.s (.s (.s .z))))))))) ?_
        have ca12 : (!decide ((NM_L_error (.own "InvalidIndex")) = ("index" : Str))) = false := by decide +kernel
        have cb12 : (!decide ((inFld ((FVal.mk (C := He.ga K "Field") field)).f (Enc.enc ((strI value) : Str))) = false)) = false := by rfl
        refine l_noY K (Ts := Ts) (ety_or (ety_is (ety_neS (w := "index") (ey_nm (K := K) (cs := errCs) (nm := NM_L_error) (o := .own "InvalidIndex") (R := ⟨(lamT (forB (forB (forB (defBody s_law) 0) 1) 6) 0), tl0⟩) hT (by rw [eLs]; exact List.mem_cons_self) (fun H8 e8 => rl0 _ _ _ _ _ _ _ _ _ _ _ _ _ _ _ H8 (Rep.moY e8.y r_one) (Rep.moY e8.y r11) ok_field (k21_bad ok_field hm11)) (show ("InvalidIndex" : Str) ∈ errCs by decide))) ca12) (fun H12Y e12Y t12Y => ety_is (ety_of t12Y (et_t (er_isNB (er_inO (er_enc (α := Str) (er_strI (er_varI rfl) (by have := p_value; omega))) (er_var rfl (Rep.moY e12Y.y r_one)) ok_field) er_bl))) cb12)) (fun H12 y12 t12 => ?_)
        have rs := Rep.moY y12.y rs
        have r_field := Rep.moY y12.y r_field
        have r_near := Rep.moY y12.y r_near
        have r_one := Rep.moY y12.y r_one
        have r_some_ := Rep.moY y12.y r_some_
        have r11 := Rep.moY y12.y r11
        have hs := eyL y12.y hs
        have g1 := g1.trans y12.y
        have t1 := t1.trans y12.y
        have g3 := g3.trans y12.y
        have t3 := t3.trans y12.y
        have g11 := g11.trans y12.y
        have t11 := t11.trans y12.y
        have hT := t12
        exact ⟨t11, _, rfl, g11, hT⟩
      obtain ⟨o11_9, rfl, q11, hT⟩ := pp11
      have rs := Rep.moY q11 rs
      have r_field := Rep.moY q11 r_field
      have r_near := Rep.moY q11 r_near
      have r_one := Rep.moY q11 r_one
      have r_some_ := Rep.moY q11 r_some_
      have hs := eyL q11 hs
      have g1 := g1.trans q11
      have t1 := t1.trans q11
      have g3 := g3.trans q11
      have t3 := t3.trans q11
      refine n_set (α := PyData) K (P := fun z => (z = (Enc.enc (() : Unit))) ∨ (z = (Enc.enc ((field.low - 1) : Int))) ∨ (z = (Enc.enc ((field.high + 1) : Int))) ∨ (z = (Enc.enc (true : Bool))) ∨ (z = (Enc.enc (("5" : Str) : Str)))) ?_ (fun _ => (.s (.s (.s (.s (.s (.s (.s (.s (.s (.s .z))))))))))) (fun odd v13 H13 p_odd e13 r_odd => ?_)
      · exact (en_pick (P := fun z => (z = (Enc.enc (() : Unit))) ∨ (z = (Enc.enc ((field.low - 1) : Int))) ∨ (z = (Enc.enc ((field.high + 1) : Int))) ∨ (z = (Enc.enc (true : Bool))) ∨ (z = (Enc.enc (("5" : Str) : Str)))) (er_var rfl rs) (ens_cons (en_imp (P := fun z => z = (Enc.enc (() : Unit))) (en_is (er_enc (α := Unit) er_none)) (fun _ h => .inl h)) (ens_cons (en_imp (P := fun z => z = (Enc.enc ((field.low - 1) : Int))) (en_is (er_enc (α := Int) (er_sub (er_f0 (er_var rfl r_field)) er_int))) (fun _ h => .inr (.inl h))) (ens_cons (en_imp (P := fun z => z = (Enc.enc ((field.high + 1) : Int))) (en_is (er_enc (α := Int) (er_add (er_f1 (er_var rfl r_field)) er_int))) (fun _ h => .inr (.inr (.inl h)))) (ens_cons (en_imp (P := fun z => z = (Enc.enc (true : Bool))) (en_is (er_enc (α := Bool) er_bl)) (fun _ h => .inr (.inr (.inr (.inl h))))) (ens_cons (en_imp (P := fun z => z = (Enc.enc (("5" : Str) : Str))) (en_is (er_enc (α := Str) er_str)) (fun _ h => .inr (.inr (.inr (.inr (h)))))) ens_nil))))) (by decide) (by decide))
      have rs := Rep.mono e13 rs
      have r_field := Rep.mono e13 r_field
      have r_near := Rep.mono e13 r_near
      have r_one := Rep.mono e13 r_one
      have r_some_ := Rep.mono e13 r_some_
      have hs := exL e13 hs
      have hT := hT.ext e13
      have g1 := g1.trans e13.y
      have t1 := t1.trans e13.y
      have g3 := g3.trans e13.y
      have t3 := t3.trans e13.y
      have ca14 : (!decide ((NM_L_error (.own "InvalidValue")) = ("value" : Str))) = false := by decide +kernel
      have cb14 : (!decide ((inFld ((FVal.mk (C := He.ga K "Field") field)).f odd) = false)) = false := by rw [k21_inD (k24_val p_odd)]; rfl
      refine q_noY K (Ts := Ts) (ety_or (ety_is (ety_neS (w := "value") (ey_nm (K := K) (cs := errCs) (nm := NM_L_error) (o := .own "InvalidValue") (R := ⟨(lamT (forB (forB (defBody s_law) 0) 1) 8), tl1⟩) hT (by rw [eLs]; exact List.mem_cons_of_mem _ (List.mem_cons_self)) (fun H8 e8 => rl1 _ _ _ _ _ _ _ _ _ _ _ _ _ _ _ H8 (Rep.moY e8.y r_one) (Rep.moY e8.y r_odd) (k24_val p_odd)) (show ("InvalidValue" : Str) ∈ errCs by decide))) ca14) (fun H14Y e14Y t14Y => ety_is (ety_of t14Y (et_t (er_isNB (er_inO (er_var rfl (Rep.moY e14Y.y r_odd)) (er_var rfl (Rep.moY e14Y.y r_one)) ok_field) er_bl))) cb14)) (fun H14 y14 t14 => ?_)
      have rs := Rep.moY y14.y rs
      have r_field := Rep.moY y14.y r_field
      have r_near := Rep.moY y14.y r_near
      have r_one := Rep.moY y14.y r_one
      have r_some_ := Rep.moY y14.y r_some_
      have r_odd := Rep.moY y14.y r_odd
      have hs := eyL y14.y hs
      have g1 := g1.trans y14.y
      have t1 := t1.trans y14.y
      have g3 := g3.trans y14.y
      have t3 := t3.trans y14.y
      have hT := t14
      refine n_set (α := PyData) K (P := fun z => (z = (Enc.enc (() : Unit))) ∨ (z = (Enc.enc (("x" : Str) : Str))) ∨ (z = (Enc.enc ((repS ("u" : Str) 41) : Str))) ∨ (z = (Enc.enc (5 : Int)))) ?_ (fun _ => (.s (.s (.s (.s (.s (.s (.s (.s (.s (.s .z))))))))))) (fun odd1 v15 H15 p_odd1 e15 r_odd1 => ?_)
      · exact (en_pick (P := fun z => (z = (Enc.enc (() : Unit))) ∨ (z = (Enc.enc (("x" : Str) : Str))) ∨ (z = (Enc.enc ((repS ("u" : Str) 41) : Str))) ∨ (z = (Enc.enc (5 : Int)))) (er_var rfl rs) (ens_cons (en_imp (P := fun z => z = (Enc.enc (() : Unit))) (en_is (er_enc (α := Unit) er_none)) (fun _ h => .inl h)) (ens_cons (en_imp (P := fun z => z = (Enc.enc (("x" : Str) : Str))) (en_is (er_enc (α := Str) er_str)) (fun _ h => .inr (.inl h))) (ens_cons (en_imp (P := fun z => z = (Enc.enc ((repS ("u" : Str) 41) : Str))) (en_is (er_enc (α := Str) (er_repS er_str er_int (by walk_at "sd") (by walk_at "sd") (by walk_at "sd")))) (fun _ h => .inr (.inr (.inl h)))) (ens_cons (en_imp (P := fun z => z = (Enc.enc (5 : Int))) (en_is (er_enc (α := Int) er_int)) (fun _ h => .inr (.inr (.inr (h))))) ens_nil)))) (by decide) (by decide))
      have rs := Rep.mono e15 rs
      have r_field := Rep.mono e15 r_field
      have r_near := Rep.mono e15 r_near
      have r_one := Rep.mono e15 r_one
      have r_some_ := Rep.mono e15 r_some_
      have r_odd := Rep.mono e15 r_odd
      have hs := exL e15 hs
      have hT := hT.ext e15
      have g1 := g1.trans e15.y
      have t1 := t1.trans e15.y
      have g3 := g3.trans e15.y
      have t3 := t3.trans e15.y
      have ca16 : (!decide ((NM_L_error (.own "InvalidRow")) = ("row" : Str))) = false := by decide +kernel
      refine q_noY K (Ts := Ts) (ety_is (ety_neS (w := "row") (ey_nm (K := K) (cs := errCs) (nm := NM_L_error) (o := .own "InvalidRow") (R := ⟨(lamT (forB (forB (defBody s_law) 0) 1) 10), tl2⟩) hT (by rw [eLs]; exact List.mem_cons_of_mem _ (List.mem_cons_of_mem _ (List.mem_cons_self))) (fun H8 e8 => rl2 _ _ _ _ _ _ _ _ _ _ _ _ _ _ _ _ _ _ H8 rfl (Rep.moY e8.y r_one) (Rep.moY e8.y r_odd1) ok_field p_value (k21_row p_odd1)) (show ("InvalidRow" : Str) ∈ errCs by decide))) ca16) (fun H16 y16 t16 => ?_)
      have rs := Rep.moY y16.y rs
      have r_field := Rep.moY y16.y r_field
      have r_near := Rep.moY y16.y r_near
      have r_one := Rep.moY y16.y r_one
      have r_some_ := Rep.moY y16.y r_some_
      have r_odd := Rep.moY y16.y r_odd
      have r_odd1 := Rep.moY y16.y r_odd1
      have hs := eyL y16.y hs
      have g1 := g1.trans y16.y
      have t1 := t1.trans y16.y
      have g3 := g3.trans y16.y
      have t3 := t3.trans y16.y
      have hT := t16
      have ca17 : (!decide ((NM_L_error (k21o odd1)) = (if (!PyData.eqv odd1 (Enc.enc (5 : Int))) = true then ("field" : Str) else ("" : Str)))) = false := by rcases p_odd1 with rfl | rfl | rfl | rfl <;> decide +kernel
      refine q_noY K (Ts := Ts) (ety_is (ety_neX (w := (if (!PyData.eqv odd1 (Enc.enc (5 : Int))) = true then ("field" : Str) else ("" : Str))) (ey_nm (K := K) (cs := errCs) (nm := NM_L_error) (o := k21o odd1) (R := ⟨(lamT (forB (forB (defBody s_law) 0) 1) 11), tl3⟩) hT (by rw [eLs]; exact List.mem_cons_of_mem _ (List.mem_cons_of_mem _ (List.mem_cons_of_mem _ (List.mem_cons_self)))) (fun H8 e8 => rl3 _ _ _ _ _ _ _ _ _ _ _ _ _ H8 (Rep.moY e8.y r_odd1) p_odd1) (k21_oko p_odd1 (by decide))) (fun H18W e18W t18W => (er_if (et_t (er_neD (er_var rfl (Rep.moY e18W.y r_odd1)) (er_enc (α := Int) er_int) (k21_sh p_odd1) (show SeqAt.shaped (Enc.enc (5 : Int)) = true by decide +kernel))) (fun hc => er_str) (fun hc => er_str)))) ca17) (fun H17 y17 t17 => ?_)
      have rs := Rep.moY y17.y rs
      have r_field := Rep.moY y17.y r_field
      have r_near := Rep.moY y17.y r_near
      have r_one := Rep.moY y17.y r_one
      have r_some_ := Rep.moY y17.y r_some_
      have r_odd := Rep.moY y17.y r_odd
      have r_odd1 := Rep.moY y17.y r_odd1
      have hs := eyL y17.y hs
      have g1 := g1.trans y17.y
      have t1 := t1.trans y17.y
      have g3 := g3.trans y17.y
      have t3 := t3.trans y17.y
      have hT := t17
      have ca19 : (!decide ((NM_L_error (.own "InvalidField")) = ("field" : Str))) = false := by decide +kernel
      refine l_noY K (Ts := Ts) (ety_is (ety_neS (w := "field") (ey_nm (K := K) (cs := errCs) (nm := NM_L_error) (o := .own "InvalidField") (R := ⟨(lamT (forB (forB (defBody s_law) 0) 1) 12), tl4⟩) hT (by rw [eLs]; exact List.mem_cons_of_mem _ (List.mem_cons_of_mem _ (List.mem_cons_of_mem _ (List.mem_cons_of_mem _ (List.mem_cons_self))))) (fun H8 e8 => rl4 _ _ _ _ _ _ _ _ _ _ _ _ _ _ _ H8 (Rep.moY e8.y rs)) (show ("InvalidField" : Str) ∈ errCs by decide))) ca19) (fun H19 y19 t19 => ?_)
      have rs := Rep.moY y19.y rs
      have r_field := Rep.moY y19.y r_field
      have r_near := Rep.moY y19.y r_near
      have r_one := Rep.moY y19.y r_one
      have r_some_ := Rep.moY y19.y r_some_
      have r_odd := Rep.moY y19.y r_odd
      have r_odd1 := Rep.moY y19.y r_odd1
      have hs := eyL y19.y hs
      have g1 := g1.trans y19.y
      have t1 := t1.trans y19.y
      have g3 := g3.trans y19.y
      have t3 := t3.trans y19.y
      have hT := t19
      exact ⟨t3, _, _, _, _, _, _, _, _, _, rfl, g3, hT⟩
    obtain ⟨o3_2, o3_3, o3_4, o3_5, o3_6, o3_9, o3_10, o3_11, o3_13, rfl, q3, hT⟩ := pp3
    have rs := Rep.moY q3 rs
    have hs := eyL q3 hs
    have g1 := g1.trans q3
    have t1 := t1.trans q3
    exact ⟨t1, _, _, _, _, _, _, _, _, _, _, _, rfl, g1, hT⟩
  obtain ⟨o1_1, o1_2, o1_3, o1_4, o1_5, o1_6, o1_9, o1_10, o1_11, o1_12, o1_13, rfl, q1, hT⟩ := pp1
  have hs := eyL q1 hs
  refine n_par (α := (FVal (He.ga K "Field"))) (β := (FVal (He.ga K "Field"))) K (P1 := fun z => z = (FVal.mk (C := He.ga K "Field") (Fld.mk 0 30 1 0 ("next" : Str) ("stop" : Str) 10))) (P2 := fun z => z = (FVal.mk (C := He.ga K "Field") (Fld.mk (-1000000000000) 1000000000000 2 0 ("next" : Str) ("stop" : Str) 10))) ?_ (fun H20a e20a => ?_) (fun _ _ => (.s (.s (.s (.s (.s (.s (.s .z)))))))) (fun _ _ => (.s (.s (.s (.s (.s (.s (.s (.s .z))))))))) (fun plain wide v20a v20b H20 p_plain p_wide e20 r_plain r_wide => ?_)
  · exact (en_is (er_mkFVd (f := (Fld.mk 0 30 1 0 ("next" : Str) ("stop" : Str) 10)) (dvs := [V.int 1, V.int 0, V.str ("next" : Str), V.str ("stop" : Str), V.int 10]) (evs_I (K := K) er_int (evs_I (K := K) er_int evs_nil)) rfl (by constructor <;> decide)))
  · skip
    exact (en_is (er_mkFVd (f := (Fld.mk (-1000000000000) 1000000000000 2 0 ("next" : Str) ("stop" : Str) 10)) (dvs := [V.int 0, V.str ("next" : Str), V.str ("stop" : Str), V.int 10]) (evs_I (K := K) (er_neg (er_powc (k := 1000000000000) ⟨by decide, by decide, by decide⟩ (by decide))) (evs_I (K := K) (er_powc (k := 1000000000000) ⟨by decide, by decide, by decide⟩ (by decide)) (evs_I (K := K) er_int evs_nil))) rfl (by constructor <;> decide)))
  have hs := exL e20 hs
  have hT := hT.ext e20
  replace p_plain := p_plain.symm
  subst p_plain
  replace p_wide := p_wide.symm
  subst p_wide
  -- check 4: plain_so.source != (0, 30, 1, 0, 'next', 'stop', 10) or plain_so(5, 'U') != 15 or len(Field(0, 10 ** 5, 2)) != 50001
  have ck4 : ((!decide ((FVal.mk (C := He.ga K "Field") (Fld.mk 0 30 1 0 ("next" : Str) ("stop" : Str) 10)).f = (Fld.mk 0 30 1 0 ("next" : Str) ("stop" : Str) 10))) || ((!decide ((pressRow (FVal.mk (C := He.ga K "Field") (Fld.mk 0 30 1 0 ("next" : Str) ("stop" : Str) 10)).f 5 ("U" : Str).cps.toList) = 15)) || (!decide ((everyOf (FVal.mk (C := He.ga K "Field") (Fld.mk 0 100000 2 0 ("next" : Str) ("stop" : Str) 10)).f) = 50001)))) = false := by
    exact (show ((!decide ((Fld.mk 0 30 1 0 ("next" : Str) ("stop" : Str) 10) = (Fld.mk 0 30 1 0 ("next" : Str) ("stop" : Str) 10))) || ((!decide ((pressRow (Fld.mk 0 30 1 0 ("next" : Str) ("stop" : Str) 10) 5 ("U" : Str).cps.toList) = 15)) || (!decide ((everyOf (Fld.mk 0 100000 2 0 ("next" : Str) ("stop" : Str) 10)) = 50001)))) = false by decide +kernel)
  refine q_no K (et_is (a := ((!decide ((FVal.mk (C := He.ga K "Field") (Fld.mk 0 30 1 0 ("next" : Str) ("stop" : Str) 10)).f = (Fld.mk 0 30 1 0 ("next" : Str) ("stop" : Str) 10))) || ((!decide ((pressRow (FVal.mk (C := He.ga K "Field") (Fld.mk 0 30 1 0 ("next" : Str) ("stop" : Str) 10)).f 5 ("U" : Str).cps.toList) = 15)) || (!decide ((everyOf (FVal.mk (C := He.ga K "Field") (Fld.mk 0 100000 2 0 ("next" : Str) ("stop" : Str) 10)).f) = 50001))))) (ett_or (et_t (er_neT (α := Fld) (er_prop (x := (FVal.mk (C := He.ga K "Field") (Fld.mk 0 30 1 0 ("next" : Str) ("stop" : Str) 10))) (er_var rfl r_plain) trivial) (er_mkF (f := Fld.mk 0 30 1 0 ("next" : Str) ("stop" : Str) 10) er_int er_int er_int er_int er_str er_str er_int) (k21_good (show FOk (Fld.mk 0 30 1 0 ("next" : Str) ("stop" : Str) 10) by constructor <;> decide)) (k21_good (show FOk (Fld.mk 0 30 1 0 ("next" : Str) ("stop" : Str) 10) by constructor <;> decide)) (by decide))) (fun hc => (ett_or (et_t (er_neI (er_callFV (er_var rfl r_plain) er_int er_str ⟨(show FOk (Fld.mk 0 30 1 0 ("next" : Str) ("stop" : Str) 10) by constructor <;> decide), ⟨(show (0 : Int) ≤ 5 by decide), (show (5 : Int) ≤ 30 by decide)⟩, rowOkB_ok (by decide)⟩) er_int)) (fun hc => (et_t (er_neI (er_lenFV (er_mkFVd (f := (Fld.mk 0 100000 2 0 ("next" : Str) ("stop" : Str) 10)) (dvs := [V.int 0, V.str ("next" : Str), V.str ("stop" : Str), V.int 10]) (evs_I (K := K) er_int (evs_I (K := K) (er_powc (k := 100000) ⟨by decide, by decide, by decide⟩ (by decide)) (evs_I (K := K) er_int evs_nil))) rfl (by constructor <;> decide)) ⟨(show FOk (Fld.mk 0 100000 2 0 "next" "stop" 10) by constructor <;> decide), (show everyOf (Fld.mk 0 100000 2 0 "next" "stop" 10) ≤ 100000 by decide +kernel), (show (2 : Int) < 1073741824 by decide)⟩ ⟨(show 0 ≤ everyOf (Fld.mk 0 100000 2 0 "next" "stop" 10) by decide +kernel), (show everyOf (Fld.mk 0 100000 2 0 "next" "stop" 10) < 9223372036854775808 by decide +kernel)⟩) er_int)))))) ck4) (fun H21 e21 => ?_)
  have r_plain := Rep.mono e21 r_plain
  have r_wide := Rep.mono e21 r_wide
  have hs := exL e21 hs
  have hT := hT.ext e21
  -- check 5: wide[10 ** 12] != 10 ** 12 or plain_so == Field(0, 31) or (not plain_so == Field(0, 30, 1, 7, 'near'))
  have ck5 : ((!decide (((gridOf (FVal.mk (C := He.ga K "Field") (Fld.mk (-1000000000000) 1000000000000 2 0 ("next" : Str) ("stop" : Str) 10)).f).1 + 1000000000000 * (FVal.mk (C := He.ga K "Field") (Fld.mk (-1000000000000) 1000000000000 2 0 ("next" : Str) ("stop" : Str) 10)).f.step) = 1000000000000)) || ((eqFV (FVal.mk (C := He.ga K "Field") (Fld.mk 0 30 1 0 ("next" : Str) ("stop" : Str) 10)).f (FVal.mk (C := He.ga K "Field") (Fld.mk 0 31 1 0 ("next" : Str) ("stop" : Str) 10)).f) || (!(eqFV (FVal.mk (C := He.ga K "Field") (Fld.mk 0 30 1 0 ("next" : Str) ("stop" : Str) 10)).f (FVal.mk (C := He.ga K "Field") (Fld.mk 0 30 1 7 ("near" : Str) ("stop" : Str) 10)).f)))) = false := by
    exact (show ((!decide (((gridOf (Fld.mk (-1000000000000) 1000000000000 2 0 ("next" : Str) ("stop" : Str) 10)).1 + 1000000000000 * (Fld.mk (-1000000000000) 1000000000000 2 0 ("next" : Str) ("stop" : Str) 10).step) = 1000000000000)) || ((eqFV (Fld.mk 0 30 1 0 ("next" : Str) ("stop" : Str) 10) (Fld.mk 0 31 1 0 ("next" : Str) ("stop" : Str) 10)) || (!(eqFV (Fld.mk 0 30 1 0 ("next" : Str) ("stop" : Str) 10) (Fld.mk 0 30 1 7 ("near" : Str) ("stop" : Str) 10))))) = false by decide +kernel)
  refine q_no K (et_is (a := ((!decide (((gridOf (FVal.mk (C := He.ga K "Field") (Fld.mk (-1000000000000) 1000000000000 2 0 ("next" : Str) ("stop" : Str) 10)).f).1 + 1000000000000 * (FVal.mk (C := He.ga K "Field") (Fld.mk (-1000000000000) 1000000000000 2 0 ("next" : Str) ("stop" : Str) 10)).f.step) = 1000000000000)) || ((eqFV (FVal.mk (C := He.ga K "Field") (Fld.mk 0 30 1 0 ("next" : Str) ("stop" : Str) 10)).f (FVal.mk (C := He.ga K "Field") (Fld.mk 0 31 1 0 ("next" : Str) ("stop" : Str) 10)).f) || (!(eqFV (FVal.mk (C := He.ga K "Field") (Fld.mk 0 30 1 0 ("next" : Str) ("stop" : Str) 10)).f (FVal.mk (C := He.ga K "Field") (Fld.mk 0 30 1 7 ("near" : Str) ("stop" : Str) 10)).f))))) (ett_or (et_t (er_neI (er_ixO (er_var rfl r_wide) (er_powc (k := 1000000000000) ⟨by decide, by decide, by decide⟩ (by decide)) ⟨(show FOk (Fld.mk (-1000000000000) 1000000000000 2 0 ("next" : Str) ("stop" : Str) 10) by constructor <;> decide), by decide, (show (1000000000000 : Int) ≤ ((gridOf (Fld.mk (-1000000000000) 1000000000000 2 0 "next" "stop" 10)).2 - (gridOf (Fld.mk (-1000000000000) 1000000000000 2 0 "next" "stop" 10)).1) / 2 by decide +kernel)⟩) (er_powc (k := 1000000000000) ⟨by decide, by decide, by decide⟩ (by decide)))) (fun hc => (ett_or (et_t (er_eqFF (er_var rfl r_plain) (er_mkFVd (f := (Fld.mk 0 31 1 0 ("next" : Str) ("stop" : Str) 10)) (dvs := [V.int 1, V.int 0, V.str ("next" : Str), V.str ("stop" : Str), V.int 10]) (evs_I (K := K) er_int (evs_I (K := K) er_int evs_nil)) rfl (by constructor <;> decide)) ⟨(show FOk (Fld.mk 0 30 1 0 ("next" : Str) ("stop" : Str) 10) by constructor <;> decide), (show FOk (Fld.mk 0 31 1 0 ("next" : Str) ("stop" : Str) 10) by constructor <;> decide)⟩)) (fun hc => (ett_not (et_t (er_eqFF (er_var rfl r_plain) (er_mkFVd (f := (Fld.mk 0 30 1 7 ("near" : Str) ("stop" : Str) 10)) (dvs := [V.str ("stop" : Str), V.int 10]) (evs_I (K := K) er_int (evs_I (K := K) er_int (evs_I (K := K) er_int (evs_I (K := K) er_int (evs_S (K := K) er_str evs_nil))))) rfl (by constructor <;> decide)) ⟨(show FOk (Fld.mk 0 30 1 0 ("next" : Str) ("stop" : Str) 10) by constructor <;> decide), (show FOk (Fld.mk 0 30 1 7 ("near" : Str) ("stop" : Str) 10) by constructor <;> decide)⟩))))))) ck5) (fun H22 e22 => ?_)
  have r_plain := Rep.mono e22 r_plain
  have r_wide := Rep.mono e22 r_wide
  have hs := exL e22 hs
  have hT := hT.ext e22
  have ca23 : (NM_L_error (.own "InvalidField")) = ("field" : Str) := by decide +kernel
  have cb23 : ((decide ((inFld (FVal.mk (C := He.ga K "Field") (Fld.mk 0 30 1 0 ("next" : Str) ("stop" : Str) 10)).f (Enc.enc (30 : Int))) = true)) && (decide ((inFld (FVal.mk (C := He.ga K "Field") (Fld.mk 0 30 1 0 ("next" : Str) ("stop" : Str) 10)).f (Enc.enc (31 : Int))) = false))) = true := (show ((decide ((inFld (Fld.mk 0 30 1 0 ("next" : Str) ("stop" : Str) 10) (Enc.enc (30 : Int))) = true)) && (decide ((inFld (Fld.mk 0 30 1 0 ("next" : Str) ("stop" : Str) 10) (Enc.enc (31 : Int))) = false))) = true by decide +kernel)
  exact l_retY (ey_nm (K := K) (cs := errCs) (nm := NM_L_error) (o := .own "InvalidField") (R := ⟨(lamT (defBody s_law) 4), tl5⟩) hT (by rw [eLs]; exact List.mem_cons_of_mem _ (List.mem_cons_of_mem _ (List.mem_cons_of_mem _ (List.mem_cons_of_mem _ (List.mem_cons_of_mem _ (List.mem_cons_self)))))) (fun H8 e8 => rl5 _ H8) (show ("InvalidField" : Str) ∈ errCs by decide)) ca23 (fun H23Y e23Y t23Y => er_is (er_and (er_isB (er_inO (er_enc (α := Int) er_int) (er_var rfl (Rep.moY e23Y.y r_plain)) (show FOk (Fld.mk 0 30 1 0 ("next" : Str) ("stop" : Str) 10) by constructor <;> decide)) er_bl) (fun hc => (er_isB (er_inO (er_enc (α := Int) er_int) (er_var rfl (Rep.moY e23Y.y r_plain)) (show FOk (Fld.mk 0 30 1 0 ("next" : Str) ("stop" : Str) 10) by constructor <;> decide)) er_bl))) cb23) q

theorem hfacts {P : Program} {w : World} {K : PySem.W.Frag} {h h0 : Heap} {mg : Str → Option Value} {f : Addr} (X : K.In h) (G : h.Ns mainGlobals mg) (hfa0 : mg ("law" : Str) = some (.ref f)) (c : SaysL hfa hfn hts htf hex hio hiv h0 K) :
    ∃ fd : FuncData, (∀ (s : Shared) (v : Value), BindsTo s fd ⟨[v], []⟩ [("_law_script", v)]) ∧ ∀ base : Heap, K.In base → base.Ns mainGlobals mg → (∀ p ∈ htf.map (He.cT K), LamX.TabB base mg p.1 p.2) → FnOk P w K mg base C8.CX0 9 f fd ["_law_script"] (SP_lawT K (tabsL K htf)) := by
  obtain ⟨fd_is_between, F_is_between⟩ := c.d.def_ 0 (d := D_is_between) rfl
  obtain ⟨fd_is_row, F_is_row⟩ := c.d.def_ 1 (d := D_is_row) rfl
  obtain ⟨fd_L_source, F_L_source⟩ := c.d.def_ 2 (d := D_L_source) rfl
  obtain ⟨fd_L_draw, F_L_draw⟩ := c.d.def_ 3 (d := D_L_draw) rfl
  obtain ⟨fd_L_choice, F_L_choice⟩ := c.d.def_ 4 (d := D_L_choice) rfl
  obtain ⟨fd_L_field, F_L_field⟩ := c.d.def_ 5 (d := D_L_field) rfl
  obtain ⟨fd_grid_of, F_grid_of⟩ := c.d.def_ 6 (d := D_grid_of) rfl
  obtain ⟨fd_is_word, F_is_word⟩ := c.d.def_ 7 (d := D_is_word) rfl
  obtain ⟨fd_is_field, F_is_field⟩ := c.d.def_ 8 (d := D_is_field) rfl
  obtain ⟨fd_L_near, F_L_near⟩ := c.d.def_ 9 (d := D_L_near) rfl
  obtain ⟨fd_L_value, F_L_value⟩ := c.d.def_ 10 (d := D_L_value) rfl
  obtain ⟨fd_L_row, F_L_row⟩ := c.d.def_ 11 (d := D_L_row) rfl
  obtain ⟨fd_Field___init__, F_Field___init__⟩ := c.d.def_ 12 (d := D_Field___init__) rfl
  obtain ⟨fd_L_made, F_L_made⟩ := c.d.def_ 13 (d := D_L_made) rfl
  obtain ⟨fd_L_steps, F_L_steps⟩ := c.d.def_ 14 (d := D_L_steps) rfl
  obtain ⟨fd_rests_of, F_rests_of⟩ := c.d.def_ 15 (d := D_rests_of) rfl
  obtain ⟨fd_values_of, F_values_of⟩ := c.d.def_ 16 (d := D_values_of) rfl
  obtain ⟨fd_aim_of, F_aim_of⟩ := c.d.def_ 17 (d := D_aim_of) rfl
  obtain ⟨fd_many_steps, F_many_steps⟩ := c.d.def_ 18 (d := D_many_steps) rfl
  obtain ⟨fd_press_key, F_press_key⟩ := c.d.def_ 19 (d := D_press_key) rfl
  obtain ⟨fd_parting_of, F_parting_of⟩ := c.d.def_ 20 (d := D_parting_of) rfl
  obtain ⟨fd_Field___eq__, F_Field___eq__⟩ := c.d.def_ 21 (d := D_Field___eq__) rfl
  obtain ⟨fd_need_field, F_need_field⟩ := c.d.def_ 22 (d := D_need_field) rfl
  obtain ⟨fd_need_both, F_need_both⟩ := c.d.def_ 23 (d := D_need_both) rfl
  obtain ⟨fd_alike, F_alike⟩ := c.d.def_ 24 (d := D_alike) rfl
  obtain ⟨fd_Field___eq__t, F_Field___eq__t⟩ := c.d.def_ 25 (d := D_Field___eq__t) rfl
  obtain ⟨fd_need_value, F_need_value⟩ := c.d.def_ 26 (d := D_need_value) rfl
  obtain ⟨fd_need_row, F_need_row⟩ := c.d.def_ 27 (d := D_need_row) rfl
  obtain ⟨fd_press_row, F_press_row⟩ := c.d.def_ 28 (d := D_press_row) rfl
  obtain ⟨fd_Field___call__, F_Field___call__⟩ := c.d.def_ 29 (d := D_Field___call__) rfl
  obtain ⟨fd_L_nearest, F_L_nearest⟩ := c.d.def_ 30 (d := D_L_nearest) rfl
  obtain ⟨fd_L_key, F_L_key⟩ := c.d.def_ 31 (d := D_L_key) rfl
  obtain ⟨fd_L_pressed, F_L_pressed⟩ := c.d.def_ 32 (d := D_L_pressed) rfl
  obtain ⟨fd_Field___len__, F_Field___len__⟩ := c.d.def_ 33 (d := D_Field___len__) rfl
  obtain ⟨fd_Field___getitem__, F_Field___getitem__⟩ := c.d.def_ 34 (d := D_Field___getitem__) rfl
  obtain ⟨fd_is_on, F_is_on⟩ := c.d.def_ 35 (d := D_is_on) rfl
  obtain ⟨fd_Field___contains__, F_Field___contains__⟩ := c.d.def_ 36 (d := D_Field___contains__) rfl
  obtain ⟨fd_L_error, F_L_error⟩ := c.d.def_ 37 (d := D_L_error) rfl
  obtain ⟨fd_law, F_law⟩ := c.d.def_ 38 (d := D_law) rfl
  have e := hfa0.symm.trans (He.glo_ok X G (c.d.fact 38 (f := .glo "law") rfl))
  cases e
  have cm := c.more
  unfold hex at cm
  obtain ⟨cmi_Field, cm⟩ := He.ba cm
  have i_Field := clsI_ok cmi_Field
  obtain ⟨cmp, cm⟩ := He.ba cm
  obtain ⟨pr_Field_source, prf⟩ := prop_of cmp
  obtain ⟨fd_Field_source, F_Field_source⟩ := prop_fun (nm := "source") (params := defArgs s_Field_source) (body := defBody s_Field_source) (scope := defScope s_Field_source) c.io prf
  have b_is_between : Binds K fd_is_between ["thing", "low", "high"] [] := FunD.bindsN F_is_between fun _ _ _ _ _ _ us hl => match us, hl with | [_, _, _], _ => rfl
  have b_is_row : Binds K fd_is_row ["thing"] [] := FunD.bindsN F_is_row fun _ _ _ _ _ _ us hl => match us, hl with | [_], _ => rfl
  have b_L_source : Binds K fd_L_source ["_law_script", "_law_index"] [] := FunD.bindsN F_L_source fun _ _ _ _ _ _ us hl => match us, hl with | [_, _], _ => rfl
  have b_L_draw : Binds K fd_L_draw ["_law_source_here", "_law_size"] [] := FunD.bindsN F_L_draw fun _ _ _ _ _ _ us hl => match us, hl with | [_, _], _ => rfl
  have b_L_choice : Binds K fd_L_choice ["_law_source_here", "_law_items"] [] := FunD.bindsN F_L_choice fun _ _ _ _ _ _ us hl => match us, hl with | [_, _], _ => rfl
  have b_L_field : Binds K fd_L_field ["_law_source_here", "_law_wide"] [] := FunD.bindsN F_L_field fun _ _ _ _ _ _ us hl => match us, hl with | [_, _], _ => rfl
  have b_grid_of : Binds K fd_grid_of ["field"] [] := FunD.bindsN F_grid_of fun _ _ _ _ _ _ us hl => match us, hl with | [_], _ => rfl
  have b_is_word : Binds K fd_is_word ["thing", "words"] [] := FunD.bindsN F_is_word fun _ _ _ _ _ _ us hl => match us, hl with | [_, _], _ => rfl
  have b_is_field : Binds K fd_is_field ["thing"] [] := FunD.bindsN F_is_field fun _ _ _ _ _ _ us hl => match us, hl with | [_], _ => rfl
  have b_L_near : Binds K fd_L_near ["_law_source_here", "_law_field_here"] [] := FunD.bindsN F_L_near fun _ _ _ _ _ _ us hl => match us, hl with | [_, _], _ => rfl
  have b_L_value : Binds K fd_L_value ["_law_source_here", "_law_field_here"] [] := FunD.bindsN F_L_value fun _ _ _ _ _ _ us hl => match us, hl with | [_, _], _ => rfl
  have b_L_row : Binds K fd_L_row ["_law_source_here", "_law_most"] [] := FunD.bindsN F_L_row fun _ _ _ _ _ _ us hl => match us, hl with | [_, _], _ => rfl
  have b_Field___init__ : Binds K fd_Field___init__ ["self", "low", "high", "step", "base", "off", "ends", "big"] [] := by
    obtain ⟨ds, hd, hb⟩ := FunD.binds1 (ps := ["self", "low", "high", "step", "base", "off", "ends", "big"]) F_Field___init__ 8 5 (fun z => nomatch z) rfl fun _ _ _ _ _ _ _ us its hl hi => match us, hl, its, hi with | [_, _, _, _, _, _, _, _], _, [_, _, _, _, _], _ => ⟨_, rfl, rfl⟩
    cases hd
    exact hb
  have b_L_made : Binds K fd_L_made ["_law_field_here"] [] := FunD.bindsN F_L_made fun _ _ _ _ _ _ us hl => match us, hl with | [_], _ => rfl
  have b_L_steps : Binds K fd_L_steps ["_law_field_here"] [] := FunD.bindsN F_L_steps fun _ _ _ _ _ _ us hl => match us, hl with | [_], _ => rfl
  have b_rests_of : Binds K fd_rests_of ["field"] [] := FunD.bindsN F_rests_of fun _ _ _ _ _ _ us hl => match us, hl with | [_], _ => rfl
  have b_values_of : Binds K fd_values_of ["field", "many"] [] := FunD.bindsN F_values_of fun _ _ _ _ _ _ us hl => match us, hl with | [_, _], _ => rfl
  have b_aim_of : Binds K fd_aim_of ["field", "value", "many"] [] := FunD.bindsN F_aim_of fun _ _ _ _ _ _ us hl => match us, hl with | [_, _, _], _ => rfl
  have b_many_steps : Binds K fd_many_steps ["field", "key"] [] := FunD.bindsN F_many_steps fun _ _ _ _ _ _ us hl => match us, hl with | [_, _], _ => rfl
  have b_press_key : Binds K fd_press_key ["field", "value", "key"] [] := FunD.bindsN F_press_key fun _ _ _ _ _ _ us hl => match us, hl with | [_, _, _], _ => rfl
  have b_parting_of : Binds K fd_parting_of ["one", "other"] [] := FunD.bindsN F_parting_of fun _ _ _ _ _ _ us hl => match us, hl with | [_, _], _ => rfl
  have b_Field___eq__ : Binds K fd_Field___eq__ ["self", "other"] [] := FunD.bindsN F_Field___eq__ fun _ _ _ _ _ _ us hl => match us, hl with | [_, _], _ => rfl
  have b_need_field : Binds K fd_need_field ["field"] [] := FunD.bindsN F_need_field fun _ _ _ _ _ _ us hl => match us, hl with | [_], _ => rfl
  have b_need_both : Binds K fd_need_both ["one", "other"] [] := FunD.bindsN F_need_both fun _ _ _ _ _ _ us hl => match us, hl with | [_, _], _ => rfl
  have b_alike : Binds K fd_alike ["one", "other"] [] := FunD.bindsN F_alike fun _ _ _ _ _ _ us hl => match us, hl with | [_, _], _ => rfl
  have b_Field___eq__t : Binds K fd_Field___eq__t ["self", "other"] [] := FunD.bindsN F_Field___eq__t fun _ _ _ _ _ _ us hl => match us, hl with | [_, _], _ => rfl
  have b_need_value : Binds K fd_need_value ["field", "value"] [] := FunD.bindsN F_need_value fun _ _ _ _ _ _ us hl => match us, hl with | [_, _], _ => rfl
  have b_need_row : Binds K fd_need_row ["row"] [] := FunD.bindsN F_need_row fun _ _ _ _ _ _ us hl => match us, hl with | [_], _ => rfl
  have b_press_row : Binds K fd_press_row ["field", "value", "row"] [] := FunD.bindsN F_press_row fun _ _ _ _ _ _ us hl => match us, hl with | [_, _, _], _ => rfl
  have b_Field___call__ : Binds K fd_Field___call__ ["self", "value", "row"] [] := FunD.bindsN F_Field___call__ fun _ _ _ _ _ _ us hl => match us, hl with | [_, _, _], _ => rfl
  have b_L_nearest : Binds K fd_L_nearest ["_law_field_here", "_law_value_here"] [] := FunD.bindsN F_L_nearest fun _ _ _ _ _ _ us hl => match us, hl with | [_, _], _ => rfl
  have b_L_key : Binds K fd_L_key ["_law_field_here", "_law_value_here", "_law_key_here"] [] := FunD.bindsN F_L_key fun _ _ _ _ _ _ us hl => match us, hl with | [_, _, _], _ => rfl
  have b_L_pressed : Binds K fd_L_pressed ["_law_field_here", "_law_value_here", "_law_row_here"] [] := FunD.bindsN F_L_pressed fun _ _ _ _ _ _ us hl => match us, hl with | [_, _, _], _ => rfl
  have b_Field___len__ : Binds K fd_Field___len__ ["self"] [] := FunD.bindsN F_Field___len__ fun _ _ _ _ _ _ us hl => match us, hl with | [_], _ => rfl
  have b_Field___getitem__ : Binds K fd_Field___getitem__ ["self", "index"] [] := FunD.bindsN F_Field___getitem__ fun _ _ _ _ _ _ us hl => match us, hl with | [_, _], _ => rfl
  have b_is_on : Binds K fd_is_on ["field", "value"] [] := FunD.bindsN F_is_on fun _ _ _ _ _ _ us hl => match us, hl with | [_, _], _ => rfl
  have b_Field___contains__ : Binds K fd_Field___contains__ ["self", "thing"] [] := FunD.bindsN F_Field___contains__ fun _ _ _ _ _ _ us hl => match us, hl with | [_, _], _ => rfl
  have b_L_error : Binds K fd_L_error ["_law_call"] [] := FunD.bindsN F_L_error fun _ _ _ _ _ _ us hl => match us, hl with | [_], _ => rfl
  have b_law := FunD.bindsA (ps := ["_law_script"]) F_law fun _ _ _ _ _ _ us hl => match us, hl with | [_], _ => rfl
  have b_Field_source : Binds K fd_Field_source ["self"] [] := FunD.bindsN F_Field_source fun _ _ _ _ _ _ us hl => match us, hl with | [_], _ => rfl
  obtain ⟨cme, cma⟩ := He.ba cm
  have E := err_of X G (by decide) cme
  have T : Top K mg := {
    b_len := He.free_ok X G (c.d.fact 39 (f := .free "len") rfl)
    b_abs := He.free_ok X G (c.d.fact 40 (f := .free "abs") rfl)
    b_all := He.free_ok X G (c.d.fact 41 (f := .free "all") rfl)
    b_any := He.free_ok X G (c.d.fact 42 (f := .free "any") rfl)
    b_range := He.free_ok X G (c.d.fact 43 (f := .free "range") rfl)
    b_int := He.free_ok X G (c.d.fact 44 (f := .free "int") rfl)
    b_str := He.free_ok X G (c.d.fact 45 (f := .free "str") rfl)
    b_tuple := He.free_ok X G (c.d.fact 46 (f := .free "tuple") rfl)
    b_bool := He.free_ok X G (c.d.fact 47 (f := .free "bool") rfl)
    b_isinstance := He.free_ok X G (c.d.fact 48 (f := .free "isinstance") rfl)
    b_min := He.free_ok X G (c.d.fact 49 (f := .free "min") rfl)
    b_max := He.free_ok X G (c.d.fact 50 (f := .free "max") rfl)
    b_list := He.free_ok X G (c.d.fact 51 (f := .free "list") rfl)
    b_sum := He.free_ok X G (c.d.fact 52 (f := .free "sum") rfl)
    b_sorted := He.free_ok X G (c.d.fact 53 (f := .free "sorted") rfl)
    b_set := He.free_ok X G (c.d.fact 54 (f := .free "set") rfl)
    b_zip := He.free_ok X G (c.d.fact 55 (f := .free "zip") rfl)
    b_enumerate := He.free_ok X G (c.d.fact 56 (f := .free "enumerate") rfl)
    b_dict := He.free_ok X G (c.d.fact 57 (f := .free "dict") rfl)
    x_InvalidField := E.e "InvalidField" (by decide)
    x_InvalidValue := E.e "InvalidValue" (by decide)
    x_InvalidRow := E.e "InvalidRow" (by decide)
    x_InvalidIndex := E.e "InvalidIndex" (by decide)
    x_Unlike := E.e "Unlike" (by decide)
    E := E
    i_Field := i_Field
    k_Field := ⟨He.cls_ok (c.d.fact 64 (f := .cls "Field") rfl), He.mkr_ok (c.d.fact 65 (f := .mkr "Field") rfl), fun f hf => by cases List.mem_singleton.mp hf; first | exact He.noat_ok (c.d.fact 67 (f := .noat "Field" "parts") rfl), He.glo_ok X G (c.d.fact 66 (f := .glo "Field") rfl)⟩
    g_MOST := He.int_ok X G (c.d.fact 58 (f := .int "MOST" 1000000000000) rfl)
    g_MOST_KEYS := He.int_ok X G (c.d.fact 59 (f := .int "MOST_KEYS" 40) rfl)
    g_KEYS := He.str_ok X G (c.d.fact 60 (f := .str "KEYS" "udUDhe") rfl)
    g_OFFS := ⟨_, He.glo_ok X G (c.d.fact 61 (f := .glo "OFFS") rfl), fun H => tab_of c.ts 0 (p := ("OFFS", ["add", "near", "next"])) rfl H⟩
    g_ENDS := ⟨_, He.glo_ok X G (c.d.fact 62 (f := .glo "ENDS") rfl), fun H => tab_of c.ts 1 (p := ("ENDS", ["round", "stay", "stop"])) rfl H⟩
    g_FEW := He.int_ok X G (c.d.fact 63 (f := .int "FEW" 400) rfl) }
  refine ⟨fd_law, fun s v => b_law s [v] rfl, fun base _ _ hB => ?_⟩
  have C_is_between : Cal P w K mg base CX0 1 "is_between" ["thing", "low", "high"] (SP_is_between K) _ _ := ⟨ok_is_between T F_is_between, He.glo_ok X G (c.d.fact 0 (f := .glo "is_between") rfl), F_is_between.kp, b_is_between⟩
  have C_is_row : Cal P w K mg base CX0 1 "is_row" ["thing"] (SP_is_row K) _ _ := ⟨ok_is_row T F_is_row, He.glo_ok X G (c.d.fact 1 (f := .glo "is_row") rfl), F_is_row.kp, b_is_row⟩
  have C_L_source : Cal P w K mg base CX0 1 "_law_source" ["_law_script", "_law_index"] (SP_L_source K) _ _ := ⟨ok_L_source T F_L_source, He.glo_ok X G (c.d.fact 2 (f := .glo "_law_source") rfl), F_L_source.kp, b_L_source⟩
  have C_L_draw : Cal P w K mg base CX0 1 "_law_draw" ["_law_source_here", "_law_size"] (SP_L_draw K) _ _ := ⟨ok_L_draw T F_L_draw, He.glo_ok X G (c.d.fact 3 (f := .glo "_law_draw") rfl), F_L_draw.kp, b_L_draw⟩
  have C_L_choice : Cal P w K mg base CX0 2 "_law_choice" ["_law_source_here", "_law_items"] (SP_L_choice K) _ _ := ⟨ok_L_choice T C_L_draw F_L_choice, He.glo_ok X G (c.d.fact 4 (f := .glo "_law_choice") rfl), F_L_choice.kp, b_L_choice⟩
  have C_L_field : Cal P w K mg base CX0 3 "_law_field" ["_law_source_here", "_law_wide"] (SP_L_field K) _ _ := ⟨ok_L_field T C_L_draw C_L_choice F_L_field, He.glo_ok X G (c.d.fact 5 (f := .glo "_law_field") rfl), F_L_field.kp, b_L_field⟩
  have C_grid_of : Cal P w K mg base CX0 1 "grid_of" ["field"] (SP_grid_of K) _ _ := ⟨ok_grid_of T F_grid_of, He.glo_ok X G (c.d.fact 6 (f := .glo "grid_of") rfl), F_grid_of.kp, b_grid_of⟩
  have C_is_word : Cal P w K mg base CX0 1 "is_word" ["thing", "words"] (SP_is_word K) _ _ := ⟨ok_is_word T F_is_word, He.glo_ok X G (c.d.fact 7 (f := .glo "is_word") rfl), F_is_word.kp, b_is_word⟩
  have C_is_field : Cal P w K mg base CX0 2 "is_field" ["thing"] (SP_is_field K) _ _ := ⟨ok_is_field T C_is_between C_is_word C_grid_of F_is_field, He.glo_ok X G (c.d.fact 8 (f := .glo "is_field") rfl), F_is_field.kp, b_is_field⟩
  have C_L_near : Cal P w K mg base CX0 3 "_law_near" ["_law_source_here", "_law_field_here"] (SP_L_near K) _ _ := ⟨ok_L_near T C_L_draw C_L_choice C_is_field F_L_near, He.glo_ok X G (c.d.fact 9 (f := .glo "_law_near") rfl), F_L_near.kp, b_L_near⟩
  have C_L_value : Cal P w K mg base CX0 3 "_law_value" ["_law_source_here", "_law_field_here"] (SP_L_value K) _ _ := ⟨ok_L_value T C_L_draw C_L_choice F_L_value, He.glo_ok X G (c.d.fact 10 (f := .glo "_law_value") rfl), F_L_value.kp, b_L_value⟩
  have C_L_row : Cal P w K mg base CX0 3 "_law_row" ["_law_source_here", "_law_most"] (SP_L_row K) _ _ := ⟨ok_L_row T C_L_choice C_L_draw F_L_row, He.glo_ok X G (c.d.fact 11 (f := .glo "_law_row") rfl), F_L_row.kp, b_L_row⟩
  have me_Field___init__ : Meth K (He.ga K "Field") "__init__" (He.ma K (He.ga K "Field") "__init__") := He.meth_ok (c.d.fact 12 (f := .meth "Field" "__init__") rfl)
  have C_Field___init__ : CalM P w K mg base CX0 3 "Field" "__init__" ["self", "low", "high", "step", "base", "off", "ends", "big"] (SP_Field___init__ K) _ := ⟨ok_Field___init__ T C_is_field F_Field___init__, me_Field___init__, b_Field___init__, fnIn_of F_Field___init__ me_Field___init__.fn⟩
  have C_L_made : Cal P w K mg base CX0 7 "_law_made" ["_law_field_here"] (SP_L_made K) _ _ := ⟨ok_L_made T C_Field___init__ F_L_made, He.glo_ok X G (c.d.fact 13 (f := .glo "_law_made") rfl), F_L_made.kp, b_L_made⟩
  have C_L_steps : Cal P w K mg base CX0 1 "_law_steps" ["_law_field_here"] (SP_L_steps K) _ _ := ⟨ok_L_steps T F_L_steps, He.glo_ok X G (c.d.fact 14 (f := .glo "_law_steps") rfl), F_L_steps.kp, b_L_steps⟩
  have C_Field_source : CalPr P w K mg base 1 "Field" "source" ["self"] (SP_Field_source K) _ := ⟨ok_Field_source T F_Field_source, pr_Field_source, b_Field_source⟩
  have C_rests_of : Cal P w K mg base CX0 1 "rests_of" ["field"] (SP_rests_of K) _ _ := ⟨ok_rests_of T F_rests_of, He.glo_ok X G (c.d.fact 15 (f := .glo "rests_of") rfl), F_rests_of.kp, b_rests_of⟩
  have C_values_of : Cal P w K mg base CX0 2 "values_of" ["field", "many"] (SP_values_of K) _ _ := ⟨ok_values_of T C_rests_of F_values_of, He.glo_ok X G (c.d.fact 16 (f := .glo "values_of") rfl), F_values_of.kp, b_values_of⟩
  have C_aim_of : Cal P w K mg base CX0 1 "aim_of" ["field", "value", "many"] (SP_aim_of K) _ _ := ⟨ok_aim_of T F_aim_of, He.glo_ok X G (c.d.fact 17 (f := .glo "aim_of") rfl), F_aim_of.kp, b_aim_of⟩
  have C_many_steps : Cal P w K mg base CX0 1 "many_steps" ["field", "key"] (SP_many_steps K) _ _ := ⟨ok_many_steps T F_many_steps, He.glo_ok X G (c.d.fact 18 (f := .glo "many_steps") rfl), F_many_steps.kp, b_many_steps⟩
  have C_press_key : Cal P w K mg base CX0 2 "press_key" ["field", "value", "key"] (SP_press_key K) _ _ := ⟨ok_press_key T C_many_steps C_aim_of F_press_key, He.glo_ok X G (c.d.fact 19 (f := .glo "press_key") rfl), F_press_key.kp, b_press_key⟩
  have C_parting_of : Cal P w K mg base CX0 3 "parting_of" ["one", "other"] (SP_parting_of K) _ _ := ⟨ok_parting_of T C_values_of C_press_key F_parting_of, He.glo_ok X G (c.d.fact 20 (f := .glo "parting_of") rfl), F_parting_of.kp, b_parting_of⟩
  have me_Field___eq__ : Meth K (He.ga K "Field") "__eq__" (He.ma K (He.ga K "Field") "__eq__") := He.meth_ok (c.d.fact 21 (f := .meth "Field" "__eq__") rfl)
  have C_Field___eq__ : CalM P w K mg base CX0 4 "Field" "__eq__" ["self", "other"] (SP_Field___eq__ K) _ := ⟨ok_Field___eq__ T C_parting_of F_Field___eq__, me_Field___eq__, b_Field___eq__, fnIn_of F_Field___eq__ me_Field___eq__.fn⟩
  have C_need_field : Cal P w K mg base CX0 3 "need_field" ["field"] (SP_need_field K) _ _ := ⟨ok_need_field T C_is_field F_need_field, He.glo_ok X G (c.d.fact 22 (f := .glo "need_field") rfl), F_need_field.kp, b_need_field⟩
  have C_need_both : Cal P w K mg base CX0 4 "need_both" ["one", "other"] (SP_need_both K) _ _ := ⟨ok_need_both T C_need_field F_need_both, He.glo_ok X G (c.d.fact 23 (f := .glo "need_both") rfl), F_need_both.kp, b_need_both⟩
  have C_alike : Cal P w K mg base CX0 5 "alike" ["one", "other"] (SP_alike K) _ _ := ⟨ok_alike T C_need_both C_parting_of F_alike, He.glo_ok X G (c.d.fact 24 (f := .glo "alike") rfl), F_alike.kp, b_alike⟩
  have me_Field___eq__t : Meth K (He.ga K "Field") "__eq__" (He.ma K (He.ga K "Field") "__eq__") := He.meth_ok (c.d.fact 25 (f := .meth "Field" "__eq__") rfl)
  have C_Field___eq__t : CalM P w K mg base CX0 4 "Field" "__eq__" ["self", "other"] (SP_Field___eq__t K) _ := ⟨ok_Field___eq__t T C_parting_of F_Field___eq__t, me_Field___eq__t, b_Field___eq__t, fnIn_of F_Field___eq__t me_Field___eq__t.fn⟩
  have C_need_value : Cal P w K mg base CX0 2 "need_value" ["field", "value"] (SP_need_value K) _ _ := ⟨ok_need_value T C_is_between F_need_value, He.glo_ok X G (c.d.fact 26 (f := .glo "need_value") rfl), F_need_value.kp, b_need_value⟩
  have C_need_row : Cal P w K mg base CX0 2 "need_row" ["row"] (SP_need_row K) _ _ := ⟨ok_need_row T C_is_row F_need_row, He.glo_ok X G (c.d.fact 27 (f := .glo "need_row") rfl), F_need_row.kp, b_need_row⟩
  have C_press_row : Cal P w K mg base CX0 3 "press_row" ["field", "value", "row"] (SP_press_row K) _ _ := ⟨ok_press_row T C_press_key F_press_row, He.glo_ok X G (c.d.fact 28 (f := .glo "press_row") rfl), F_press_row.kp, b_press_row⟩
  have me_Field___call__ : Meth K (He.ga K "Field") "__call__" (He.ma K (He.ga K "Field") "__call__") := He.meth_ok (c.d.fact 29 (f := .meth "Field" "__call__") rfl)
  have C_Field___call__ : CalM P w K mg base CX0 4 "Field" "__call__" ["self", "value", "row"] (SP_Field___call__ K) _ := ⟨ok_Field___call__ T C_need_value C_need_row C_press_row F_Field___call__, me_Field___call__, b_Field___call__, fnIn_of F_Field___call__ me_Field___call__.fn⟩
  have C_L_nearest : Cal P w K mg base CX0 1 "_law_nearest" ["_law_field_here", "_law_value_here"] (SP_L_nearest K) _ _ := ⟨ok_L_nearest T F_L_nearest, He.glo_ok X G (c.d.fact 30 (f := .glo "_law_nearest") rfl), F_L_nearest.kp, b_L_nearest⟩
  have C_L_key : Cal P w K mg base CX0 2 "_law_key" ["_law_field_here", "_law_value_here", "_law_key_here"] (SP_L_key K) _ _ := ⟨ok_L_key T C_L_nearest F_L_key, He.glo_ok X G (c.d.fact 31 (f := .glo "_law_key") rfl), F_L_key.kp, b_L_key⟩
  have C_L_pressed : Cal P w K mg base CX0 3 "_law_pressed" ["_law_field_here", "_law_value_here", "_law_row_here"] (SP_L_pressed K) _ _ := ⟨ok_L_pressed T C_L_key F_L_pressed, He.glo_ok X G (c.d.fact 32 (f := .glo "_law_pressed") rfl), F_L_pressed.kp, b_L_pressed⟩
  have me_Field___len__ : Meth K (He.ga K "Field") "__len__" (He.ma K (He.ga K "Field") "__len__") := He.meth_ok (c.d.fact 33 (f := .meth "Field" "__len__") rfl)
  have C_Field___len__ : CalM P w K mg base CX0 2 "Field" "__len__" ["self"] (SP_Field___len__ K) _ := ⟨ok_Field___len__ T C_grid_of F_Field___len__, me_Field___len__, b_Field___len__, fnIn_of F_Field___len__ me_Field___len__.fn⟩
  have me_Field___getitem__ : Meth K (He.ga K "Field") "__getitem__" (He.ma K (He.ga K "Field") "__getitem__") := He.meth_ok (c.d.fact 34 (f := .meth "Field" "__getitem__") rfl)
  have C_Field___getitem__ : CalM P w K mg base CX0 2 "Field" "__getitem__" ["self", "index"] (SP_Field___getitem__ K) _ := ⟨ok_Field___getitem__ T C_grid_of C_is_between F_Field___getitem__, me_Field___getitem__, b_Field___getitem__, fnIn_of F_Field___getitem__ me_Field___getitem__.fn⟩
  have C_is_on : Cal P w K mg base CX0 1 "is_on" ["field", "value"] (SP_is_on K) _ _ := ⟨ok_is_on T F_is_on, He.glo_ok X G (c.d.fact 35 (f := .glo "is_on") rfl), F_is_on.kp, b_is_on⟩
  have me_Field___contains__ : Meth K (He.ga K "Field") "__contains__" (He.ma K (He.ga K "Field") "__contains__") := He.meth_ok (c.d.fact 36 (f := .meth "Field" "__contains__") rfl)
  have C_Field___contains__ : CalM P w K mg base CX0 2 "Field" "__contains__" ["self", "thing"] (SP_Field___contains__ K) _ := ⟨ok_Field___contains__ T C_is_between C_is_on F_Field___contains__, me_Field___contains__, b_Field___contains__, fnIn_of F_Field___contains__ me_Field___contains__.fn⟩
  have X_need_value : Cal P w K mg base (L2N.CX P w) 2 "need_value" ["field", "value"] (spE K 2 BAD_need_value) _ _ := ⟨xk_need_value T C_is_between F_need_value, He.glo_ok X G (c.d.fact 26 (f := .glo "need_value") rfl), F_need_value.kp, b_need_value⟩
  have X_need_row : Cal P w K mg base (L2N.CX P w) 2 "need_row" ["row"] (spE K 1 BAD_need_row) _ _ := ⟨xk_need_row T C_is_row F_need_row, He.glo_ok X G (c.d.fact 27 (f := .glo "need_row") rfl), F_need_row.kp, b_need_row⟩
  have X_Field___init__ : CalM P w K mg base (L2N.CX P w) 3 "Field" "__init__" ["self", "low", "high", "step", "base", "off", "ends", "big"] (spInitE K (He.ga K "Field")) _ := ⟨xk_Field___init__ T C_is_field F_Field___init__, me_Field___init__, b_Field___init__, fnIn_of F_Field___init__ me_Field___init__.fn⟩
  have X_Field___getitem__ : CalM P w K mg base (L2N.CX P w) 2 "Field" "__getitem__" ["self", "index"] (spEM1 K (He.ga K "Field") 1 badIx) _ := ⟨xk_Field___getitem__ T C_grid_of C_is_between F_Field___getitem__, me_Field___getitem__, b_Field___getitem__, fnIn_of F_Field___getitem__ me_Field___getitem__.fn⟩
  have X_Field___call__ : CalM P w K mg base (L2N.CX P w) 4 "Field" "__call__" ["self", "value", "row"] (spEM1 K (He.ga K "Field") 2 badCall) _ := ⟨xk_Field___call__ T C_need_value X_need_value X_need_row F_Field___call__, me_Field___call__, b_Field___call__, fnIn_of F_Field___call__ me_Field___call__.fn⟩
  have D2 : BndD K fd_Field___init__ ["self", "low", "high", "step", "base", "off", "ends", "big"] [.int 1, .int 0, .str "next", .str "stop", .int 10] := FunD.binds1 (ps := ["self", "low", "high", "step", "base", "off", "ends", "big"]) F_Field___init__ 3 0 (fun z => nomatch z) rfl fun _ _ _ _ _ _ _ us its hl hi => match us, hl, its, hi with | [_, _, _], _, [_, _, _, _, _], _ => ⟨_, rfl, rfl⟩
  have D3 : BndD K fd_Field___init__ ["self", "low", "high", "step", "base", "off", "ends", "big"] [.int 0, .str "next", .str "stop", .int 10] := FunD.binds1 (ps := ["self", "low", "high", "step", "base", "off", "ends", "big"]) F_Field___init__ 4 1 (fun z => nomatch z) rfl fun _ _ _ _ _ _ _ us its hl hi => match us, hl, its, hi with | [_, _, _, _], _, [_, _, _, _, _], _ => ⟨_, rfl, rfl⟩
  have D5 : BndD K fd_Field___init__ ["self", "low", "high", "step", "base", "off", "ends", "big"] [.str "stop", .int 10] := FunD.binds1 (ps := ["self", "low", "high", "step", "base", "off", "ends", "big"]) F_Field___init__ 6 3 (fun z => nomatch z) rfl fun _ _ _ _ _ _ _ us its hl hi => match us, hl, its, hi with | [_, _, _, _, _, _], _, [_, _, _, _, _], _ => ⟨_, rfl, rfl⟩
  have m_law : (("law", none) : He.Defn) ∈ htf := by decide
  have B_law := hB _ (List.mem_map.mpr ⟨_, m_law, rfl⟩)
  exact ok_law T B_law (tabs_in m_law rfl) (tabs_uq cma m_law rfl) C_L_source C_L_field C_L_near C_L_value C_L_row C_L_made C_L_steps C_Field_source C_Field___eq__ C_alike C_Field___eq__t C_Field___call__ C_L_pressed C_Field___len__ C_Field___getitem__ C_Field___contains__ C_L_choice C_Field___init__ X_Field___init__ X_Field___getitem__ X_Field___call__ D2 D3 D5 F_L_error (He.glo_ok X G (c.d.fact 37 (f := .glo "_law_error") rfl)) b_L_error F_law
end Sf
open PySem PySem.W PySem.Calls PyProof.Rows
set_option maxHeartbeats 0 in
theorem PySem.Challenge.cw_stepfields_k21_fields_as_values_holds : PySem.Challenge.rw_stepfields_k21_fields_as_values.Holds := by
  w_on; o_law
  refine HandSHeadRun.head_any (r := OpenLaw.row PySem.Challenge.rw_stepfields_k21_fields_as_values) (q := view (OpenLaw.row PySem.Challenge.rw_stepfields_k21_fields_as_values).prog [49]) (H := Sf.hk) (ob := Sf.hob) (M := 9000) (loose := Sf.hloose) (d := HandSHeadRun.topDef (OpenLaw.row PySem.Challenge.rw_stepfields_k21_fields_as_values).prog 49) (kwd := []) Sf.hob_eq
    (by kernel_rfl) (fun s => by kernel_rfl) Sf.hrun (by kernel_rfl) (by kernel_rfl) (by kernel_rfl) (by rfl) (by first | assumption | decide +kernel) (by decide +kernel) ⟨rfl, rfl, rfl, rfl, rfl, by decide +kernel⟩ ?hw ?hc
  case hw => w_witness2
  case hc =>
    refine LamX.walk_ofTsE (l := PySem.Challenge.rw_stepfields_k21_fields_as_values) (n := 63) (k := 9) (x := "_law_script") (CX := fun _ => C8.CX0) rfl (by decide) (by kernel_rfl) ⟨rfl, by decide, by decide⟩ ?F (fun _ _ _ _ _ z => z)
    intro w mg fa h Y G hmg0
    obtain ⟨K, KX, c⟩ := Y
    have hmg : mg ("law" : PySem.Str) = some (.ref fa) := by
      have e : (HandSHeadRun.topDef (OpenLaw.row PySem.Challenge.rw_stepfields_k21_fields_as_values).prog 49).name = ("law" : PySem.Str) := by kernel_rfl
      rw [← e]
      exact hmg0
    obtain ⟨fd, hb, hF⟩ := Sf.hfacts (P := (PySem.Challenge.rw_stepfields_k21_fields_as_values).prog) (w := w) KX G hmg c
    refine ⟨K, KX, fd, Sf.htf.map (He.cT K), Sf.SP_lawT K (Sf.tabsL K Sf.htf), fun p hp => ?_, fun p hp => ?_, fun p hp => ?_, hb, fun H a ns hl hO hT hS => ⟨a, ns, rfl, hS, hl, Sf.tabs_nil hT, fun _ => rfl⟩, hF⟩
    · obtain ⟨r, hr, rfl⟩ := List.mem_map.mp hp
      exact c.empty r hr
    · obtain ⟨r, hr, rfl⟩ := List.mem_map.mp hp
      exact c.out r hr
    · obtain ⟨r, hr, rfl⟩ := List.mem_map.mp hp
      exact codeHd_of_K KX (c.hd r hr)
